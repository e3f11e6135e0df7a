import Derived.Test.YtafbhakmkbehiaaGreatDoorZ12
open Go.Proofs.Tryz
set_option maxHeartbeats 4000000
set_option maxRecDepth 100000
namespace Go.Proofs.YtafbhakmkbehiaaGreatDoor
open Go.RowKit Go.Vx
variable{a:List Nat}{i n x:Nat}{S:Nat→Prop}{v wv:Value}
open TollSha
open Go.Toll (Gw)
theorem el5:DT prog 5 1 1:=by unfold DT;kernel_rfl
theorem DR(bs:List Nat):(bs.map b8).all (·.oneCell')=true:=by
 rw[List.all_map];exact List.all_eq_true.2 fun _ _=>rfl
theorem Cr(a c:Nat):decide ((a:Int)>(c:Int))=decide (a>c):=decide_eq_decide.2 (by omega)
theorem A5{w w':World}{size:Nat}{l:List Value}(h:AO w v n size l S)(hb:Bw w w'):AO w' v n size l S:=by
 obtain⟨ao,cap,h1,h2,h3,h4⟩:=h;exact⟨ao,cap,h1,h2,h3,h4.imp id fun⟨g,a,b,c⟩=>⟨g,a,b,fun i x hx=>hb.cell (c i x hx)⟩⟩
theorem Im{α:Type}{l:List α}{x:α}(h:l[i]? =some x):l.take (i+1)=l.take i++[x]:=by
 obtain⟨hi,e⟩:=List.getElem?_eq_some_iff.1 h;rw[List.take_succ_eq_append_getElem hi,e]
def HH(a:List Nat)(wv:Value):List Value:=[uv (stH a).a,uv (stH a).b,uv (stH a).c,uv (stH a).d,uv (stH a).e,uv (stH a).f,uv (stH a).g,uv (stH a).h,wv,.int .i64 (a.length:Nat)]
def ck(w:World)(g:Nat)(wv:Value)(a:List Nat):Prop:= ∀j v,(HH a wv)[j]? =some v→w.cell? ⟨g,j,none⟩=some v
theorem Xe(a:Addr)(p q:Operand)(w:World):(do eqGuard .eql 211 p q (.pointer (some a)) (.pointer none);binOp .eql 211 (.pointer (some a)) (.pointer none):Sem Value).run prog w= .ok (.bool false) w:=by
 go_simp
theorem gX(x:Nat)(p q:Operand)(w:World):(do eqGuard .rem 3 p q (.int .i64 (x:Nat)) (.int .i64 64);binOp .rem 3 (.int .i64 (x:Nat)) (.int .i64 64):Sem Value).run prog w= .ok (.int .i64 ((x %64:Nat):Int)) w:=by
 have h2:((x:Int).tmod 64)=((x %64:Nat):Int):=by rw[Int.tmod_eq_emod_of_nonneg (Int.natCast_nonneg _)];rfl
 go_simp
 all_goals (try exact h2)
 all_goals (try omega)
theorem pI(hx:x<1099511627776)(w:World):(convert 3 49 (.int .i64 (x:Nat))).run prog w= .ok (.int .u64 ((x:Nat):Int)) w:=by
 have e:IntKind.u64.wrap (x:Int)=(x:Int):=by rw[IntKind.wrap_u64];omega
 unfold convert
 go_simp
 try exact e
theorem fS(hx:x<1099511627776)(p q:Operand)(w:World):(do eqGuard .shl 49 p q (.int .u64 (x:Nat)) (.int .u64 3);binOp .shl 49 (.int .u64 (x:Nat)) (.int .u64 3):Sem Value).run prog w= .ok (.int .u64 ((8*x:Nat):Int)) w:=by
 have e:IntKind.u64.wrap ((x:Int)*8)=((8*x:Nat):Int):=by rw[IntKind.wrap_u64];omega
 go_simp
 try exact e
 try omega
theorem lc(hn:n≤1000)(p q:Operand)(w:World):(do eqGuard .mul 3 p q (.int .i64 8) (.int .i64 (n:Nat));binOp .mul 3 (.int .i64 8) (.int .i64 (n:Nat)):Sem Value).run prog w= .ok (.int .i64 ((8*n:Nat):Int)) w:=by
 have e:IntKind.i64.wrap (8*(n:Int))=((8*n:Nat):Int):=by rw[Ah (by omega) (by omega)];omega
 go_simp
 try exact e
theorem fQ(m k:Nat)(hk:k<64)(p q:Operand)(w:World):(do eqGuard .shr 49 p q (.int .u64 (m:Nat)) (.int .i64 (k:Nat));binOp .shr 49 (.int .u64 (m:Nat)) (.int .i64 (k:Nat)):Sem Value).run prog w= .ok (.int .u64 ((m/2^k:Nat):Int)) w:=by
 have h1: ¬((k:Int)<0):=by omega
 go_simp
 try simp[h1]
 try rw[Nat.min_eq_left (by omega)]
theorem pG(x:Nat)(w:World):(convert 49 5 (.int .u64 (x:Nat))).run prog w= .ok (b8 (x %256)) w:=by
 have e:IntKind.u8.wrap (x:Int)=((x %256:Nat):Int):=by rw[IntKind.wrap_u8'];omega
 unfold convert b8
 go_simp
 try exact e
theorem pH(x:W)(w:World):(convert 247 5 (uv x)).run prog w= .ok (b8 (x.toNat %256)) w:=by
 have e:IntKind.u8.wrap (x.toNat:Int)=((x.toNat %256:Nat):Int):=by rw[IntKind.wrap_u8'];omega
 unfold convert b8 uv;generalize x.toNat=y at e;obtain⟨z,hz⟩: ∃z,y %256=z:=⟨_,rfl⟩
 rw[hz]at e⊢
 go_simp
 try exact e
theorem mI{m:Nat}(h:i<8):(F4 m)[i]? =some (m/2^(8*(7-i)) %256):=by
 have:i=0∨i=1∨i=2∨i=3∨i=4∨i=5∨i=6∨i=7:=by omega
 rcases this with rfl|rfl|rfl|rfl|rfl|rfl|rfl|rfl<;>rfl
theorem kP(h:x≤Cn n):decide ((((n %64+1+x) %64:Nat):Int)≠56)=decide (x<Cn n):=by
 unfold Cn at*;exact decide_eq_decide.2 (by omega)
def OL(l:List Nat):List Value:=l.map b8++List.replicate (32-l.length) (b8 0)
theorem Fi{l:List Nat}(h:l.length≤32):(OL l).length=32:=by simp[OL];omega
theorem Qn{l:List Nat}(x:Nat){k:Nat}(hk:k=l.length)(h:l.length<32):(OL l).take k++(b8 x).cells.toList++(OL l).drop (k+1)=OL (l++[x]):=by
 subst hk;have h1:(OL l).take l.length=l.map b8:=by rw[OL,List.take_append_of_le_length (by simp),List.take_of_length_le (by simp)]
 have h2:(OL l).drop (l.length+1)=List.replicate (32-(l.length+1)) (b8 0):=by
  rw[OL,List.drop_append,List.drop_of_length_le (by simp),List.nil_append,List.drop_replicate];congr 1
  simp;omega
 rw[h1,h2,OL,List.map_append,List.length_append];rfl
theorem sP{l:List Nat}(h:l.length=32):OL l=l.map b8:=by simp[OL,h]
theorem qN(x:W):Fc x=[(x>>>24).toNat %256,(x>>>16).toNat %256,(x>>>8).toNat %256,x.toNat %256]:=by
 simp only[Fc,BitVec.toNat_ushiftRight,Nat.shiftRight_eq_div_pow]
theorem Yz{H:St}(h:i<8):H.l[i]? =some (H.l.getD i 0#32):=by
 have:i<H.l.length:=h;simp[List.getD,this]
theorem np{H:St}(h:i<8):(H.l.take (i+1)).flatMap Fc=(H.l.take i).flatMap Fc++Fc (H.l.getD i 0#32):=by
 rw[Im (Yz h),List.flatMap_append];simp
theorem nq{H:St}(h:i≤8):((H.l.take i).flatMap Fc).length=4*i:=by
 have:=Xy (H.l.take i);unfold TollSha.out at this;rw[this,List.length_take];have:H.l.length=8:=rfl;omega
theorem er{j:Nat}(h:([uv (stH a).a,uv (stH a).b,uv (stH a).c,uv (stH a).d,uv (stH a).e,uv (stH a).f,uv (stH a).g,uv (stH a).h]:List Value)[j]? =some v):(HH a wv)[j]? =some v:=by
 unfold HH;rw[show([uv (stH a).a,uv (stH a).b,uv (stH a).c,uv (stH a).d,uv (stH a).e,uv (stH a).f,uv (stH a).g,uv (stH a).h,wv,.int .i64 (a.length:Nat)]:List Value)=[uv (stH a).a,uv (stH a).b,uv (stH a).c,uv (stH a).d,uv (stH a).e,uv (stH a).f,uv (stH a).g,uv (stH a).h]++[wv,.int .i64 (a.length:Nat)] from rfl];rw[List.getElem?_append_left (List.getElem?_eq_some_iff.1 h).1];exact h
theorem sG{g:Nat}(w:World)(hL:B6 w)(hs:ck w g wv a)(hw:AO w wv (stW a).length 1 ((stW a).map b8) S)(h8: ∀x∈a,x<256)(hm:a.length<1048576):Calls prog 144 #[.pointer (some ⟨g,0,none⟩)] w fun e w'=>e= .returned (.agg ((sha a).map b8).toArray)∧Bw w w':=by
 obtain⟨Pd,hPd⟩: ∃Pd,D3 a=Pd:=⟨_,rfl⟩
 have hwl:=Vn a;have hwlt:=Vm a;have hz64:Cn a.length<64:=Nat.mod_lt _ (by decide);have hWb:[]++(stW a).map b8++[b8 128]=(stW a++128::List.replicate 0 0).map b8:=by simp
 have hnb:64*nb a≤Pd.length:=by rw[←hPd];exact lT a
 have hpl:Pd.length %64=0:=by rw[←hPd];exact kN a
 have hge: ∀m,Pd.length-64*m>0→64≤Pd.length-64*m:=fun m h=>by omega
 have hP8: ∀x∈Pd,x<256:=by rw[←hPd];exact kM h8
 have hst:stH a=Bn H0 Pd (nb a):=by rw[←hPd];exact ei a
 have htd:(stW a++128::List.replicate (Cn a.length) 0)++(F4 (8*a.length)).take 8=Pd.drop (64*nb a):=by
  rw[←hPd,←eI];unfold Q8;rw[List.append_assoc];rfl
 have htl:a.length %64+1+Cn a.length+8=Pd.length-64*nb a:=by
  have:=congrArg List.length htd;simp only[List.length_append,List.length_cons,List.length_replicate,List.length_drop,hwl]at this;have h8':((F4 (8*a.length)).take 8).length=8:=rfl;omega
 go_enter func144,ntmps144
 refine Bz ?_
 refine M7 ?_;iterate 5 refine k_k ?_
 refine k_s (by exact AK rfl gg rfl rfl (fun w=>Xe _ _ _ w)) ?_;iterate 5 refine k_k ?_
 refine k_s (by exact BL rfl rfl gg rfl (e:=5) (l:=[]) rfl (by decide) (fun _=>by kernel_rfl)) ?_;iterate 2 refine k_k ?_
 refine JY ?_;refine k_s (by exact BR rfl gg rfl underlying23 rfl (hs 8 _ rfl)) ?_;refine k_s (by exact Di rfl rfl gg rfl rfl rfl (AW hw) underlying23 el5 (by decide) (by simp) (DR _) (by simp only[maxLen];omega) (by omega) (by simp)) ?_;refine k_s (by exact BL rfl rfl gg rfl (e:=5) (l:=[b8 (128)]) rfl (by decide) (fun _=>by kernel_rfl)) ?_;refine ZY ?_;iterate 4 refine k_k ?_
 refine Bo (α:={x:Nat // x≤Cn a.length}) (fun(x:{x:Nat // x≤Cn a.length}) f=>⟨[.v (.pointer (some ⟨g,0,none⟩)),.v (f 1),.p 2 0,.d 900,.v (f 4),.v (f 5),.v (f 6),.v (f 7),.v (f 8),.v (f 9),.v (f 10),.v (f 11),.v (f 12),.v (f 13),.v (f 14),.v (f 15),.v (f 16),.v (f 17),.v (f 18),.v (f 19),.v (f 20),.v (f 21),.v (f 22),.v (f 23),.v (f 24),.v (f 25),.v (f 26),.v (f 27),.v (f 28),.v (f 29),.v (f 30),.v (f 31),.v (f 32),.v (f 33),.v (f 34),.v (f 35),.v (f 36),.v (f 37),.v (f 38),.v (f 39),.v (f 40),.v (f 41),.v (f 42),.v (f 43),.v (f 44),.v (f 45),.v (f 46),.v (f 47),.v (f 48),.v (f 49),.v (f 50),.v (f 51),.v (f 52),.v (f 53),.v (f 54),.v (f 55),.v (f 56),.v (f 57),.v (f 58),.v (f 59),.v (f 60),.v (f 61),.v (f 62),.v (f 63),.v (f 64),.v (f 65),.v (f 66),.v (f 67),.v (f 68),.v (f 69),.v (f 70),.v (f 71),.v (f 72),.v (f 73),.v (f 74),.v (f 75),.v (f 76),.v (f 77),.v (f 78),.v (f 79),.v (f 80),.v (f 81),.v (f 82),.v (f 83),.v (f 84),.v (f 85),.v (f 86),.v (f 87),.v (f 88),.v (f 89),.v (f 90),.v (f 91),.v (f 92)],AJ [(900,.row (a.length %64+1+x.1) 1 5 (.exact (((stW a++128::List.replicate x.1 0)).map b8))),(2,.arr (OL []) 64)]⟩) (fun x=>Cn a.length-x.1) ?_ (⟨0,Nat.zero_le _⟩) ?_
 ·rintro⟨x,hx⟩ f
  obtain⟨q,h_q⟩: ∃q,decide (x<Cn a.length)=q:=⟨_,rfl⟩
  have h_q':=(kP hx).trans h_q;refine CN ?_
  refine El ?_;refine k_s (by exact AK rfl gg rfl rfl (fun w=>gX _ _ _ w)) ?_;refine k_s (by exact BB rfl gg rfl rfl h_q') ?_;refine k_k ?_;cases q
  ·refine k_k ?_
   have hxz:x=Cn a.length:=by have:=of_decide_eq_false h_q;omega
   subst hxz;refine As ?_;refine CN ?_
   refine TX ?_;refine k_s (by exact BR rfl gg rfl underlying3 rfl (hs 9 _ rfl)) ?_;refine k_s (by exact B1 rfl gg rfl (fun w=>pI (by omega) w)) ?_;refine k_s (by exact AK rfl gg rfl rfl (fun w=>fS (by omega) _ _ w)) ?_;iterate 8 refine k_k ?_
   refine Bo (α:={x:Nat // x≤8}) (fun(x:{x:Nat // x≤8}) f=>⟨[.v (.pointer (some ⟨g,0,none⟩)),.v (f 1),.p 2 0,.d 900,.v (.int .u64 ((8*a.length:Nat):Int)),.v (f 5),.v (f 6),.v (f 7),.v (f 8),.v (f 9),.v (f 10),.v (f 11),.v (f 12),.v (f 13),.v (f 14),.v (f 15),.v (f 16),.v (f 17),.v (f 18),.v (f 19),.v (f 20),.v (f 21),.v (f 22),.v (f 23),.v (f 24),.v (f 25),.v (f 26),.v (f 27),.v (f 28),.v (f 29),.v (f 30),.v (f 31),.v (f 32),.v (f 33),.v (.int .i64 (x.1:Nat)),.v (f 35),.v (f 36),.v (f 37),.v (f 38),.v (f 39),.v (f 40),.v (f 41),.v (f 42),.v (f 43),.v (f 44),.v (f 45),.v (f 46),.v (f 47),.v (f 48),.v (f 49),.v (f 50),.v (f 51),.v (f 52),.v (f 53),.v (f 54),.v (f 55),.v (f 56),.v (f 57),.v (f 58),.v (f 59),.v (f 60),.v (f 61),.v (f 62),.v (f 63),.v (f 64),.v (f 65),.v (f 66),.v (f 67),.v (f 68),.v (f 69),.v (f 70),.v (f 71),.v (f 72),.v (f 73),.v (f 74),.v (f 75),.v (f 76),.v (f 77),.v (f 78),.v (f 79),.v (f 80),.v (f 81),.v (f 82),.v (f 83),.v (f 84),.v (f 85),.v (f 86),.v (f 87),.v (f 88),.v (f 89),.v (f 90),.v (f 91),.v (f 92)],AJ [(900,.row (a.length %64+1+Cn a.length+x.1) 1 5 (.exact (((stW a++128::List.replicate (Cn a.length) 0)++(F4 (8*a.length)).take x.1).map b8))),(2,.arr (OL []) 64)]⟩) (fun x=>8-x.1) ?_ (⟨0,Nat.zero_le _⟩) ?_
   ·rintro⟨y,hy⟩ f
    obtain⟨q2,h_q2⟩: ∃q,decide (y<8)=q:=⟨_,rfl⟩
    have h_q2':=(CL y 8).trans h_q2;refine Ch ?_
    refine k_s (by exact BM rfl gg rfl rfl h_q2') ?_;iterate 2 refine k_k ?_
    cases q2
    ·refine k_k ?_
     have hy8:y=8:=by have:=of_decide_eq_false h_q2;omega
     subst hy8;refine As ?_;refine CN ?_
     refine TZ ?_;refine k_s (by exact A2 (vs:=[uv (stH a).a,uv (stH a).b,uv (stH a).c,uv (stH a).d,uv (stH a).e,uv (stH a).f,uv (stH a).g,uv (stH a).h]) rfl gg rfl underlying248 rfl sizeOf248 (fun j v hj=>(by rw[Nat.zero_add];exact hs j v (er hj))) rfl) ?_;refine k_s (by exact BZ rfl rfl gg zeroValue248) ?_;refine Pj ?_;iterate 3 refine k_k ?_
     refine Bo (α:={m:Nat // nb a≤m∧64*m≤Pd.length}) (fun(x:{m:Nat // nb a≤m∧64*m≤Pd.length}) f=>⟨[.v (.pointer (some ⟨g,0,none⟩)),.v (f 1),.p 2 0,.d 900,.v (f 4),.v (f 5),.p 6 0,.v (f 7),.v (f 8),.v (f 9),.v (f 10),.v (f 11),.v (f 12),.v (f 13),.v (f 14),.v (f 15),.v (f 16),.v (f 17),.v (f 18),.v (f 19),.v (f 20),.v (f 21),.v (f 22),.v (f 23),.v (f 24),.v (f 25),.v (f 26),.v (f 27),.v (f 28),.v (f 29),.v (f 30),.v (f 31),.v (f 32),.v (f 33),.v (f 34),.v (f 35),.v (f 36),.v (f 37),.v (f 38),.v (f 39),.v (f 40),.v (f 41),.v (f 42),.v (f 43),.v (f 44),.v (f 45),.v (f 46),.v (f 47),.v (f 48),.v (f 49),.v (f 50),.v (f 51),.v (f 52),.v (f 53),.v (f 54),.v (f 55),.v (f 56),.v (f 57),.v (f 58),.v (f 59),.v (f 60),.v (f 61),.v (f 62),.v (f 63),.v (f 64),.v (f 65),.v (f 66),.v (f 67),.v (f 68),.v (f 69),.v (f 70),.v (f 71),.v (f 72),.v (f 73),.v (f 74),.v (f 75),.v (f 76),.v (f 77),.v (f 78),.v (f 79),.v (f 80),.v (f 81),.v (f 82),.v (f 83),.v (f 84),.v (f 85),.v (f 86),.v (f 87),.v (f 88),.v (f 89),.v (f 90),.v (f 91),.v (f 92)],AJ [(900,.row (Pd.length-64*x.1) 1 5 (.exact ((Pd.drop (64*x.1)).map b8))),(6,.cells [.v (uv (Bn H0 Pd x.1).a),.v (uv (Bn H0 Pd x.1).b),.v (uv (Bn H0 Pd x.1).c),.v (uv (Bn H0 Pd x.1).d),.v (uv (Bn H0 Pd x.1).e),.v (uv (Bn H0 Pd x.1).f),.v (uv (Bn H0 Pd x.1).g),.v (uv (Bn H0 Pd x.1).h)] 248),(2,.arr (OL []) 64)]⟩) (fun x=>Pd.length-64*x.1) ?_ (⟨nb a,Nat.le_refl _,hnb⟩) ?_
     ·rintro⟨m,hm1,hm2⟩ f
      obtain⟨q3,h_q3⟩: ∃q,decide (Pd.length-64*m>0)=q:=⟨_,rfl⟩
      have h_q3':=(Cr (Pd.length-64*m) 0).trans h_q3;obtain⟨H,hH⟩: ∃H,Bn H0 Pd m=H:=⟨_,rfl⟩
      rw[hH];refine CN ?_
      refine El ?_;refine k_s (by exact BV rfl gg rfl rfl h_q3') ?_;refine k_k ?_;cases q3
      ·refine k_k ?_
       have hme:64*m=Pd.length:=by have:=of_decide_eq_false h_q3;omega
       have hH':Bn H0 Pd m=H:=hH;refine As ?_;refine Ch ?_
       refine M7 ?_;iterate 4 refine k_k ?_
       refine TC ?_;iterate 3 refine k_k ?_
       refine Bo (α:={x:Nat // x≤8}) (fun(x:{x:Nat // x≤8}) f=>⟨[.v (f 0),.v (f 1),.p 2 0,.v (f 3),.v (f 4),.v (f 5),.v (f 6),.p 7 0,.v (f 8),.v (f 9),.v (f 10),.v (f 11),.v (f 12),.v (f 13),.v (f 14),.v (f 15),.v (f 16),.v (f 17),.v (f 18),.v (f 19),.v (f 20),.v (f 21),.v (f 22),.v (f 23),.v (f 24),.v (f 25),.v (f 26),.v (f 27),.v (f 28),.v (f 29),.v (f 30),.v (f 31),.v (f 32),.v (f 33),.v (f 34),.v (f 35),.v (f 36),.v (f 37),.v (f 38),.v (f 39),.v (f 40),.v (f 41),.v (f 42),.v (f 43),.v (f 44),.v (f 45),.v (f 46),.v (f 47),.v (f 48),.v (f 49),.v (f 50),.v (f 51),.v (f 52),.v (f 53),.v (f 54),.v (f 55),.v (f 56),.v (f 57),.v (f 58),.v (f 59),.v (.agg #[uv (H).a,uv (H).b,uv (H).c,uv (H).d,uv (H).e,uv (H).f,uv (H).g,uv (H).h]),.v (.int .i64 (x.1:Nat)),.v (f 62),.v (f 63),.v (f 64),.v (f 65),.v (f 66),.v (f 67),.v (f 68),.v (f 69),.v (f 70),.v (f 71),.v (f 72),.v (f 73),.v (f 74),.v (f 75),.v (f 76),.v (f 77),.v (f 78),.v (f 79),.v (f 80),.v (f 81),.v (f 82),.v (f 83),.v (f 84),.v (f 85),.v (f 86),.v (f 87),.v (f 88),.v (f 89),.v (f 90),.v (f 91),.v (f 92)],AJ [(7,.arr (OL ((H.l.take x.1).flatMap Fc)) 64),(2,.arr (OL []) 64)]⟩) (fun x=>8-x.1) ?_ (⟨0,Nat.zero_le _⟩) ?_
       ·rintro⟨z,hz⟩ f
        obtain⟨q4,h_q4⟩: ∃q,decide (z<8)=q:=⟨_,rfl⟩
        have h_q4':=(CL z 8).trans h_q4;obtain⟨F,hF⟩: ∃F,(H.l.take z).flatMap Fc=F:=⟨_,rfl⟩
        have hFl:F.length=4*z:=by rw[←hF];exact nq hz
        rw[hF];obtain⟨X,hX⟩: ∃X,H.l.getD z 0#32=X:=⟨_,rfl⟩
        refine Ch ?_
        refine k_s (by exact BM rfl gg rfl rfl h_q4') ?_;iterate 2 refine k_k ?_
        cases q4
        ·refine k_k ?_
         have hz8:z=8:=by have:=of_decide_eq_false h_q4;omega
         subst hz8;have hsha:F=sha a:=by rw[←hF,←hH',←fT (m:=m) (a:=a) (by rw[hPd];exact hme),hPd];rfl
         refine As ?_;refine Ch ?_
         refine k_s (by exact aR (vs:=(sha a).map b8) rfl gg rfl rfl underlying64 rfl sizeOf64 (by rw[hsha,sP (sha_len a),List.drop_zero,List.take_of_length_le (by simp[sha_len])]) (by simp[sha_len])) ?_;refine k_s (by exact Et (l':=(sha a).map b8) rfl gg rfl rfl rfl sizeOf64 (by simp[Value.cells,sha_len]) (by rw[Fi (by simp)];decide) (by show((sha a).map b8).toArray.toList.all _=true;exact DR _) (by rw[List.take_zero,List.nil_append,List.drop_of_length_le (by rw[Fi (by simp)];decide),List.append_nil];simp[Value.cells])) ?_;refine EP ?_;refine AD (AH results144 (KC (vs:=(sha a).map b8) rfl rfl underlying64 rfl sizeOf64 (List.take_of_length_le (by simp[sha_len])) (by simp[sha_len]))) ?_;intro ρ w' hr;exact⟨rfl,hr.1⟩
        ·refine k_k ?_
         have hlt:z<8:=of_decide_eq_true h_q4;iterate 6 refine k_k ?_
         refine k_s (by exact Tt (k:=z) (v:=uv X) rfl gg rfl rfl underlying248 sizeOf247 underlying247 rfl (of_decide_eq_true h_q4) (by have:=Yz (H:=H) (of_decide_eq_true h_q4);rw[hX]at this;have h9:=congrArg (Option.map uv) this;rw[←List.getElem?_map]at h9;exact h9)) ?_;iterate 5 refine k_k ?_
         refine Pm ?_;refine k_k ?_;refine Pm ?_;refine k_s (by exact BE (c:=((4*z+1:Nat):Int)) rfl gg rfl rfl (by rw[Ah (by omega) (by omega)];omega)) ?_;refine k_k ?_;refine Pm ?_;refine k_s (by exact BE (c:=((4*z+2:Nat):Int)) rfl gg rfl rfl (by rw[Ah (by omega) (by omega)];omega)) ?_;refine k_k ?_;refine Pm ?_;refine k_s (by exact BE (c:=((4*z+3:Nat):Int)) rfl gg rfl rfl (by rw[Ah (by omega) (by omega)];omega)) ?_;refine k_k ?_;refine k_s (by exact AK rfl gg rfl rfl (fun w=>KB _ 24 (by decide) _ _ w)) ?_;refine Pg ?_;refine k_k ?_;refine k_s (by exact AK rfl gg rfl rfl (fun w=>KB _ 16 (by decide) _ _ w)) ?_;refine Pg ?_;refine k_k ?_;refine k_s (by exact AK rfl gg rfl rfl (fun w=>KB _ 8 (by decide) _ _ w)) ?_;refine Pg ?_;refine k_k ?_;refine Pg ?_;refine k_s (by exact GH (k:=4*z) (j:=4*z) rfl gg rfl rfl underlying64 sizeOf5 (by omega) (by omega)) ?_;refine k_6 ?_;refine k_s (by exact GH (k:=4*z+1) (j:=4*z+1) rfl gg rfl rfl underlying64 sizeOf5 (by omega) (by omega)) ?_;refine k_6 ?_;refine k_s (by exact GH (k:=4*z+2) (j:=4*z+2) rfl gg rfl rfl underlying64 sizeOf5 (by omega) (by omega)) ?_;refine k_6 ?_;refine k_s (by exact GH (k:=4*z+3) (j:=4*z+3) rfl gg rfl rfl underlying64 sizeOf5 (by omega) (by omega)) ?_;refine k_6 ?_;iterate 2 refine k_k ?_
         refine k_s (by exact BE (c:=((z+1:Nat):Int)) rfl gg rfl rfl (by rw[Ah (by omega) (by omega)];omega)) ?_;iterate 2 refine k_k ?_
         refine⟨⟨z+1,by have:=of_decide_eq_true h_q4;omega⟩,by show 8-(z+1)<8-z;have:=of_decide_eq_true h_q4;omega,?_⟩;have e4:F++[(X>>>24).toNat %256]++[(X>>>16).toNat %256]++[(X>>>8).toNat %256]++[X.toNat %256]=(H.l.take (z+1)).flatMap Fc:=by rw[np (of_decide_eq_true h_q4),hF,hX,qN];simp
         rw[e4];exact Ar (fun i=>i==2||i==7||i==60||i==61) []
       ·exact Ar (fun i=>i==2||i==7||i==60||i==61) [900,6]
      ·iterate 5 refine k_k ?_
       refine TC ?_;refine k_k ?_;refine k_s (by exact Jh (a:=0) (b:=64) (size:=1) rfl gg rfl underlying23 sizeOf5 (BI rfl) rfl rfl (by decide) (hge m (of_decide_eq_true h_q3))) ?_;refine k_s (by exact Aj (v:= .agg #[uv (TollSha.press H ((Pd.drop (64*m)).take 64)).a,uv (TollSha.press H ((Pd.drop (64*m)).take 64)).b,uv (TollSha.press H ((Pd.drop (64*m)).take 64)).c,uv (TollSha.press H ((Pd.drop (64*m)).take 64)).d,uv (TollSha.press H ((Pd.drop (64*m)).take 64)).e,uv (TollSha.press H ((Pd.drop (64*m)).take 64)).f,uv (TollSha.press H ((Pd.drop (64*m)).take 64)).g,uv (TollSha.press H ((Pd.drop (64*m)).take 64)).h]) [900] rfl gg rfl (eo func176) (fun ρ S w' hb hR=>by obtain⟨S0,s0⟩:=WV (lo:=0) (hi:=64) (n':=64) (l':=((Pd.drop (64*m)).take 64).map b8) (BI (id:=900) rfl) (Nat.zero_le _) (hge m (of_decide_eq_true h_q3)) (by rw[Nat.mul_one,Nat.mul_one,List.drop_zero,Nat.sub_zero,List.map_take]) rfl ρ S w' hb hR;exact Xg H w' (hL.bw hb) s0 (by rw[List.length_take,List.length_drop];have:=hge m (of_decide_eq_true h_q3);omega) (fun x hx=>hP8 x (List.mem_of_mem_drop (List.mem_of_mem_take hx))))) ?_;refine Pj ?_;iterate 3 refine k_k ?_
       refine k_s (by exact aW (a:=64) (m:=Pd.length-64*(m+1)) (l':=(Pd.drop (64*(m+1))).map b8) rfl rfl gg rfl rfl underlying23 sizeOf5 rfl (hge m (of_decide_eq_true h_q3)) (by rw[←List.map_drop,ak]) (by simp) (by omega)) ?_;iterate 2 refine k_k ?_
       have h64:64≤Pd.length-64*m:=hge m (of_decide_eq_true h_q3);refine⟨⟨m+1,by omega,by omega⟩,by show Pd.length-64*(m+1)<Pd.length-64*m;omega,?_⟩;have e3:TollSha.press H ((Pd.drop (64*m)).take 64)=Bn H0 Pd (m+1):=by rw[←hH];rfl
       rw[e3];exact(Ar (fun i=>i==0||i==2||i==3||i==6) []).trans2 (fun f=>Dk 55 900 (by decide) rfl)
     ·rw[hst,htd,htl]
      exact(Ar (fun i=>i==0||i==2||i==3||i==6) []).trans2 (fun f=>Lc (a:=(6,_)) (b:=(900,_)) (show(6:Nat)≠900 by decide))
    ·refine k_k ?_
     have hlt:y<8:=of_decide_eq_true h_q2;iterate 12 refine k_k ?_
     refine k_s (by exact Bu (c:=((7-y:Nat):Int)) rfl gg rfl rfl (by rw[Ah (by omega) (by omega)];omega)) ?_;refine k_s (by exact AK rfl gg rfl rfl (fun w=>lc (n:=7-y) (by omega) _ _ w)) ?_;refine k_s (by exact AK rfl gg rfl rfl (fun w=>fQ (8*a.length) (8*(7-y)) (by omega) _ _ w)) ?_;refine k_s (by exact B1 rfl gg rfl (fun w=>pG _ w)) ?_;refine k_s (by exact BL rfl rfl gg rfl (e:=5) (l:=[b8 (8*a.length/2^(8*(7-y)) %256)]) rfl (by decide) (fun _=>by kernel_rfl)) ?_;refine k_s (by exact Di rfl rfl gg rfl rfl rfl (BI rfl) underlying23 el5 (by decide) (by simp[F4];omega) rfl (by simp only[maxLen];omega) (by omega) (by simp)) ?_;iterate 3 refine k_k ?_
     refine k_s (by exact BE (c:=((y+1:Nat):Int)) rfl gg rfl rfl (by rw[Ah (by omega) (by omega)];omega)) ?_;iterate 2 refine k_k ?_
     refine⟨⟨y+1,by have:=of_decide_eq_true h_q2;omega⟩,by show 8-(y+1)<8-y;have:=of_decide_eq_true h_q2;omega,?_⟩;have e2:((stW a++128::List.replicate (Cn a.length) 0)++(F4 (8*a.length)).take y).map b8++[b8 (8*a.length/2^(8*(7-y)) %256)]=((stW a++128::List.replicate (Cn a.length) 0)++(F4 (8*a.length)).take (y+1)).map b8:=by rw[Im (mI (of_decide_eq_true h_q2))];simp
     rw[e2];exact(Ar (fun i=>i==0||i==2||i==3||i==4||i==34) [44]).trans2 (fun f=>Dk 45 900 (by decide) rfl)
   ·refine(Ar (fun i=>i==0||i==2||i==3||i==4||i==34) []).trans2 (fun f=>Qv (fun _=>undef) ?_)
    simp[B0,BQ]
  ·refine k_k ?_
   have hlt:x<Cn a.length:=of_decide_eq_true h_q;iterate 4 refine k_k ?_
   refine k_s (by exact BL rfl rfl gg rfl (e:=5) (l:=[b8 (0)]) rfl (by decide) (fun _=>by kernel_rfl)) ?_;refine ZY ?_;iterate 2 refine k_k ?_
   refine⟨⟨x+1,by have:=of_decide_eq_true h_q;omega⟩,by show Cn a.length-(x+1)<Cn a.length-x;have:=of_decide_eq_true h_q;omega,?_⟩;have e1:((stW a++128::List.replicate x 0)).map b8++[b8 0]=((stW a++128::List.replicate (x+1) 0)).map b8:=by rw[List.replicate_succ'];simp
   rw[e1];exact(Ar (fun i=>i==0||i==2||i==3) [26]).trans2 (fun f=>Dk 27 900 (by decide) rfl)
 ·rw[hWb,hwl,show a.length %64+1=a.length %64+1+0 from rfl]
  exact(Ar (fun i=>i==0||i==2||i==3) [19]).trans2 (fun f=>Dk 20 900 (by decide) rfl)
end Go.Proofs.YtafbhakmkbehiaaGreatDoor
