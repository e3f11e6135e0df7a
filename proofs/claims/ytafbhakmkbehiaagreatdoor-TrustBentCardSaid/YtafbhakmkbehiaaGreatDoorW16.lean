import Derived.Test.YtafbhakmkbehiaaGreatDoorW12
import Derived.Test.YtafbhakmkbehiaaGreatDoorW14
import Derived.Test.YtafbhakmkbehiaaGreatDoorW15
open Go.Proofs.Tryz
set_option maxHeartbeats 4000000
set_option maxRecDepth 100000
namespace Go.Proofs.YtafbhakmkbehiaaGreatDoor
open Go.RowKit Go.Vx
variable(w:World){parts:Array (Nat×Operand)}{ops:Array Oper}{xs:Array Operand}{ats:Array TypeId}{f:FuncId}{ki:IntKind}{b is p r rd:List Nat}{vs:List SV}{ks:List Tr}{d i id k n q size tg:Nat}{S:Nat->Nat->Prop}{ρ:Nat->Nm}{o:Oper}{x:Operand}{P:Program}{y:SV}{t u:Tr}{bt e ty:TypeId}{s:VS}{kv v z:Value}{w0:World}
theorem UR:prog.built 71 []=some #[.int .i64 0,.string (ByteArray.mk #[]),.slice none 0 0]:=by kernel_rfl
theorem qk(t:Int):prog.built 71 [(0,.int .i64 t)]=some #[.int .i64 t,.string (ByteArray.mk #[]),.slice none 0 0]:=by kernel_rfl
theorem qs(b:List Nat)(i j:Nat):(AB b).extract i j=AB ((b.drop i).take (j-i)):=by
 apply ByteArray.ext;simp only[AB,ByteArray.data_extract];apply Array.ext';simp[List.extract_eq_take_drop]
theorem Tu{y z:Operand}{b':List Nat}{j:Nat}(G:o.op=.slice ty x (some y) (some z) none)(B:AQ ops o s)(I:AE s x=.v (.string (AB b)))(J:AE s y=.v (.int .i64 (i:Nat)))(K:AE s z=.v (.int .i64 (j:Nat)))(H:prog.underlying ty=some .string)(F:i<=j)(M:j<=b.length)(A:(b.drop i).take (j-i)=b'):Ev prog ops w0 o s ⟨.v (.string (AB b')),[],[],[],[]⟩:=
 Ev.run _ _ B λρ S w E L=>by
  subst A;have g:=AI s ρ x;rw[I]at g;have h:=AI s ρ y;rw[J]at h;have l:=AI s ρ z;rw[K]at l;simp only[SV.c]at g h l;have C:(0:Int)<=(j:Int)/\(j:Int)<=((AB b).size:Int):=by rw[Ff];omega
  have D:(0:Int)<=(i:Int)/\(i:Int)<=(j:Int):=by omega
  have a:=qs b i j;simp[execOp,G,g,h,l,SV.c,Instr.sliceAt,Instr.slice,Instr.sliceBounds,Instr.sliceBound,asIntOf,yU H,C,D];all_goals first|(rw[x9 (by omega),x9 (by omega),a])|(rw[x9 (by omega),a])|(rw[x9 (by rw[Ff];omega),x9 (by omega),a])|exact a|omega
theorem mS(rd:List Nat->Tr×List Nat×Bool)(n:Nat)(a:List Tr):Cx rd n [] a=some a:=by cases n<;>simp[Cx]
theorem Y6{rd:List Nat->Tr×List Nat×Bool}{l:List Nat}(c:0<l.length)(n:Nat)(a:List Tr):Cx rd (n+1) l a=bif !(rd l).2.2 then none else Cx rd n (rd l).2.1 (a++[(rd l).1]):=by
 cases l with
 |nil=>simp at c
 |cons x r=>simp only[Cx]
theorem YK{w:World}(j:Nat){t:Int}(g:Rel w0 ρ s w)(c:ks.length=n)(a:s.mem j=some (.row n 3 71 (Na ks))):
 Ae w0 w (.agg #[.int .i64 t,.string (AB b),(ρ j).val]) (AU (.mk t b ks)):=by
 subst c;exact gE j g a
def ct(f:Nat):Prop:= ∀(b:List Nat) (d:Nat) (w:World),d+f=9->(∀x∈b,x<256)->b.length<=1048576->
    Calls prog 54 #[.string (AB b),.int .i64 (d:Nat)] w λe c=> ∃a,e=.returned (.tuple #[a,.string (AB (A7 f b).2.1),.bool (A7 f b).2.2])/\Ae w c a (AU ((A7 f b).1))/\Bw w c
theorem kn(_A:∀x∈b,x<256)(_j:b.length<=1048576)(h:n<65536/\k<=4/\tg<256/\d<=8/\k<=b.length)(B:n+k>b.length)(f:Nat->Value):VOk prog w ⟨.v (.string (AB b))::.v (.int .i64 (d:Nat))::.v (f 2)::.v (f 3)::.p 4 0::.v (f 5)::.v (f 6)::.p 7 0::.v (.int .i64 (n:Nat))::.v (.int .i64 (k:Nat))::fv f 106 10 [],AJ [(7,.cells [.v (.int .i64 (tg:Nat)),.v (.string (ByteArray.mk #[])),.v (.slice none 0 0)] 71),(4,.cells [.v (.int .i64 0),.v (.string (ByteArray.mk #[])),.v (.slice none 0 0)] 71)]⟩ (Cm 5 (Ct f54)) (QB prog f54 w λe a=> ∃g,e=.returned (.tuple #[g,.string (AB ([])),.bool false])/\Ae w a g (AU (noT))/\Bw w a):=by
 try simp only[fv,Nat.reduceAdd]
 iterate 5 refine aT ?_
 refine Dd ?_;refine aT ?_;refine TO ?_;refine Pk ?_;iterate 4 refine aT ?_
 refine FW ?_;iterate 4 refine aT ?_
 refine AG ?_;refine AD (BX results54 (Am rfl rfl yS rfl yI rfl) (AF rfl) (AF rfl)) ?_;intro ρ a l;refine⟨_,rfl,?_,l.1⟩;exact Dm 0 []
theorem kq(B:∀x∈b,x<256)(E:b.length<=1048576)(D:n<65536/\k<=4/\tg<256/\d<=8/\k<=b.length)(G:n+k<=b.length)(F:CB tg=false)(f:Nat->Value):VOk prog w ⟨.v (.string (AB b))::.v (.int .i64 (d:Nat))::.v (f 2)::.v (f 3)::.p 4 0::.v (f 5)::.v (f 6)::.p 7 0::.v (.int .i64 (n:Nat))::.v (.int .i64 (k:Nat))::fv f 106 10 [],AJ [(7,.cells [.v (.int .i64 (tg:Nat)),.v (.string (ByteArray.mk #[])),.v (.slice none 0 0)] 71),(4,.cells [.v (.int .i64 0),.v (.string (ByteArray.mk #[])),.v (.slice none 0 0)] 71)]⟩ (Cm 5 (Ct f54)) (QB prog f54 w λe a=> ∃A,e=.returned (.tuple #[A,.string (AB (b.drop (k+n))),.bool true])/\Ae w a A (AU (.mk tg ((b.drop k).take n) []))/\Bw w a):=by
 try simp only[fv,Nat.reduceAdd]
 have l:=(HK G).1;obtain⟨L,g⟩:∃L,(b.drop k).take n=L:=⟨_,rfl⟩
 rw[g]at l;have h:(b.drop k).take (k+n-k)=L:=by rw[uF1];exact g
 have C:∀x∈L,x<256:=λx I=>B x (DO (PA (g▸I)))
 rw[g];iterate 5 refine aT ?_
 refine Dd ?_;refine aT ?_;refine TO ?_;refine FS ?_;iterate 9 refine aT ?_
 refine IP ?_;refine iD (by exact Tu (b':=L) (i:=k) (j:=k+n) rfl gg rfl rfl rfl yF (by omega) (by omega) h) ?_;iterate 7 refine aT ?_
 refine iD (by exact Ad (v:=.bool false) rfl gg rfl (eo func100) (λa hb=>by have:=Ru (tg:Int) a;rw[F]at this;exact this)) ?_;iterate 7 refine aT ?_
 refine iD (by exact BA rfl gg rfl rfl rfl CD rfl (by simp) rfl) ?_;iterate 7 refine aT ?_
 refine IP ?_;refine iD (by exact IT (k:=k+n) (b':=b.drop (k+n)) rfl gg rfl rfl yF (by omega) rfl) ?_;refine iD (by first|exact BA rfl gg rfl rfl rfl yI rfl (by simp) rfl|exact oD rfl gg rfl rfl rfl yI rfl (by simp) (λ_=>rfl)) ?_;iterate 3 refine aT ?_
 refine AG ?_;refine AD (BX results54 (Am rfl rfl yS rfl yI rfl) (AF rfl) (AF rfl)) ?_;intro ρ a H;refine⟨_,rfl,?_,H.1⟩;exact Dm (tg:Int) L
theorem ko{g:Nat}{K:Option (List Tr)}(Z:∀x∈b,x<256)(a1:b.length<=1048576)(a0:n<65536/\k<=4/\tg<256/\d<=8/\k<=b.length)(hn:n+k<=b.length)(hm:CB tg=true)(O:ct g)(a2:d+1+g=9)(C:Cx (A7 g) n ((b.drop k).take n) []=K)(f:Nat->Value):VOk prog w ⟨.v (.string (AB b))::.v (.int .i64 (d:Nat))::.v (f 2)::.v (f 3)::.p 4 0::.v (f 5)::.v (f 6)::.p 7 0::.v (.int .i64 (n:Nat))::.v (.int .i64 (k:Nat))::fv f 106 10 [],AJ [(7,.cells [.v (.int .i64 (tg:Nat)),.v (.string (ByteArray.mk #[])),.v (.slice none 0 0)] 71),(4,.cells [.v (.int .i64 0),.v (.string (ByteArray.mk #[])),.v (.slice none 0 0)] 71)]⟩ (Cm 5 (Ct f54)) (QB prog f54 w λe A=> ∃Y,e=.returned (.tuple #[Y,.string (AB (match K with|none=>[]|some _=>b.drop (k+n))),.bool K.isSome])/\Ae w A Y (AU (match K with|none=>noT|some ks=>.mk tg [] ks))/\Bw w A):=by
 try simp only[fv,Nat.reduceAdd]
 have U:=(HK hn).1;obtain⟨L,Q⟩:∃L,(b.drop k).take n=L:=⟨_,rfl⟩
 rw[Q]at U;have T:(b.drop k).take (k+n-k)=L:=by rw[uF1];exact Q
 have R:∀x∈L,x<256:=λx hx=>Z x (DO (PA (Q▸hx)))
 rw[Q]at C;have hK:=C;clear C;iterate 5 refine aT ?_
 refine Dd ?_;refine aT ?_;refine TO ?_;refine FS ?_;iterate 9 refine aT ?_
 refine IP ?_;refine iD (by exact Tu (b':=L) (i:=k) (j:=k+n) rfl gg rfl rfl rfl yF (by omega) (by omega) T) ?_;iterate 7 refine aT ?_
 refine iD (by exact Ad (v:=.bool true) rfl gg rfl (eo func100) (λA hb=>by have:=Ru (tg:Int) A;rw[hm]at this;exact this)) ?_;iterate 6 refine aT ?_
 refine Bo (α:={x:Nat×(Nat×List Nat)×List Tr // x.2.2.length=x.1/\x.1+x.2.1.1<=n/\x.2.1.2.length<=x.2.1.1/\x.2.1.2.length<=1048576/\(∀y∈x.2.1.2,y<256)/\Cx (A7 g) x.2.1.1 x.2.1.2 x.2.2=K}) (fun(x:{x:Nat×(Nat×List Nat)×List Tr // x.2.2.length=x.1/\x.1+x.2.1.1<=n/\x.2.1.2.length<=x.2.1.1/\x.2.1.2.length<=1048576/\(∀y∈x.2.1.2,y<256)/\Cx (A7 g) x.2.1.1 x.2.1.2 x.2.2=K}) f=>⟨.v (.string (AB b))::.v (.int .i64 (d:Nat))::.v (f 2)::.v (f 3)::.p 4 0::.v (f 5)::.v (f 6)::.p 7 0::.v (.int .i64 (n:Nat))::.v (.int .i64 (k:Nat))::.v (f 10)::.v (f 11)::.v (.string (AB x.1.2.1.2))::fv f 103 13 [],AJ [(900,.row x.1.1 3 71 (Na x.1.2.2)),(7,.cells [.v (.int .i64 (tg:Nat)),.v (.string (ByteArray.mk #[])),.d 900] 71),(4,.cells [.v (.int .i64 0),.v (.string (ByteArray.mk #[])),.v (.slice none 0 0)] 71)]⟩) (λx=>x.1.2.1.1) ?_ (⟨(0,(n,L),[]),rfl,by show 0+n<=n;omega,by show L.length<=n;omega,by show L.length<=1048576;omega,R,hK⟩) ?_
 .rintro⟨⟨i,⟨m,l⟩,B⟩,h,hi,W,I,H,G⟩ f
  simp only at h hi W I H G;obtain⟨q,E⟩:∃q,decide (l.length>0)=q:=⟨_,rfl⟩
  have h_q':=(Cr l.length 0).trans E;change VOk _ _ _ _ _;simp only[fv,Nat.reduceAdd];iterate 4 refine aT ?_
  refine Dd ?_;refine Kz ?_;refine aT ?_;cases q
  .refine aT ?_
   have N:K=some B:=by rw[<-G,List.eq_nil_of_length_eq_zero (by have:=yC E;omega:l.length=0),mS]
   refine As ?_;change VOk _ _ _ _ _;iterate 6 refine aT ?_
   refine IP ?_;refine iD (by exact IT (k:=k+n) (b':=b.drop (k+n)) rfl gg rfl rfl yF (by omega) rfl) ?_;refine TH ?_;iterate 3 refine aT ?_
   refine AG ?_;refine AD (BX results54 (Am rfl rfl yS rfl yI rfl) (AF rfl) (AF rfl)) ?_;intro ρ A J;first|(subst C;exact⟨_,rfl,Dm 0 [],J.1⟩)|(subst N;refine⟨_,rfl,?_,J.1⟩;have:=YK (t:=(tg:Int)) (b:=[]) (ks:=B) (n:=i) 900 J h rfl;rw[show AB []=ByteArray.mk #[] from rfl]at this;simpa[SV.c,SV.cs] using this)
  .refine aT ?_
   obtain⟨m,rfl⟩:∃j,m=j+1:=⟨m-1,by have:=yA E;omega⟩
   have F:=Se g l H I;obtain⟨q2,a⟩:∃q,(A7 g l).2.2=q:=⟨_,rfl⟩
   cases q2<;>
   (
    iterate 6 refine aT ?_
    refine Px ?_;refine iD (by first|exact DL (D:=AU (A7 g l).1) (ys:=[.string (AB (A7 g l).2.1),.bool true]) [] rfl rfl gg rfl (eo func54) (λρ S A hb _=>by have:=O _ (d+1) A (by omega) H I;rw[a]at this;exact this)|exact DL (D:=AU (A7 g l).1) (ys:=[.string (AB (A7 g l).2.1),.bool false]) [] rfl rfl gg rfl (eo func54) (λρ S A hb _=>by have:=O _ (d+1) A (by omega) H I;rw[a]at this;exact this)) ?_;iterate 5 refine aT ?_
    refine TH ?_;iterate 9 refine aT ?_
    first
    |(
     refine aT ?_;have C:K=none:=by rw[<-G,Y6 (yA E),a];rfl
     iterate 2 refine aT ?_
     refine FW ?_;refine TH ?_;iterate 3 refine aT ?_
     refine AG ?_;refine AD (BX results54 (Am rfl rfl yS rfl yI rfl) (AF rfl) (AF rfl)) ?_;intro ρ A J;first|(subst C;exact⟨_,rfl,Dm 0 [],J.1⟩)|(subst N;refine⟨_,rfl,?_,J.1⟩;have:=YK (t:=(tg:Int)) (b:=[]) (ks:=B) (n:=i) 900 J h rfl;rw[show AB []=ByteArray.mk #[] from rfl]at this;simpa[SV.c,SV.cs] using this)
     )
    |(
     iterate 7 refine aT ?_
     refine iD (by exact Ty (n:=3) (l:=[.fn (AN 0) (.d 96),.fn (AN 1) (.d 96),.fn (AN 2) (.d 96)]) [96] rfl rfl gg rfl (λρ S A M=>DC _) rfl rfl qx) ?_;refine iD (by exact af (id:=900) (ys:=106) (n:=i) (k:=1) (k':=1) (size:=3) (Na (B++[(A7 g l).1])) [900,106,96] rfl rfl gg rfl rfl rfl rfl rfl (yD _) yV o8 (by decide) (by simp only[maxLen];omega) (by omega) (by simp) (by simp) (λρ S A M=>by obtain⟨c,h1,h2⟩:=C9 (id:=96) M (by simp) rfl;exact(fn3 h1 (Cu h2)).2▸Ib h2) (λρ S A xs hb M X=>by obtain⟨c,h1,h2⟩:=C9 (id:=96) M (by simp) rfl;rw[(fn3 h1 (Cu h2)).2];exact cq (Un (λk V=>⟨96,by simp,rfl,V⟩) h2) (Nu (λk V=>⟨900,by simp,rfl,V⟩) X))) ?_;refine aT ?_;refine iD (by exact Bh (vl:=[.d 107]) [7,107] rfl gg rfl rfl rfl sizeOf69 rfl (λρ S A _ M=>by have hh:=Cf (id:=107) M (by simp) rfl;exact⟨hh.1,by simp[SV.cs,SV.c,hh.2]⟩) rfl (by simp)) ?_;iterate 5 refine aT ?_
     refine⟨⟨(i+1,(m,(A7 g l).2.1),B++[(A7 g l).1]),by simp[h],by show i+1+m<=n;omega,by show(A7 g l).2.1.length<=m;have:=(F.2.2.1 a).2;omega,by show(A7 g l).2.1.length<=1048576;have:=(F.2.2.1 a).2;omega,λy hy=>H y (F.2.2.2 y hy),?_⟩,by show m<m+1;omega,?_⟩
     .show Cx (A7 g) m (A7 g l).2.1 (B++[(A7 g l).1])=K
      rw[Y6 (yA E),a]at G;exact G
     exact(Ar (λi=>i==0||i==1||i==4||i==7||i==8||i==9||i==12) [106,13,96]).trans2 (λf=>Dk 107 900 (by decide) rfl)
     )
   )
 .refine(Ar (λi=>i==0||i==1||i==4||i==7||i==8||i==9||i==12) []).trans2 (λf=> ?_)
  refine(N1 900 3 71 (Na []) (λw=>by trivial) (m':=[(7,.cells [.v (.int .i64 (tg:Nat)),.v (.string (ByteArray.mk #[])),.d 900] 71),(4,.cells [.v (.int .i64 0),.v (.string (ByteArray.mk #[])),.v (.slice none 0 0)] 71)]) rfl rfl (λρ _=>rfl) (λρ hv=> ?_));simp[JG,BQ,Blk.sim,SV.cs,SV.c,hv,Bg]
theorem km(_l:∀x∈b,x<256)(g:b.length<=1048576)(_h:d<=9)(A:b.length<2):Calls prog 54 #[.string (AB b),.int .i64 (d:Nat)] w λe a=> ∃c,e=.returned (.tuple #[c,.string (AB ([])),.bool false])/\Ae w a c (AU (noT))/\Bw w a:=by
 go_enter func54,ntmps54
 refine A4 ?_;iterate 10 refine aT ?_
 refine Dd ?_;refine K8 ?_;iterate 2 refine aT ?_
 refine k_3 ?_;iterate 5 refine aT ?_
 refine FW ?_;iterate 4 refine aT ?_
 refine AG ?_;refine AD (BX results54 (Am rfl rfl yS rfl yI rfl) (AF rfl) (AF rfl)) ?_;intro ρ a j;refine⟨_,rfl,?_,j.1⟩;exact Dm 0 []
theorem kz(_l:∀x∈b,x<256)(g:b.length<=1048576)(h:d<=9)(B:2<=b.length)(A:8<d):Calls prog 54 #[.string (AB b),.int .i64 (d:Nat)] w λe a=> ∃c,e=.returned (.tuple #[c,.string (AB ([])),.bool false])/\Ae w a c (AU (noT))/\Bw w a:=by
 go_enter func54,ntmps54
 refine A4 ?_;iterate 10 refine aT ?_
 refine Dd ?_;refine HP ?_;iterate 2 refine aT ?_
 refine Kq ?_;iterate 5 refine aT ?_
 refine FW ?_;iterate 4 refine aT ?_
 refine AG ?_;refine AD (BX results54 (Am rfl rfl yS rfl yI rfl) (AF rfl) (AF rfl)) ?_;intro ρ a j;refine⟨_,rfl,?_,j.1⟩;exact Dm 0 []
theorem ku{t c:Nat}{R:Ending->World->Prop}(ht:t<256)(hc:c<256)(g:r.length<=1048576)(j:d<=8)(h:c<128)(a:∀f:Nat->Value,VOk prog w ⟨.v (.string (AB (t::c::r)))::.v (.int .i64 (d:Nat))::.v (f 2)::.v (f 3)::.p 4 0::.v (f 5)::.v (f 6)::.p 7 0::.v (.int .i64 (c:Nat))::.v (.int .i64 (2:Nat))::fv f 106 10 [],AJ [(7,.cells [.v (.int .i64 (t:Nat)),.v (.string (ByteArray.mk #[])),.v (.slice none 0 0)] 71),(4,.cells [.v (.int .i64 0),.v (.string (ByteArray.mk #[])),.v (.slice none 0 0)] 71)]⟩ (Cm 5 (Ct f54)) (QB prog f54 w R)):Calls prog 54 #[.string (AB (t::c::r)),.int .i64 (d:Nat)] w R:=by
 try simp only[fv,zs,Nat.reduceAdd]
 go_enter func54,ntmps54
 refine A4 ?_;iterate 10 refine aT ?_
 refine Dd ?_;refine FU ?_;iterate 2 refine aT ?_
 refine ES ?_;iterate 7 refine aT ?_
 refine K6 ?_;refine HS ?_;refine Kr ?_;iterate 6 refine aT ?_
 refine K5 ?_;refine IL ?_;iterate 7 refine aT ?_
 refine iD (by exact B4 (p:=false) rfl gg rfl rfl (yB (by omega))) ?_;iterate 3 refine aT ?_
 exact Jw (λi=>i==0||i==1||i==4||i==7||i==8||i==9) [] a
theorem kt{t c:Nat}(ht:t<256)(hc:c<256)(j:r.length<=1048576)(A:d<=8)(h:c=128):Calls prog 54 #[.string (AB (t::c::r)),.int .i64 (d:Nat)] w λe a=> ∃g,e=.returned (.tuple #[g,.string (AB []),.bool false])/\Ae w a g (AU (noT))/\Bw w a:=by
 go_enter func54,ntmps54
 refine A4 ?_;iterate 10 refine aT ?_
 refine Dd ?_;refine FU ?_;iterate 2 refine aT ?_
 refine ES ?_;iterate 7 refine aT ?_
 refine K6 ?_;refine HS ?_;refine Kr ?_;iterate 6 refine aT ?_
 refine K5 ?_;refine IL ?_;iterate 7 refine aT ?_
 refine iD (by exact B4 (p:=true) rfl gg rfl rfl (yE (by omega))) ?_;iterate 5 refine aT ?_
 refine JU ?_;iterate 6 refine aT ?_
 refine K8 ?_;iterate 2 refine aT ?_
 refine k_3 ?_;iterate 3 refine aT ?_
 refine k_3 ?_;refine aT ?_;iterate 2 refine k_3 ?_
 iterate 5 refine aT ?_
 refine FW ?_;iterate 4 refine aT ?_
 refine AG ?_;refine AD (BX results54 (Am rfl rfl yS rfl yI rfl) (AF rfl) (AF rfl)) ?_;intro ρ a l;refine⟨_,rfl,?_,l.1⟩;exact Dm 0 []
theorem kr{t c:Nat}(ht:t<256)(hc:c<256)(j:r.length<=1048576)(A:d<=8)(h:130<c):Calls prog 54 #[.string (AB (t::c::r)),.int .i64 (d:Nat)] w λe a=> ∃g,e=.returned (.tuple #[g,.string (AB []),.bool false])/\Ae w a g (AU (noT))/\Bw w a:=by
 go_enter func54,ntmps54
 refine A4 ?_;iterate 10 refine aT ?_
 refine Dd ?_;refine FU ?_;iterate 2 refine aT ?_
 refine ES ?_;iterate 7 refine aT ?_
 refine K6 ?_;refine HS ?_;refine Kr ?_;iterate 6 refine aT ?_
 refine K5 ?_;refine IL ?_;iterate 7 refine aT ?_
 refine iD (by exact B4 (p:=true) rfl gg rfl rfl (yE (by omega))) ?_;iterate 5 refine aT ?_
 refine JU ?_;iterate 6 refine aT ?_
 refine HP ?_;iterate 2 refine aT ?_
 refine Kq ?_;iterate 3 refine aT ?_
 refine k_3 ?_;refine aT ?_;iterate 2 refine k_3 ?_
 iterate 5 refine aT ?_
 refine FW ?_;iterate 4 refine aT ?_
 refine AG ?_;refine AD (BX results54 (Am rfl rfl yS rfl yI rfl) (AF rfl) (AF rfl)) ?_;intro ρ a l;refine⟨_,rfl,?_,l.1⟩;exact Dm 0 []
theorem Sd{t c:Nat}(ht:t<256)(hc:c<256)(j:r.length<=1048576)(B:d<=8)(h:128<c)(A:c<=130)(C:r.length+128<c):Calls prog 54 #[.string (AB (t::c::r)),.int .i64 (d:Nat)] w λe a=> ∃g,e=.returned (.tuple #[g,.string (AB []),.bool false])/\Ae w a g (AU (noT))/\Bw w a:=by
 go_enter func54,ntmps54
 refine A4 ?_;iterate 10 refine aT ?_
 refine Dd ?_;refine FU ?_;iterate 2 refine aT ?_
 refine ES ?_;iterate 7 refine aT ?_
 refine K6 ?_;refine HS ?_;refine Kr ?_;iterate 6 refine aT ?_
 refine K5 ?_;refine IL ?_;iterate 7 refine aT ?_
 refine iD (by exact B4 (p:=true) rfl gg rfl rfl (yE (by omega))) ?_;iterate 5 refine aT ?_
 refine JU ?_;iterate 6 refine aT ?_
 refine HP ?_;iterate 2 refine aT ?_
 refine ES ?_;iterate 3 refine aT ?_
 refine TJ ?_;refine aT ?_;refine iD (by first|exact Ev.skip (λ_=>rfl)|exact BE (c:=(2+((c:Int)-128))) rfl (λ_=>rfl) rfl rfl (by rw[Ah (by omega) (by omega)])) ?_;refine iD (by first|exact Ev.skip (λ_=>rfl)|exact BM (p:=true) rfl (λ_=>rfl) rfl rfl (yE (by simp only[List.length_cons];omega))) ?_;iterate 5 refine aT ?_
 refine FW ?_;iterate 4 refine aT ?_
 refine AG ?_;refine AD (BX results54 (Am rfl rfl yS rfl yI rfl) (AF rfl) (AF rfl)) ?_;intro ρ a l;refine⟨_,rfl,?_,l.1⟩;exact Dm 0 []
theorem kx{t x:Nat}{R:Ending->World->Prop}(ht:t<256)(hx:x<256)(g:r.length<=1048576)(h:d<=8)(a:∀f:Nat->Value,VOk prog w ⟨.v (.string (AB (t::129::x::r)))::.v (.int .i64 (d:Nat))::.v (f 2)::.v (f 3)::.p 4 0::.v (f 5)::.v (f 6)::.p 7 0::.v (.int .i64 (x:Nat))::.v (.int .i64 (3:Nat))::fv f 106 10 [],AJ [(7,.cells [.v (.int .i64 (t:Nat)),.v (.string (ByteArray.mk #[])),.v (.slice none 0 0)] 71),(4,.cells [.v (.int .i64 0),.v (.string (ByteArray.mk #[])),.v (.slice none 0 0)] 71)]⟩ (Cm 5 (Ct f54)) (QB prog f54 w R)):Calls prog 54 #[.string (AB (t::129::x::r)),.int .i64 (d:Nat)] w R:=by
 try simp only[fv,zs,Nat.reduceAdd]
 have hc:129<256:=by decide
 go_enter func54,ntmps54
 refine A4 ?_;iterate 10 refine aT ?_
 refine Dd ?_;refine FU ?_;iterate 2 refine aT ?_
 refine ES ?_;iterate 7 refine aT ?_
 refine K6 ?_;refine HS ?_;refine Kr ?_;iterate 6 refine aT ?_
 refine K5 ?_;refine IL ?_;iterate 7 refine aT ?_
 refine iD (by exact B4 (p:=true) rfl gg rfl rfl (by decide)) ?_;iterate 5 refine aT ?_
 refine iD (by exact Bu (c:=1) rfl gg rfl rfl (by decide)) ?_;iterate 6 refine aT ?_
 refine Gv ?_;iterate 2 refine aT ?_
 refine Ko ?_;iterate 3 refine aT ?_
 refine TJ ?_;refine aT ?_;refine iD (by first|exact Ev.skip (λ_=>rfl)|exact BE (c:=((3:Nat):Int)) rfl (λ_=>rfl) rfl rfl (by rw[Ah (by omega) (by omega)];omega)) ?_;refine PW ?_;iterate 14 refine aT ?_
 refine Br 2 ?_;change VOk _ _ _ _ _;iterate 5 refine aT ?_
 refine K0 ?_;iterate 7 refine aT ?_
 refine Pp ?_;iterate 2 refine aT ?_
 refine Pu ?_;refine iD (by exact CF (k:=2) rfl gg rfl rfl yF (rfl) (hx)) ?_;refine Pf ?_;refine iD (by exact BE (c:=((x:Nat):Int)) rfl gg rfl rfl (by rw[Ah (by omega) (by omega)];omega)) ?_;iterate 4 refine aT ?_
 refine Pv ?_;iterate 7 refine aT ?_
 refine Gv ?_;iterate 2 refine aT ?_
 refine As ?_;change VOk _ _ _ _ _;iterate 2 refine aT ?_
 refine Pw ?_;iterate 2 refine aT ?_
 exact Jw (λi=>i==0||i==1||i==4||i==7||i==8||i==9) [] a
theorem kw{t x y:Nat}{R:Ending->World->Prop}(ht:t<256)(hx:x<256)(g:y<256)(h:r.length<=1048576)(j:d<=8)(a:∀f:Nat->Value,VOk prog w ⟨.v (.string (AB (t::130::x::y::r)))::.v (.int .i64 (d:Nat))::.v (f 2)::.v (f 3)::.p 4 0::.v (f 5)::.v (f 6)::.p 7 0::.v (.int .i64 (x*256+y:Nat))::.v (.int .i64 (4:Nat))::fv f 106 10 [],AJ [(7,.cells [.v (.int .i64 (t:Nat)),.v (.string (ByteArray.mk #[])),.v (.slice none 0 0)] 71),(4,.cells [.v (.int .i64 0),.v (.string (ByteArray.mk #[])),.v (.slice none 0 0)] 71)]⟩ (Cm 5 (Ct f54)) (QB prog f54 w R)):Calls prog 54 #[.string (AB (t::130::x::y::r)),.int .i64 (d:Nat)] w R:=by
 try simp only[fv,zs,Nat.reduceAdd]
 have hc:130<256:=by decide
 go_enter func54,ntmps54
 refine A4 ?_;iterate 10 refine aT ?_
 refine Dd ?_;refine FU ?_;iterate 2 refine aT ?_
 refine ES ?_;iterate 7 refine aT ?_
 refine K6 ?_;refine HS ?_;refine Kr ?_;iterate 6 refine aT ?_
 refine K5 ?_;refine IL ?_;iterate 7 refine aT ?_
 refine iD (by exact B4 (p:=true) rfl gg rfl rfl (by decide)) ?_;iterate 5 refine aT ?_
 refine iD (by exact Bu (c:=2) rfl gg rfl rfl (by decide)) ?_;iterate 6 refine aT ?_
 refine Gv ?_;iterate 2 refine aT ?_
 refine Ko ?_;iterate 3 refine aT ?_
 refine TJ ?_;refine aT ?_;refine iD (by first|exact Ev.skip (λ_=>rfl)|exact BE (c:=((4:Nat):Int)) rfl (λ_=>rfl) rfl rfl (by rw[Ah (by omega) (by omega)];omega)) ?_;refine PW ?_;iterate 14 refine aT ?_
 refine Br 3 ?_;change VOk _ _ _ _ _;iterate 5 refine aT ?_
 refine K0 ?_;iterate 7 refine aT ?_
 refine Pp ?_;iterate 2 refine aT ?_
 refine Pu ?_;refine iD (by exact CF (k:=2) rfl gg rfl rfl yF (rfl) (hx)) ?_;refine Pf ?_;refine iD (by exact BE (c:=((x:Nat):Int)) rfl gg rfl rfl (by rw[Ah (by omega) (by omega)];omega)) ?_;iterate 4 refine aT ?_
 refine Pv ?_;iterate 7 refine aT ?_
 refine K0 ?_;iterate 7 refine aT ?_
 refine iD (by exact AK rfl gg rfl rfl (λw=>Rp (v:=x) (u:=x*256) (by omega) rfl _ _ w)) ?_;iterate 2 refine aT ?_
 refine Pw ?_;refine iD (by exact CF (k:=3) rfl gg rfl rfl yF (rfl) (g)) ?_;refine iD (by exact B1 rfl gg rfl (λw=>Nc g w)) ?_;refine iD (by exact BE (c:=((x*256+y:Nat):Int)) rfl gg rfl rfl (by rw[Ah (by omega) (by omega)];omega)) ?_;iterate 4 refine aT ?_
 refine Pu ?_;iterate 7 refine aT ?_
 refine Gv ?_;iterate 2 refine aT ?_
 refine As ?_;change VOk _ _ _ _ _;iterate 2 refine aT ?_
 refine TM ?_;iterate 2 refine aT ?_
 exact Jw (λi=>i==0||i==1||i==4||i==7||i==8||i==9) [] a
theorem X6{R:Ending->World->Prop}(j:∀x∈b,x<256)(B:b.length<=1048576)(E:d<=9)
 (g:(d>8\/(Bf b).2.2=0)-> ∀e H,(∃M,e=.returned (.tuple #[M,.string (AB []),.bool false])/\Ae w H M (AU (noT))/\Bw w H)->R e H)
 (h:d<=8->(Bf b).2.2≠0-> ∀tg n k,Bf b=(tg,n,k)->(n<65536/\k<=4/\tg<256/\d<=8/\k<=b.length)-> ∀f:Nat->Value,VOk prog w ⟨[.v (.string (AB b)),.v (.int .i64 (d:Nat)),.v (f 2),.v (f 3),.p 4 0,.v (f 5),.v (f 6),.p 7 0,.v (.int .i64 (n:Nat)),.v (.int .i64 (k:Nat)),.v (f 10),.v (f 11),.v (f 12),.v (f 13),.v (f 14),.v (f 15),.v (f 16),.v (f 17),.v (f 18),.v (f 19),.v (f 20),.v (f 21),.v (f 22),.v (f 23),.v (f 24),.v (f 25),.v (f 26),.v (f 27),.v (f 28),.v (f 29),.v (f 30),.v (f 31),.v (f 32),.v (f 33),.v (f 34),.v (f 35),.v (f 36),.v (f 37),.v (f 38),.v (f 39),.v (f 40),.v (f 41),.v (f 42),.v (f 43),.v (f 44),.v (f 45),.v (f 46),.v (f 47),.v (f 48),.v (f 49),.v (f 50),.v (f 51),.v (f 52),.v (f 53),.v (f 54),.v (f 55),.v (f 56),.v (f 57),.v (f 58),.v (f 59),.v (f 60),.v (f 61),.v (f 62),.v (f 63),.v (f 64),.v (f 65),.v (f 66),.v (f 67),.v (f 68),.v (f 69),.v (f 70),.v (f 71),.v (f 72),.v (f 73),.v (f 74),.v (f 75),.v (f 76),.v (f 77),.v (f 78),.v (f 79),.v (f 80),.v (f 81),.v (f 82),.v (f 83),.v (f 84),.v (f 85),.v (f 86),.v (f 87),.v (f 88),.v (f 89),.v (f 90),.v (f 91),.v (f 92),.v (f 93),.v (f 94),.v (f 95),.v (f 96),.v (f 97),.v (f 98),.v (f 99),.v (f 100),.v (f 101),.v (f 102),.v (f 103),.v (f 104),.v (f 105),.v (f 106),.v (f 107),.v (f 108),.v (f 109),.v (f 110),.v (f 111),.v (f 112),.v (f 113),.v (f 114),.v (f 115)],AJ [(7,.cells [.v (.int .i64 (tg:Nat)),.v (.string (ByteArray.mk #[])),.v (.slice none 0 0)] 71),(4,.cells [.v (.int .i64 0),.v (.string (ByteArray.mk #[])),.v (.slice none 0 0)] 71)]⟩ (Cm 5 (Ct f54)) (QB prog f54 w R)):Calls prog 54 #[.string (AB b),.int .i64 (d:Nat)] w R:=by
 by_cases A:b.length<2
 .have e:(Bf b).2.2=0:=by
   match b,A with
   | [],_=>rfl
   | [_],_=>rfl
   |_::_::r,A=>simp only[List.length_cons]at A;omega
  exact(km w j B E A).mono (g (.inr e))
 by_cases L:8<d
 .exact(kz w j B E (by omega) L).mono (g (.inl L))
 obtain⟨t,c,r,rfl⟩:∃t c r,b=t::c::r:=by
  match b,A with
  |t::c::r,_=>exact⟨t,c,r,rfl⟩
  | [],A=>simp at A
  | [_],A=>simp at A
 have l:=j t (by simp);have C:=j c (by simp);simp only[List.length_cons]at B;have a:r.length<=1048576:=by omega
 by_cases F:c<128
 .have e:Bf (t::c::r)=(t,c,2):=by simp only[Bf,yE F,cond_true]
  exact ku w l C a (by omega) F (h (by omega) (by rw[e];simp) _ _ _ e ⟨by omega,by omega,l,by omega,by simp⟩)
 .have e:Bf (t::c::r)=bif decide (c=129) && decide (1<=r.length)then(t,r.getD 0 0,3)else bif decide (c=130) && decide (2<=r.length)then(t,r.getD 0 0*256+r.getD 1 0,4)else(0,0,0):=by
   simp only[Bf,yB F,cond_false]
  by_cases J:c=129
  .subst J
   match r,j,a,e,g,h with
   | [],_,a,e,g,_=>exact(Sd w l C a (by omega) (by decide) (by decide) (by simp)).mono (g (.inr (by rw[e];rfl)))
   |x::r,j,a,e,_,h=>
    have G:=j x (by simp);have D:Bf (t::129::x::r)=(t,x,3):=by rw[e,yE (p:=1<=(x::r).length) (by simp)];rfl
    simp only[List.length_cons]at a;exact kx w l G (by omega) (by omega) (h (by omega) (by rw[D];simp) _ _ _ D ⟨by omega,by omega,l,by omega,by simp⟩)
  .by_cases K:c=130
   .subst K
    match r,j,a,e,g,h with
    | [],_,a,e,g,_=>exact(Sd w l C a (by omega) (by decide) (by decide) (by simp)).mono (g (.inr (by rw[e];rfl)))
    | [x],_,a,e,g,_=>exact(Sd w l C a (by omega) (by decide) (by decide) (by simp)).mono (g (.inr (by rw[e];rfl)))
    |x::y::r,j,a,e,_,h=>
     have G:=j x (by simp);have O:=j y (by simp);have D:Bf (t::130::x::y::r)=(t,x*256+y,4):=by rw[e,yE (p:=2<=(x::y::r).length) (by simp)];rfl
     simp only[List.length_cons]at a;exact kw w l G O (by omega) (by omega) (h (by omega) (by rw[D];simp) _ _ _ D ⟨by omega,by omega,l,by omega,by simp⟩)
   .have I:(Bf (t::c::r)).2.2=0:=by rw[e,yB J,yB K];rfl
    by_cases N:c=128
    .exact(kt w l C a (by omega) N).mono (g (.inr I))
    .exact(kr w l C a (by omega) (by omega)).mono (g (.inr I))
theorem Sc:∀f,ct f
 |0=>λb d w G j a=>by
  refine X6 w j a (by omega) (λ_ e J h=> ?_) (λh=>by omega);simp only[A7];exact h
 |f+1=>λb d w G j a=>by
  refine X6 w j a (by omega) (λF e J h=> ?_) (λH l tg n k D c g=> ?_)
  .have A:(Bf b).2.2=0:=F.resolve_left (by omega)
   simp only[A7,yE A,Bool.true_or,cond_true];exact h
  .have I:k≠0:=by rw[D]at l;exact l
   simp only[A7,D,yB I,Bool.false_or];by_cases B:n+k>b.length
   .rw[yE B];exact kn w j a c B g
   .rw[yB B]
    simp only[cond_false];cases E:CB tg with
    |false=>exact kq w j a c (by omega) E g
    |true=>
     obtain⟨K,C⟩:∃K,Cx (A7 f) n ((b.drop k).take n) []=K:=⟨_,rfl⟩
     have:=ko w j a c (by omega) E (Sc f) (by omega) C g;simp only[z5,cond_false];rw[C];cases K<;>exact this
theorem jH(_j:∀x∈b,x<256)(g:b.length<=1048576)(l:b.length>2048):Calls prog 27 #[.string (AB b)] w λe a=> ∃c,e=.returned (.tuple #[c,.int .i64 4])/\Ae w a c (AU (noT))/\Bw w a:=by
 go_enter func27,ntmps27
 refine A4 ?_;iterate 9 refine aT ?_
 refine Dd ?_;refine Pk ?_;iterate 4 refine aT ?_
 refine FW ?_;iterate 3 refine aT ?_
 refine AG ?_;refine AD (Av results27 (Am rfl rfl yS rfl yI rfl) (AF rfl)) ?_;intro ρ a h;refine⟨_,rfl,?_,h.1⟩;exact Dm 0 []
theorem jE(j:∀x∈b,x<256)(g:b.length<=1048576)(C:b.length<=2048)(B:A7 8 b=(t,r,false))(_A:∀x∈r,x<256):Calls prog 27 #[.string (AB b)] w λe a=> ∃h,e=.returned (.tuple #[h,.int .i64 2])/\Ae w a h (AU (noT))/\Bw w a:=by
 go_enter func27,ntmps27
 refine A4 ?_;iterate 9 refine aT ?_
 refine Dd ?_;refine FS ?_;iterate 6 refine aT ?_
 refine iD (by exact DL (D:=AU t) (ys:=[.string (AB r),.bool false]) [] rfl rfl gg rfl (eo func54) (λρ S a hb _=>by have:=Sc 8 _ 1 a rfl j g;rw[B]at this;exact this)) ?_;iterate 5 refine aT ?_
 refine k_4 ?_;iterate 10 refine aT ?_
 refine k_3 ?_;iterate 5 refine aT ?_
 refine FW ?_;refine k_4 ?_;iterate 2 refine aT ?_
 refine AG ?_;refine AD (Av results27 (Am rfl rfl yS rfl yI rfl) (AF rfl)) ?_;intro ρ a l;refine⟨_,rfl,?_,l.1⟩;exact Dm 0 []
theorem jD(h8:∀x∈b,x<256)(hbl:b.length<=1048576)(C:b.length<=2048)(hz:A7 8 b=(t,r,true))(g:∀x∈r,x<256)(a:r.length>0):Calls prog 27 #[.string (AB b)] w λe j=> ∃l,e=.returned (.tuple #[l,.int .i64 2])/\Ae w j l (AU (noT))/\Bw w j:=by
 go_enter func27,ntmps27
 refine A4 ?_;iterate 9 refine aT ?_
 refine Dd ?_;refine FS ?_;iterate 6 refine aT ?_
 refine Pb ?_;iterate 5 refine aT ?_
 refine k_4 ?_;iterate 10 refine aT ?_
 refine iD (by first|exact Ev.skip (λ_=>rfl)|exact AK (c:=.bool true) rfl (λ_=>rfl) rfl rfl (λw=>Hp (b:=[]) (yE (λh=>by rw[h]at a;simp at a)) g (λx B=>by cases B) _ _ w)) ?_;iterate 5 refine aT ?_
 refine FW ?_;refine k_4 ?_;iterate 2 refine aT ?_
 refine AG ?_;refine AD (Av results27 (Am rfl rfl yS rfl yI rfl) (AF rfl)) ?_;intro ρ j A;refine⟨_,rfl,?_,A.1⟩;exact Dm 0 []
theorem jF(h8:∀x∈b,x<256)(hbl:b.length<=1048576)(l:b.length<=2048)(hz:A7 8 b=(t,r,true))(hr8:∀x∈r,x<256)(hr0:r=[])(hok:t.ok)(hwt:wt t<=1048576)(h:(wrT t).2≠0):Calls prog 27 #[.string (AB b)] w λe a=> ∃g,e=.returned (.tuple #[g,.int .i64 2])/\Ae w a g (AU (noT))/\Bw w a:=by
 go_enter func27,ntmps27
 refine A4 ?_;iterate 9 refine aT ?_
 refine Dd ?_;refine FS ?_;iterate 6 refine aT ?_
 refine Pb ?_;iterate 5 refine aT ?_
 refine k_4 ?_;iterate 10 refine aT ?_
 refine Tf ?_;iterate 7 refine aT ?_
 refine Tg ?_;iterate 10 refine aT ?_
 refine iD (by exact BB (p:=true) rfl gg rfl rfl (yE h)) ?_;iterate 3 refine aT ?_
 refine k_3 ?_;iterate 5 refine aT ?_
 refine FW ?_;refine k_4 ?_;iterate 2 refine aT ?_
 refine AG ?_;refine AD (Av results27 (Am rfl rfl yS rfl yI rfl) (AF rfl)) ?_;intro ρ a j;refine⟨_,rfl,?_,j.1⟩;exact Dm 0 []
theorem jG(h8:∀x∈b,x<256)(hbl:b.length<=1048576)(B:b.length<=2048)(hz:A7 8 b=(t,r,true))(hr8:∀x∈r,x<256)(hr0:r=[])(hok:t.ok)(hwt:wt t<=1048576)(l:(wrT t).2=0)(j:(wrT t).1≠b):Calls prog 27 #[.string (AB b)] w λe a=> ∃g,e=.returned (.tuple #[g,.int .i64 2])/\Ae w a g (AU (noT))/\Bw w a:=by
 go_enter func27,ntmps27
 refine A4 ?_;iterate 9 refine aT ?_
 refine Dd ?_;refine FS ?_;iterate 6 refine aT ?_
 refine Pb ?_;iterate 5 refine aT ?_
 refine k_4 ?_;iterate 10 refine aT ?_
 refine Tf ?_;iterate 7 refine aT ?_
 refine Tg ?_;iterate 10 refine aT ?_
 refine iD (by exact BB (p:=false) rfl gg rfl rfl (yB (λh=>h l))) ?_;iterate 3 refine aT ?_
 refine iD (by first|exact Ev.skip (λ_=>rfl)|exact AK (c:=.bool true) rfl (λ_=>rfl) rfl rfl (λw=>Hp (yE j) (EE hok) h8 _ _ w)) ?_;iterate 5 refine aT ?_
 refine FW ?_;refine k_4 ?_;iterate 2 refine aT ?_
 refine AG ?_;refine AD (Av results27 (Am rfl rfl yS rfl yI rfl) (AF rfl)) ?_;intro ρ a A;refine⟨_,rfl,?_,A.1⟩;exact Dm 0 []
theorem jC(h8:∀x∈b,x<256)(hbl:b.length<=1048576)(B:b.length<=2048)(hz:A7 8 b=(t,r,true))(hr8:∀x∈r,x<256)(hr0:r=[])(hok:t.ok)(hwt:wt t<=1048576)(A:(wrT t).2=0)(l:(wrT t).1=b):Calls prog 27 #[.string (AB b)] w λe a=> ∃j,e=.returned (.tuple #[j,.int .i64 0])/\Ae w a j (AU (t))/\Bw w a:=by
 go_enter func27,ntmps27
 refine A4 ?_;iterate 9 refine aT ?_
 refine Dd ?_;refine FS ?_;iterate 6 refine aT ?_
 refine Pb ?_;iterate 5 refine aT ?_
 refine k_4 ?_;iterate 10 refine aT ?_
 refine Tf ?_;iterate 7 refine aT ?_
 refine Tg ?_;iterate 10 refine aT ?_
 refine iD (by exact BB (p:=false) rfl gg rfl rfl (yB (λh=>h A))) ?_;iterate 3 refine aT ?_
 refine iD (by first|exact Ev.skip (λ_=>rfl)|exact AK (c:=.bool false) rfl (λ_=>rfl) rfl rfl (λw=>Hp (yB (λh=>h l)) (EE hok) h8 _ _ w)) ?_;iterate 7 refine aT ?_
 refine k_4 ?_;iterate 2 refine aT ?_
 refine AG ?_;refine AD (Av results27 (Am rfl rfl yS rfl yI rfl) (AF rfl)) ?_;intro ρ a g;exact⟨_,rfl,Fw 15 g rfl,g.1⟩
theorem R5(g:∀x∈b,x<256)(a:b.length<=1048576):Calls prog 27 #[.string (AB b)] w λe E=> ∃D,e=.returned (.tuple #[D,.int .i64 (rdT b).2])/\Ae w E D (AU ((rdT b).1))/\Bw w E:=by
 rw[<-gl g];unfold rrT;by_cases C:b.length>2048
 .rw[yE C];exact jH w g a C
 .rw[yB C]
  obtain⟨f1,_,f3,f4⟩:=Se 8 b g a;obtain⟨⟨t,r,H⟩,l⟩:∃z,A7 8 b=z:=⟨_,rfl⟩
  rw[l]at f1 f3 f4⊢;have c:∀x∈r,x<256:=λx G=>g x (f4 x G)
  cases H with
  |false=>exact jE w g a (by omega) l c
  |true=>
   by_cases F:r.length>0
   .have e:isNil r=false:=yB (by omega)
    simp only[e];exact jD w g a (by omega) l c F
   .have h:r=[]:=zJ (by omega)
    have e:isNil r=true:=yE (by omega);have j:wt t<=1048576:=by have:=(f3 rfl).1;simp only at this;omega
    simp only[e,Bool.and_self,cond_true];by_cases A:(wrT t).2=0
    .rw[yE A]
     by_cases B:(wrT t).1=b
     .rw[yE B];exact jC w g a (by omega) l c h f1 j A B
     .rw[yB B];exact jG w g a (by omega) l c h f1 j A B
    .rw[yB A];exact jF w g a (by omega) l c h f1 j A
def FY(c:Int):Nat:=(c %18446744073709551616).toNat
theorem qI(c:Int)(w:World):(convert 3 49 (.int .i64 c)).run prog w=.ok (.int .u64 ((FY c:Nat):Int)) w:=by
 unfold convert FY
 go_simp
 rw[uB6];omega
theorem A0(D:Dat)(rd:List Nat)(_hd:o.dst=some id)(g:o.op=.call {callee:=.value (.func f),args:=xs,argTypes:=ats})(l:AQ ops o s)
 (J:xs.toList.map (AE s)=vs)(H:∀args w,(callFunc f args).run P w=.ok (.enter f args) w)
 (G:∀ρ S w,Bw w0 w->RelOn w0.heap.size ρ S w (restr rd s.mem)->Calls P f (SV.cs ρ vs).toArray w λe w'=> ∃v a,e=.returned v/\D.holds [v] w' a/\(∀k,a k->(∃j∈rd,(s.mem j).isSome/\S j k)\/(w.heap.size<=k/\k<w'.heap.size))/\Bw w w'):Ev P ops w0 o s ⟨.d id,[(id,.dat D)],[],[id],rd⟩:=
 ⟨by simp[Eff.ok],.inr ⟨l,λρ S w hb F=>.inr (.inr ⟨f,(SV.cs ρ vs).toArray,by
  obtain⟨C,L,B,K,h,guard⟩:=o;simp only at g;subst g;rw[DH,G7,J,<-A8]
  simpa using H (SV.cs ρ vs).toArray w,(G ρ S w hb F).mono λe w' ⟨v,a,h1,h3,h4,h5⟩=>⟨_,h1,_,_,by
   have:=Cj (base:=w0.heap.size) (t:=s.mem) (ρ:=ρ) (S:=S) (w:=w) (w':=w') (val:=.d id) (rd:=rd) (up:=[]) (id:=id) (b:=.dat D) (m:=⟨0,v⟩) (S1:=a)
    h5.os h5.tape h5.output h5.size (λk I _=>h5.block k I) (λA E _=>by show D.holds [(A id).val] w' a;rw[E];exact h3) h4 (λg=>g.elim)
   simpa[SV.c] using this⟩⟩)⟩⟩
theorem T1(a b:Bool):BOy .eql 4 (.bool a) (.bool b) (.bool (a==b)):=by
 intro p q w
 go_simp
 try (cases a<;>cases b<;>rfl)
open TollMont
open TollEc (F base)
open TollSha (sha)
def tri(is:List Nat):List SV:=is.flatMap λi=>[.fn (AN 0) (.d i),.fn (AN 1) (.d i),.fn (AN 2) (.d i)]
def Jt(m:Mem):List Nat->List Tr->Prop
 | [],[]=>True
 |i::is,t::ts=>m i=some (.dat (AR t))/\Jt m is ts
 |_,_=>False
theorem Ub{m:Mem}:∀{is:List Nat} {ks:List Tr},Jt m is ks->is.length=ks.length
 | [],[],_=>rfl
 |_::_,_::_,h=>by simp[Ub h.2]
 | [],_::_,h=>h.elim
 |_::_,[],h=>h.elim
theorem cT{m:Mem}:∀{is:List Nat} {ks:List Tr},Jt m is ks-> ∀i∈is,∃t,m i=some (.dat (AR t))
 |_::_,_::_,h,i,hi=>by
  rcases uA6.1 hi with rfl|hi
  .exact⟨_,h.1⟩
  .exact cT h.2 i hi
 | [],_,_,_,hi=>by cases hi
 |_::_,[],h,_,_=>h.elim
section
variable{ρ:Nat->Nm}{S:Nat->Nat->Prop}{w:World}{base:Nat}{m:Mem}{rd:List Nat}
abbrev Ic(S:Nat->Nat->Prop)(m:Mem)(rd:List Nat):Nat->Prop:=λk=> ∃j∈rd,(m j).isSome/\S j k
theorem Uc(g:RelOn base ρ S w (restr rd m)):∀{is:List Nat} {ks:List Tr},Jt m is ks->(∀i∈is,i∈rd)-> ∃a,SV.cs ρ (tri is)=a/\DNs w (Ic S m rd) ks a/\a.length=is.length*3/\a.all (·.oneCell')=true
 | [],[],_,_=>⟨[],rfl,rfl,rfl,rfl⟩
 |i::is,t::ts,h,hi=>by
  obtain⟨a,A,B,C,D⟩:=Uc g h.2 λj E=>hi j (by simp[E])
  obtain⟨c,l,d1⟩:=Cd g (hi i (by simp)) h.1;have f1:=(fn3 l (CS d1)).2;refine⟨c++a,?_,⟨c,a,rfl,Ur (λk F=>⟨i,hi i (by simp),by rw[h.1];rfl,F⟩) d1,B⟩,by rw[yM,CS d1,C,List.length_cons];omega,by rw[List.all_append,HB d1,D];rfl⟩;rw[<-f1,<-A];simp[tri,A8]
 | [],_::_,h,_=>h.elim
 |_::_,[],h,_=>h.elim
end
theorem Dh(I:o.dst=some id)(J:o.op=.buildSlice ty n parts)(l:AQ ops o s)
 (K:parts.toList.map (·.1)=List.range' 0 n)(N:parts.toList.map (λp=>AE s p.2)=is.map .d)(H:Jt s.mem is ks)(B:SV.hasL id (tri is)=false)
 (M:P.underlying ty=some (.slice e))(D:(P.info? e).map (·.size)=some 3)(O:((P.info? e).bind (·.zero)).isSome=true)(h:0<n*3)(C:n*3<=2^24):
 Ev P ops w0 o s ⟨.s id 0 n n,[(id,.cells (tri is) e)],[],[id],is⟩:=
 NU (ys:=is.map .d) (ls:=is.map λi=>[.fn (AN 0) (.d i),.fn (AN 1) (.d i),.fn (AN 2) (.d i)]) is I J l K N (by simp) (λρ S w _ G j y Q g a=>by
  rw[zC]at g a;cases A:is[j]? with
  |none=>rw[A]at g;cases g
  |some i=>
   rw[A]at g a;simp only[AT,yT]at g a;subst g a;have E:i∈is:=zA A;obtain⟨t,L⟩:=cT H i E;obtain⟨c,F,d1⟩:=Cd G E L;exact(fn3 F (CS d1)).1) (λQ a=>by obtain⟨i,_,rfl⟩:=uB8.1 a;rfl) (by rw[tri,List.flatMap_def]) B M D O h C
theorem GG{y:Operand}{did:Nat}{l:List SV}(C:o.op=.store ty x y)(g:AQ ops o s)(E:AE s x=.p id 0)(B:s.mem id=some (.cells l bt))(F:AE s y=.d did)(a:s.mem did=some (.dat (AR t)))
 (D:∀w,(Go.sizeOf ty).run P w=.ok 3 w)(A:l.length=3):Ev P ops w0 o s ⟨.v undef,[(id,.cells [.fn (AN 0) (.d did),.fn (AN 1) (.d did),.fn (AN 2) (.d did)] bt)],[id],[],[id,did]⟩:=by
 have:=Bh (w0:=w0) (l:=l) (vl:=[.fn (AN 0) (.d did),.fn (AN 1) (.d did),.fn (AN 2) (.d did)]) [id,did] C g E B F D (by simp) (λρ S w _ j=>by
  obtain⟨c,h,d1⟩:=Cd (id:=did) j (by simp) a;have f:=fn3 h (CS d1);exact⟨f.1,by rw[f.2];exact HB d1⟩) rfl (by omega)
 simpa[SM (Nat.le_of_eq A)] using this
theorem Vv{cs:List Value}{F:Nat->Prop}(A:AO w v n 3 cs F)(g:cs.all (·.oneCell')=true)(C:n<=1048576):Calls prog 23 #[v] w λe a=> ∃v,e=.returned (.agg #[.int .i64 48,.slice none 0 0,v])/\BN w a v n 3 61 cs/\Bw w a:=by
 go_enter func23,ntmps23
 refine A4 ?_;iterate 2 refine aT ?_
 iterate 5 refine AA ?_
 refine AX (by exact oZ (n:=n) (size:=3) (ty:=61) (.exact cs) (ofV 48) [] rfl rfl gg rfl (eo func50) (λρ S a hb j=>(cu (t:=48) a (A5 A hb) g C).mono λ_ _ ⟨u,a1,a2,a3⟩=>⟨u,cs,λ_=>False,a1,by obtain⟨_,_,_,_,h,_⟩:=A;exact h,a2,rfl,λ_ h=>h.elim,a3⟩)) ?_;refine AX (by exact Bh (vl:=[.v (.int .i64 48),.v (.slice none 0 0),.d 4]) [2,4] rfl gg rfl rfl rfl yH rfl (λρ S a _ j=>⟨by simp only[SV.c,SV.cs];rfl,by have B:=Cf (id:=4) j (by simp) rfl;simp only[SV.cs,SV.c,List.all_cons,List.all_nil,B.2];rfl⟩) rfl (by simp)) ?_;refine aT ?_;refine AG ?_;refine AD (AH results23 (Am rfl rfl yZ rfl yH rfl)) ?_;intro ρ a l;exact⟨_,rfl,B8 l rfl,l.1⟩
theorem EA{w:World}{base:Nat}{m:Mem}(F:RelOn base ρ S w (restr rd m))(hq:q∈rd)(hi:∀i∈is,i∈rd)(G:Jt m is ks)(X:m q=some (.cells (tri is) 61))(H:is.length=n:=by rfl)(hm:n<=1048576:=by decide):
 Calls prog 23 #[.slice (some ⟨(ρ q).g,0,none⟩) n n] w λe c=> ∃v E,e=.returned v/\(AR (.mk 48 [] ks)).holds [v] c E/\(∀k,E k->(∃j∈rd,(m j).isSome/\S j k)\/(w.heap.size<=k/\k<c.heap.size))/\Bw w c:=by
 obtain⟨A,V,W,l,Y⟩:=Uc F G hi;rw[H]at l
 have hs:AO w (.slice (some ⟨(ρ q).g,0,none⟩) n n) n 3 A (λ_=>True):=by
  have Z:=(w4 F X hq).2;refine⟨_,_,rfl,yD _,l,.inr ⟨_,rfl,True.intro,λi x J=> ?_⟩⟩;rw[<-V]at J;exact UE Z J
 refine(Vv w hs Y hm).mono λe c ⟨v,a1,⟨g,a2⟩,a3⟩=>⟨_,λk=>Ic S m rd k\/(w.heap.size<=k/\k<c.heap.size),a1,?_,?_,a3⟩
 .refine⟨[.int .i64 48,.slice none 0 0,v],rfl,?_⟩
  have I:=DX (a:=⟨g,v⟩) a2 l
  have D:AO c v n 3 A (λk=>Ic S m rd k\/(w.heap.size<=k/\k<c.heap.size)):=by
   rcases a2 with⟨T,B⟩|⟨a0,O,R,fz,T,B,U,_⟩
   .subst B
    obtain⟨K,Q,L,M,N,_⟩:=I;exact⟨K,Q,L,M,N,.inl (zJ (by simpa using l))⟩
   .exact Hq I λk h=>by subst h;exact .inr ⟨B,(z8.1 U).1⟩
  have C:ks.length=n:=by rw[<-Ub G,H]
  rw[DN];exact⟨_,_,A,rfl,⟨none,0,rfl,yD _,rfl,.inl rfl⟩,by rw[C];exact D,LX (λk h=>.inl h) (LY a3 W)⟩
 .exact λk h=>h
theorem bL{w:World}{base:Nat}{m:Mem}{t:Int}(F:RelOn base ρ S w (restr rd m))(hq:q∈rd)(hi:∀i∈is,i∈rd)(G:Jt m is ks)(X:m q=some (.cells (tri is) 61))(H:is.length=n:=by rfl)(hm:n<=1048576:=by decide):
 Calls prog 50 #[.int .i64 t,.slice (some ⟨(ρ q).g,0,none⟩) n n] w λe c=> ∃v E,e=.returned v/\(AR (.mk t [] ks)).holds [v] c E/\(∀k,E k->(∃j∈rd,(m j).isSome/\S j k)\/(w.heap.size<=k/\k<c.heap.size))/\Bw w c:=by
 obtain⟨A,V,W,l,Y⟩:=Uc F G hi;rw[H]at l
 have hs:AO w (.slice (some ⟨(ρ q).g,0,none⟩) n n) n 3 A (λ_=>True):=by
  have Z:=(w4 F X hq).2;refine⟨_,_,rfl,yD _,l,.inr ⟨_,rfl,True.intro,λi x J=> ?_⟩⟩;rw[<-V]at J;exact UE Z J
 refine(cu (t:=t) w hs Y hm).mono λe c ⟨v,a1,⟨g,a2⟩,a3⟩=>⟨_,λk=>Ic S m rd k\/(w.heap.size<=k/\k<c.heap.size),a1,?_,?_,a3⟩
 .refine⟨[.int .i64 t,.slice none 0 0,v],rfl,?_⟩
  have I:=DX (a:=⟨g,v⟩) a2 l
  have D:AO c v n 3 A (λk=>Ic S m rd k\/(w.heap.size<=k/\k<c.heap.size)):=by
   rcases a2 with⟨T,B⟩|⟨a0,O,R,fz,T,B,U,_⟩
   .subst B
    obtain⟨K,Q,L,M,N,_⟩:=I;exact⟨K,Q,L,M,N,.inl (zJ (by simpa using l))⟩
   .exact Hq I λk h=>by subst h;exact .inr ⟨B,(z8.1 U).1⟩
  have C:ks.length=n:=by rw[<-Ub G,H]
  rw[DN];exact⟨_,_,A,rfl,⟨none,0,rfl,yD _,rfl,.inl rfl⟩,by rw[C];exact D,LX (λk h=>.inl h) (LY a3 W)⟩
 .exact λk h=>h
theorem Jk(g:∀x∈b,x<256)(A:b.length<=maxLen):CDy 107 #[.string (AB b)] w (AR (.mk 6 b [])):=by
 go_enter func107,ntmps107
 refine A4 ?_;iterate 2 refine aT ?_
 iterate 5 refine AA ?_
 refine AX (by exact Tw rfl rfl gg rfl yF x7 yL A g) ?_;refine AX (by exact Ji (n:=b.length) (size:=1) (l:=b.map b8) rfl gg rfl rfl (BI rfl) (λp m q=>Jm 6 p m q)) ?_;refine AX (by exact Bh (vl:=[.v (.int .i64 6),.d 4,.v (.slice none 0 0)]) [2,4] rfl gg rfl rfl rfl yH rfl (λρ S B _ h=>⟨DC _,by have j:=Cf (id:=4) h (by simp) rfl;simp only[SV.cs,SV.c,List.all_cons,List.all_nil,j.2];rfl⟩) rfl (by simp)) ?_;refine aT ?_;refine AG ?_;refine AD (AH results107 (Am rfl rfl yZ rfl yH rfl)) ?_;intro ρ B a;refine⟨_,rfl,?_,a.1⟩;have:=Gl (t:=6) (b:=b) 4 a rfl;simpa[SV.c,SV.cs] using this
theorem dI:CDy 139 #[] w (AR (.mk 1 [255] [])):=by
 go_enter func139,ntmps139
 refine A4 ?_;iterate 2 refine aT ?_
 refine AA ?_;iterate 3 refine aT ?_
 refine AX (by exact BL rfl rfl gg rfl (e:=5) (l:=[255].map b8) rfl (by decide) (λ_=>by kernel_rfl)) ?_;refine AX (by exact Ji (n:=1) (size:=1) (l:=[255].map b8) rfl gg rfl rfl (BI rfl) (λp m q=>Jm 1 p m q)) ?_;refine AX (by exact Bh (vl:=[.v (.int .i64 1),.d 1,.v (.slice none 0 0)]) [0,1] rfl gg rfl rfl rfl yH rfl (λρ S j _ g=>⟨DC _,by have h:=Cf (id:=1) g (by simp) rfl;simp only[SV.cs,SV.c,List.all_cons,List.all_nil,h.2];rfl⟩) rfl (by simp)) ?_;refine aT ?_;refine AG ?_;refine AD (AH results139 (Am rfl rfl yZ rfl yH rfl)) ?_;intro ρ j a;refine⟨_,rfl,?_,a.1⟩;have:=Gl (t:=1) (b:=[255]) 1 a rfl;simpa[SV.c,SV.cs] using this
theorem V7{F:Nat->Prop}(j:AO w v b.length 1 (b.map b8) F)(B:b.length<=1048576):CDy 108 #[v] w (AR (.mk 3 (0::b) [])):=by
 go_enter func108,ntmps108
 refine A4 ?_;iterate 2 refine aT ?_
 refine AA ?_;iterate 3 refine aT ?_
 refine AX (by exact BL rfl rfl gg rfl (e:=5) (l:=[0].map b8) rfl (by decide) (λ_=>by kernel_rfl)) ?_;refine AA ?_;refine AX (by exact Di rfl rfl gg rfl rfl rfl (AW j) x7 el5 (by decide) (by simp) (DR _) (by simp only[maxLen];omega) (by omega) (by simp)) ?_;refine AX (by exact Ji (n:=1+b.length) (size:=1) (l:=[0].map b8++b.map b8) rfl gg rfl rfl (BI rfl) (λp m q=>Jm 3 p m q)) ?_;refine AX (by exact Bh (vl:=[.v (.int .i64 3),.d 5,.v (.slice none 0 0)]) [2,5] rfl gg rfl rfl rfl yH rfl (λρ S A _ g=>⟨DC _,by have h:=Cf (id:=5) g (by simp) rfl;simp only[SV.cs,SV.c,List.all_cons,List.all_nil,h.2];rfl⟩) rfl (by simp)) ?_;refine aT ?_;refine AG ?_;refine AD (AH results108 (Am rfl rfl yZ rfl yH rfl)) ?_;intro ρ A a;refine⟨_,rfl,?_,a.1⟩;have:=Gl (t:=3) (b:=0::b) 5 a (by show some (Blk.row (1+b.length) 1 5 _)=_;rw[List.length_cons,Nat.add_comm];rfl);simpa[SV.c,SV.cs] using this
def B5(b:List Nat):Tr:=.mk 6 b []
def Ey:Tr:=.mk 1 [255] []
def Ix(b:List Nat):Tr:=.mk 3 (0::b) []
def C5(t:Tr):Tr:=.mk 4 (wrT t).1 []
def utT(b:List Nat):Tr:=.mk 12 b []
def Bm(ks:List Tr):Tr:=.mk 48 [] ks
def iT(n:Int):Tr:=.mk 2 (B2 (CW n.toNat)) []
def E0(s:List Nat):Tr:=Bm [Bm [B5 [85,4,3],utT s]]
def Fh(a:Bool)(c:Int):Tr:=bif a then Bm [Ey,iT c]else Bm []
structure Crt where
 se:Int
 is:List Nat
 su:List Nat
 fr:Int
 to:Int
 ky:List Nat
 ca:Bool
 pa:Int
 us:Int
deriving DecidableEq
def Hr:List Nat:=[42,134,72,206,61,4,3,2]
def Crt.body(c:Crt):Tr:=Bm [.mk 160 [] [iT 2],iT c.se,Bm [B5 Hr],E0 c.is,Bm [iT c.fr,iT c.to],E0 c.su,
 Bm [Bm [B5 [42,134,72,206,61,2,1],B5 [42,134,72,206,61,3,1,7]],Ix c.ky],
 .mk 163 [] [Bm [Bm [B5 [85,29,19],Ey,C5 (Fh c.ca c.pa)],Bm [B5 [85,29,15],Ey,C5 (iT (c.us %4))],Bm [B5 [85,29,37],C5 (iT (c.us/4))]]]]
def BH(r t:Nat):Tr:=Bm [tN (bl r),tN (bl t)]
def Crt.whole(c:Crt)(r t:Nat):Tr:=Bm [c.body,Bm [B5 Hr],Ix (wrT (BH r t)).1]
structure Crt.Fit(c:Crt):Prop where
 i8:∀x∈c.is,x<256
 s8:∀x∈c.su,x<256
 k8:∀x∈c.ky,x<256
 il:c.is.length<=64
 sl:c.su.length<=64
 kl:c.ky.length<=65
 sm:c.se<=4611686018427387904
 fm:c.fr<=4611686018427387904
 tm:c.to<=4611686018427387904
 pm:c.pa<=5
 u0:0<=c.us
 um:c.us<=15
theorem F0{t:Int}(h:∀x∈b,x<256)(a:b.length<=1048576):(Tr.mk t b []).ok:=by simp only[Tr.ok,oks];exact⟨h,a,by simp,trivial⟩
theorem DG{t:Int}(h:oks ks)(a:ks.length<=1048576):(Tr.mk t [] ks).ok:=by simp only[Tr.ok];exact⟨λ_ h=>(by cases h),by simp,a,h⟩
theorem YE(m:Nat):∀x∈CW m,x<256:=λx a=>by
 simp only[CW,List.mem_cons,List.not_mem_nil,or_false]at a;rcases a with rfl|rfl|rfl|rfl|rfl|rfl|rfl|rfl<;>exact PO _
theorem GD(n:Int):(iT n).ok:=F0 (VL (YE _)) (by have:=PL (CW n.toNat);have e:(CW n.toNat).length=8:=rfl;omega)
theorem HU(n:Int):wt (iT n)<=19:=by
 have:=PL (CW n.toNat);have e:(CW n.toNat).length=8:=rfl;simp only[iT,wt,wts];omega
theorem Vb(a:b.length<=64):wt (tN b)<=75:=by have:=PL b;simp only[tN,wt,wts];omega
theorem Sa(h:t.ok):(C5 t).ok:=F0 (EE h) (by have:=GN t;omega)
theorem SZ(t:Tr):wt (C5 t)<=2058:=by have:=GN t;simp only[C5,wt,wts];omega
theorem UB(h:∀x∈b,x<256)(a:b.length<=100):(B5 b).ok:=F0 h (by omega)
theorem QX(a:Bool)(c:Int):(Fh a c).ok:=by
 unfold Fh;cases a
 .exact DG trivial (by simp)
 .exact DG ⟨F0 (by decide) (by decide),GD _,trivial⟩ (by simp)
theorem UX(a:Bool)(c:Int):wt (Fh a c)<=100:=by
 have:=HU c;unfold Fh Ey Bm;cases a<;>simp only[cond_true,cond_false,wt,wts,List.length_nil,List.length_cons]<;>omega
theorem US{c:Crt}(h:c.Fit):c.body.ok:=by
 have a:∀{s:List Nat},(∀x∈s,x<256)->s.length<=64->(E0 s).ok:=λg l=>DG ⟨DG ⟨UB (by decide) (by decide),F0 g (by omega),trivial⟩ (by simp),trivial⟩ (by simp)
 have A:=h.kl;have j:(Ix c.ky).ok:=F0 (λx hx=>by rcases uA6.1 hx with rfl|hx;decide;exact h.k8 x hx) (by simp;omega)
 have o:∀b:List Nat,(b.all (· <256) && decide (b.length<=100))=true->(B5 b).ok:=λb hb=>by
  simp only[yW,BY,y5]at hb;exact UB hb.1 hb.2
 have y:Ey.ok:=F0 (by decide) (by decide)
 exact DG ⟨DG ⟨GD _,trivial⟩ (by simp),GD _,DG ⟨o _ (by decide),trivial⟩ (by simp),a h.i8 h.il,DG ⟨GD _,GD _,trivial⟩ (by simp),a h.s8 h.sl,
  DG ⟨DG ⟨o _ (by decide),o _ (by decide),trivial⟩ (by simp),j,trivial⟩ (by simp),
  DG ⟨DG ⟨DG ⟨o _ (by decide),y,Sa (QX _ _),trivial⟩ (by simp),DG ⟨o _ (by decide),y,Sa (GD _),trivial⟩ (by simp),DG ⟨o _ (by decide),Sa (GD _),trivial⟩ (by simp),trivial⟩ (by simp),trivial⟩ (by simp),trivial⟩ (by simp)
theorem bq{c:Crt}(h:c.Fit):wt c.body<=10000:=by
 have a:=HU 2;have b:=HU c.se;have d:=HU c.fr;have e:=HU c.to;have l:=SZ (Fh c.ca c.pa);have p2:=SZ (iT (c.us %4));have A:=SZ (iT (c.us/4));have g:=h.il;have B:=h.sl;have j:=h.kl;unfold Crt.body Bm B5 E0 utT Ey Ix Hr Bm B5;simp only[wt,wts,List.length_nil,List.length_cons];omega
theorem HI(r t:Nat):(BH r t).ok:=DG ⟨Vd (EZ r) (by rw[EB];decide),Vd (EZ t) (by rw[EB];decide),trivial⟩ (by simp)
theorem Rm(r t:Nat):wt (BH r t)<=200:=by
 have a:=Vb (b:=bl r) (by rw[EB];decide);have b:=Vb (b:=bl t) (by rw[EB];decide);unfold BH Bm;simp only[wt,wts,List.length_nil];omega
theorem Lb{c:Crt}(h:c.Fit)(r t:Nat):(c.whole r t).ok:=by
 have a:=GN (BH r t);exact DG ⟨US h,DG ⟨UB (by decide) (by decide),trivial⟩ (by simp),F0 (λx hx=>by rcases uA6.1 hx with rfl|hx;decide;exact EE (HI r t) x hx) (by simp;omega),trivial⟩ (by simp)
theorem U8{c:Crt}(h:c.Fit)(r t:Nat):wt (c.whole r t)<=20000:=by
 have a:=bq h;have g:=GN (BH r t);unfold Crt.whole Bm B5 Ix Hr;simp only[wt,wts,List.length_nil,List.length_cons];omega
theorem fY:CDy 23 #[.slice none 0 0] w (AR (Bm [])):=
 (Vv w (n:=0) (cs:=[]) (F:=λ_=>False) ⟨none,0,rfl,yD _,rfl,.inl rfl⟩ rfl (by decide)).mono λe D ⟨v,a1,⟨g,a2⟩,a3⟩=>by
  have C:=DX (a:=⟨g,v⟩) a2 rfl;refine⟨_,a1,⟨λ_=>False,⟨[.int .i64 48,.slice none 0 0,v],rfl,?_⟩,λk B=>B.elim⟩,a3⟩;rw[Bm,DN];obtain⟨c,A,h,j,l,_⟩:=C;exact⟨_,_,[],rfl,⟨none,0,rfl,yD _,rfl,.inl rfl⟩,⟨c,A,h,j,l,.inl rfl⟩,rfl⟩
theorem kS{B C D:Value}{F:Nat->Prop}(a:t.ok)(G:DN w F t [B,C,D])(g:wt t<=1073741824):CDy 140 #[.agg #[B,C,D]] w (AR (C5 t)):=by
 go_enter func140,ntmps140
 refine A4 ?_;iterate 4 refine AA ?_
 iterate 3 refine aT ?_
 refine AA ?_;refine AX (by exact IU [] rfl rfl gg rfl (eo func22) (n:=(wrT t).1.length) (size:=1) (l:=(wrT t).1.map b8) (y:=.int .i64 (wrT t).2) (by simp) (λρ S h hb j=>ce h a (ED hb G) g)) ?_;iterate 9 refine AA ?_
 refine AX (by exact Ji (n:=(wrT t).1.length) (size:=1) (l:=(wrT t).1.map b8) rfl gg rfl rfl (BI rfl) (λp m q=>Jm 4 p m q)) ?_;refine AX (by exact Bh (vl:=[.v (.int .i64 4),.d 7,.v (.slice none 0 0)]) [2,7] rfl gg rfl rfl rfl yH rfl (λρ S h _ j=>⟨DC _,by have E:=Cf (id:=7) j (by simp) rfl;simp only[SV.cs,SV.c,List.all_cons,List.all_nil,E.2];rfl⟩) rfl (by simp)) ?_;refine aT ?_;refine AG ?_;refine AD (AH results140 (Am rfl rfl yZ rfl yH rfl)) ?_;intro ρ h A;refine⟨_,rfl,?_,A.1⟩;have:=Gl (t:=4) (b:=(wrT t).1) 7 A rfl;simpa[SV.c,SV.cs,C5] using this
theorem UI{w:World}{base:Nat}{m:Mem}(A:RelOn base ρ S w (restr rd m))(a:id∈rd)(B:m id=some (.dat (AR t)))(g:t.ok)(h:wt t<=1073741824):CDy 140 #[(ρ id).val] w (AR (C5 t)):=by
 obtain⟨c,l,j⟩:=Cd A a B;obtain⟨C,D,E,rfl⟩:=DI (CS j);rw[l];exact kS w g j h
theorem VB(h:∀x∈b,x<256)(j:b.length<=maxLen):CDy 138 #[.string (AB b)] w (AR (E0 b)):=by
 go_enter func138,ntmps138
 refine A4 ?_;iterate 2 refine aT ?_
 refine AA ?_;iterate 3 refine aT ?_
 refine AX (by exact Al (D:=AR (B5 [85,4,3])) [] rfl rfl gg rfl (eo func107) (λρ S a hb c=>Jk (b:=[85,4,3]) a (by decide) (by decide))) ?_;refine AA ?_;refine AX (by exact Al (D:=AR (utT b)) [] rfl rfl gg rfl (eo func156) (λρ S a hb c=>cf h j a)) ?_;refine AX (by exact Dh (is:=[3,5]) (ks:=[_,_]) rfl rfl gg rfl rfl ⟨rfl,rfl,trivial⟩ rfl yO (by kernel_rfl) (by kernel_rfl) (by decide) (by decide)) ?_;refine AX (by exact A0 (AR (.mk 48 [] [_,_])) [6,3,5] rfl rfl gg rfl (eo func23) (λρ S a hb c=>EA (is:=[3,5]) (q:=6) c (by simp) (by simp) ⟨rfl,rfl,trivial⟩ rfl)) ?_;refine AX (by exact Dh (is:=[7]) (ks:=[_]) rfl rfl gg rfl rfl ⟨rfl,trivial⟩ rfl yO (by kernel_rfl) (by kernel_rfl) (by decide) (by decide)) ?_;refine AX (by exact A0 (AR (.mk 48 [] [_])) [8,7] rfl rfl gg rfl (eo func23) (λρ S a hb c=>EA (is:=[7]) (q:=8) c (by simp) (by simp) ⟨rfl,trivial⟩ rfl)) ?_;refine AX (by exact GG (did:=9) rfl gg rfl rfl rfl rfl yH rfl) ?_;refine aT ?_;refine AG ?_;refine AD (AH results138 (Am rfl rfl yZ rfl yH rfl)) ?_;intro ρ a g;exact⟨_,rfl,Hs 9 g rfl,g.1⟩
theorem rL{c:Crt}(l:c.Fit)(j:c.ca=true):CDy 141 #[(.agg #[.int .i64 c.se,.string (AB c.is),.string (AB c.su),.int .i64 c.fr,.int .i64 c.to,kv,.bool c.ca,.int .i64 c.pa,.int .i64 c.us])] w (AR (Bm [Ey,iT c.pa])):=by
 rw[j]
 go_enter func141,ntmps141
 refine A4 ?_;iterate 4 refine AA ?_
 iterate 4 refine aT ?_
 iterate 2 refine AA ?_
 iterate 4 refine aT ?_
 refine SA ?_;iterate 2 refine AA ?_
 refine AX (by exact Al (D:=AR (iT (c.pa))) [] rfl rfl gg rfl (eo func137) (λρ S a hb g=>Js (c.pa) (by have:=l.pm;omega) a)) ?_;refine AX (by exact Dh (is:=[5,8]) (ks:=[_,_]) rfl rfl gg rfl rfl ⟨rfl,rfl,trivial⟩ rfl yO (by kernel_rfl) (by kernel_rfl) (by decide) (by decide)) ?_;refine AX (by exact A0 (AR (.mk 48 [] [_,_])) [9,5,8] rfl rfl gg rfl (eo func23) (λρ S a hb g=>EA (is:=[5,8]) (q:=9) g (by simp) (by simp) ⟨rfl,rfl,trivial⟩ rfl)) ?_;refine AX (by exact GG (did:=10) rfl gg rfl rfl rfl rfl yH rfl) ?_;refine aT ?_;refine AG ?_;refine AD (AH results141 (Am rfl rfl yZ rfl yH rfl)) ?_;intro ρ a h;exact⟨_,rfl,Hs 10 h rfl,h.1⟩
theorem rN{c:Crt}(h:c.ca=false):CDy 141 #[(.agg #[.int .i64 c.se,.string (AB c.is),.string (AB c.su),.int .i64 c.fr,.int .i64 c.to,kv,.bool c.ca,.int .i64 c.pa,.int .i64 c.us])] w (AR (Bm [])):=by
 rw[h]
 go_enter func141,ntmps141
 refine A4 ?_;iterate 4 refine AA ?_
 iterate 4 refine aT ?_
 iterate 2 refine AA ?_
 iterate 5 refine aT ?_
 refine AX (by exact Al (D:=AR (Bm [])) [] rfl rfl gg rfl (eo func23) (λρ S g hb j=>fY g)) ?_;refine AX (by exact GG (did:=11) rfl gg rfl rfl rfl rfl yH rfl) ?_;refine aT ?_;refine AG ?_;refine AD (AH results141 (Am rfl rfl yZ rfl yH rfl)) ?_;intro ρ g a;exact⟨_,rfl,Hs 11 a rfl,a.1⟩
theorem rM{c:Crt}(g:c.Fit):CDy 141 #[(.agg #[.int .i64 c.se,.string (AB c.is),.string (AB c.su),.int .i64 c.fr,.int .i64 c.to,kv,.bool c.ca,.int .i64 c.pa,.int .i64 c.us])] w (AR (Fh c.ca c.pa)):=by
 unfold Fh;cases h:c.ca with
 |true=>have a:=rL (kv:=kv) w g h;rw[h]at a;exact a
 |false=>have a:=rN (kv:=kv) w h;rw[h]at a;exact a
theorem Rw{n:Int}(a:0<=n)(_c:n<=15):BOy .rem 3 (.int .i64 n) (.int .i64 4) (.int .i64 (n %4)):=by
 intro p q w
 go_simp
 exact uD5 a
theorem R7{n:Int}(a:0<=n)(c:n<=15):BOy .quo 3 (.int .i64 n) (.int .i64 4) (.int .i64 (n/4)):=by
 intro p q w
 have e:IntKind.i64.wrap (n.tdiv 4)=n/4:=by rw[Int.tdiv_eq_ediv_of_nonneg a,Ah (by omega) (by omega)]
 go_simp
 try exact e
theorem bF{c:Crt}{F:Nat->Prop}(h:c.Fit)(l:AO w kv c.ky.length 1 (c.ky.map b8) F):CDy 89 #[(.agg #[.int .i64 c.se,.string (AB c.is),.string (AB c.su),.int .i64 c.fr,.int .i64 c.to,kv,.bool c.ca,.int .i64 c.pa,.int .i64 c.us])] w (AR c.body):=by
 go_enter func89,ntmps89
 refine A4 ?_;iterate 4 refine AA ?_
 iterate 3 refine aT ?_
 refine AX (by exact Al (D:=AR (iT (2))) [] rfl rfl gg rfl (eo func137) (λρ S a hb g=>Js (2) (by decide) a)) ?_;refine AX (by exact Dh (is:=[3]) (ks:=[_]) rfl rfl gg rfl rfl ⟨rfl,trivial⟩ rfl yO (by kernel_rfl) (by kernel_rfl) (by decide) (by decide)) ?_;refine AX (by exact A0 (AR (.mk 160 [] [_])) [4,3] rfl rfl gg rfl (eo func50) (λρ S a hb g=>bL (is:=[3]) (q:=4) g (by simp) (by simp) ⟨rfl,trivial⟩ rfl)) ?_;iterate 2 refine AA ?_
 refine AX (by exact Al (D:=AR (iT (c.se))) [] rfl rfl gg rfl (eo func137) (λρ S a hb g=>Js (c.se) (by have:=h.sm;omega) a)) ?_;refine XH ?_;refine AX (by exact Dh (is:=[9]) (ks:=[_]) rfl rfl gg rfl rfl ⟨rfl,trivial⟩ rfl yO (by kernel_rfl) (by kernel_rfl) (by decide) (by decide)) ?_;refine AX (by exact A0 (AR (.mk 48 [] [_])) [10,9] rfl rfl gg rfl (eo func23) (λρ S a hb g=>EA (is:=[9]) (q:=10) g (by simp) (by simp) ⟨rfl,trivial⟩ rfl)) ?_;iterate 2 refine AA ?_
 refine AX (by exact Al (D:=AR (E0 c.is)) [] rfl rfl gg rfl (eo func138) (λρ S a hb g=>VB (b:=c.is) a h.i8 (by have:=h.il;simp only[maxLen];omega))) ?_;iterate 2 refine AA ?_
 refine AX (by exact Al (D:=AR (iT (c.fr))) [] rfl rfl gg rfl (eo func137) (λρ S a hb g=>Js (c.fr) (by have:=h.fm;omega) a)) ?_;iterate 2 refine AA ?_
 refine AX (by exact Al (D:=AR (iT (c.to))) [] rfl rfl gg rfl (eo func137) (λρ S a hb g=>Js (c.to) (by have:=h.tm;omega) a)) ?_;refine AX (by exact Dh (is:=[17,20]) (ks:=[_,_]) rfl rfl gg rfl rfl ⟨rfl,rfl,trivial⟩ rfl yO (by kernel_rfl) (by kernel_rfl) (by decide) (by decide)) ?_;refine AX (by exact A0 (AR (.mk 48 [] [_,_])) [21,17,20] rfl rfl gg rfl (eo func23) (λρ S a hb g=>EA (is:=[17,20]) (q:=21) g (by simp) (by simp) ⟨rfl,rfl,trivial⟩ rfl)) ?_;iterate 2 refine AA ?_
 refine AX (by exact Al (D:=AR (E0 c.su)) [] rfl rfl gg rfl (eo func138) (λρ S a hb g=>VB (b:=c.su) a h.s8 (by have:=h.sl;simp only[maxLen];omega))) ?_;refine AX (by exact Al (D:=AR (B5 [42,134,72,206,61,2,1])) [] rfl rfl gg rfl (eo func107) (λρ S a hb g=>Jk (b:=[42,134,72,206,61,2,1]) a (by decide) (by decide))) ?_;refine AX (by exact Al (D:=AR (B5 [42,134,72,206,61,3,1,7])) [] rfl rfl gg rfl (eo func107) (λρ S a hb g=>Jk (b:=[42,134,72,206,61,3,1,7]) a (by decide) (by decide))) ?_;refine AX (by exact Dh (is:=[26,27]) (ks:=[_,_]) rfl rfl gg rfl rfl ⟨rfl,rfl,trivial⟩ rfl yO (by kernel_rfl) (by kernel_rfl) (by decide) (by decide)) ?_;refine AX (by exact A0 (AR (.mk 48 [] [_,_])) [28,26,27] rfl rfl gg rfl (eo func23) (λρ S a hb g=>EA (is:=[26,27]) (q:=28) g (by simp) (by simp) ⟨rfl,rfl,trivial⟩ rfl)) ?_;iterate 2 refine AA ?_
 refine AX (by exact Al (D:=AR (Ix c.ky)) [] rfl rfl gg rfl (eo func108) (λρ S a hb g=>V7 a (A5 l hb) (by have:=h.kl;omega))) ?_;refine AX (by exact Dh (is:=[29,32]) (ks:=[_,_]) rfl rfl gg rfl rfl ⟨rfl,rfl,trivial⟩ rfl yO (by kernel_rfl) (by kernel_rfl) (by decide) (by decide)) ?_;refine AX (by exact A0 (AR (.mk 48 [] [_,_])) [33,29,32] rfl rfl gg rfl (eo func23) (λρ S a hb g=>EA (is:=[29,32]) (q:=33) g (by simp) (by simp) ⟨rfl,rfl,trivial⟩ rfl)) ?_;refine AX (by exact Al (D:=AR (B5 [85,29,19])) [] rfl rfl gg rfl (eo func107) (λρ S a hb g=>Jk (b:=[85,29,19]) a (by decide) (by decide))) ?_;refine SA ?_;refine AA ?_;refine AX (by exact Al (D:=AR (Fh c.ca c.pa)) [] rfl rfl gg rfl (eo func141) (λρ S a hb g=>rM a h)) ?_;refine AX (by exact Al (D:=AR (C5 (Fh c.ca c.pa))) [38] rfl rfl gg rfl (eo func140) (λρ S a hb g=>UI (id:=38) g (by simp) rfl (QX _ _) (by have:=UX c.ca c.pa;omega))) ?_;refine AX (by exact Dh (is:=[35,36,39]) (ks:=[_,_,_]) rfl rfl gg rfl rfl ⟨rfl,rfl,rfl,trivial⟩ rfl yO (by kernel_rfl) (by kernel_rfl) (by decide) (by decide)) ?_;refine AX (by exact A0 (AR (.mk 48 [] [_,_,_])) [40,35,36,39] rfl rfl gg rfl (eo func23) (λρ S a hb g=>EA (is:=[35,36,39]) (q:=40) g (by simp) (by simp) ⟨rfl,rfl,rfl,trivial⟩ rfl)) ?_;refine AX (by exact Al (D:=AR (B5 [85,29,15])) [] rfl rfl gg rfl (eo func107) (λρ S a hb g=>Jk (b:=[85,29,15]) a (by decide) (by decide))) ?_;refine SA ?_;iterate 2 refine AA ?_
 refine AX (by exact AK rfl gg rfl rfl (λw=>Rw h.u0 h.um _ _ w)) ?_;refine AX (by exact Al (D:=AR (iT (c.us %4))) [] rfl rfl gg rfl (eo func137) (λρ S a hb g=>Js (c.us %4) (by have:=h.um;omega) a)) ?_;refine AX (by exact Al (D:=AR (C5 (iT (c.us %4)))) [47] rfl rfl gg rfl (eo func140) (λρ S a hb g=>UI (id:=47) g (by simp) rfl (GD _) (by have:=HU (c.us %4);omega))) ?_;refine AX (by exact Dh (is:=[42,43,48]) (ks:=[_,_,_]) rfl rfl gg rfl rfl ⟨rfl,rfl,rfl,trivial⟩ rfl yO (by kernel_rfl) (by kernel_rfl) (by decide) (by decide)) ?_;refine AX (by exact A0 (AR (.mk 48 [] [_,_,_])) [49,42,43,48] rfl rfl gg rfl (eo func23) (λρ S a hb g=>EA (is:=[42,43,48]) (q:=49) g (by simp) (by simp) ⟨rfl,rfl,rfl,trivial⟩ rfl)) ?_;refine AX (by exact Al (D:=AR (B5 [85,29,37])) [] rfl rfl gg rfl (eo func107) (λρ S a hb g=>Jk (b:=[85,29,37]) a (by decide) (by decide))) ?_;iterate 2 refine AA ?_
 refine AX (by exact AK rfl gg rfl rfl (λw=>R7 h.u0 h.um _ _ w)) ?_;refine AX (by exact Al (D:=AR (iT (c.us/4))) [] rfl rfl gg rfl (eo func137) (λρ S a hb g=>Js (c.us/4) (by have:=h.um;omega) a)) ?_;refine AX (by exact Al (D:=AR (C5 (iT (c.us/4)))) [55] rfl rfl gg rfl (eo func140) (λρ S a hb g=>UI (id:=55) g (by simp) rfl (GD _) (by have:=HU (c.us/4);omega))) ?_;refine AX (by exact Dh (is:=[51,56]) (ks:=[_,_]) rfl rfl gg rfl rfl ⟨rfl,rfl,trivial⟩ rfl yO (by kernel_rfl) (by kernel_rfl) (by decide) (by decide)) ?_;refine AX (by exact A0 (AR (.mk 48 [] [_,_])) [57,51,56] rfl rfl gg rfl (eo func23) (λρ S a hb g=>EA (is:=[51,56]) (q:=57) g (by simp) (by simp) ⟨rfl,rfl,trivial⟩ rfl)) ?_;refine AX (by exact Dh (is:=[41,50,58]) (ks:=[_,_,_]) rfl rfl gg rfl rfl ⟨rfl,rfl,rfl,trivial⟩ rfl yO (by kernel_rfl) (by kernel_rfl) (by decide) (by decide)) ?_;refine AX (by exact A0 (AR (.mk 48 [] [_,_,_])) [59,41,50,58] rfl rfl gg rfl (eo func23) (λρ S a hb g=>EA (is:=[41,50,58]) (q:=59) g (by simp) (by simp) ⟨rfl,rfl,rfl,trivial⟩ rfl)) ?_;refine AX (by exact Dh (is:=[60]) (ks:=[_]) rfl rfl gg rfl rfl ⟨rfl,trivial⟩ rfl yO (by kernel_rfl) (by kernel_rfl) (by decide) (by decide)) ?_;refine AX (by exact A0 (AR (.mk 163 [] [_])) [61,60] rfl rfl gg rfl (eo func50) (λρ S a hb g=>bL (is:=[60]) (q:=61) g (by simp) (by simp) ⟨rfl,trivial⟩ rfl)) ?_;refine AX (by exact Dh (is:=[5,8,11,14,22,25,34,62]) (ks:=[_,_,_,_,_,_,_,_]) rfl rfl gg rfl rfl ⟨rfl,rfl,rfl,rfl,rfl,rfl,rfl,rfl,trivial⟩ rfl yO (by kernel_rfl) (by kernel_rfl) (by decide) (by decide)) ?_;refine AX (by exact A0 (AR (.mk 48 [] [_,_,_,_,_,_,_,_])) [63,5,8,11,14,22,25,34,62] rfl rfl gg rfl (eo func23) (λρ S a hb g=>EA (is:=[5,8,11,14,22,25,34,62]) (q:=63) g (by simp) (by simp) ⟨rfl,rfl,rfl,rfl,rfl,rfl,rfl,rfl,trivial⟩ rfl)) ?_;refine AX (by exact GG (did:=64) rfl gg rfl rfl rfl rfl yH rfl) ?_;refine aT ?_;refine AG ?_;refine AD (AH results89 (Am rfl rfl yZ rfl yH rfl)) ?_;intro ρ a j;exact⟨_,rfl,Hs 64 j rfl,j.1⟩
theorem Qi{r t:Nat}:CRy 7 #[PT r t] w ((wrT (BH r t)).1.length) ((wrT (BH r t)).1.map b8):=by
 go_enter func7,ntmps7
 refine A4 ?_;iterate 7 refine AA ?_
 refine AX (by exact LD (a:=0) (b:=32) rfl gg rfl y9 yG rfl rfl (by decide) (by decide) (by decide)) ?_;refine AX (by exact NV rfl gg rfl yY (by decide)) ?_;refine AA ?_;refine AX (by exact Al (D:=AR (tN (bl r))) [] rfl rfl gg rfl (eo func24) (λρ S c hb g=>dE (bs:=bl r) (EB r) c)) ?_;refine Kt ?_;refine AX (by exact NV rfl gg rfl yY (by decide)) ?_;refine AA ?_;refine AX (by exact Al (D:=AR (tN (bl t))) [] rfl rfl gg rfl (eo func24) (λρ S c hb g=>dE (bs:=bl t) (EB t) c)) ?_;refine AX (by exact Dh (is:=[9,13]) (ks:=[_,_]) rfl rfl gg rfl rfl ⟨rfl,rfl,trivial⟩ rfl yO (by kernel_rfl) (by kernel_rfl) (by decide) (by decide)) ?_;refine AX (by exact A0 (AR (.mk 48 [] [_,_])) [14,9,13] rfl rfl gg rfl (eo func23) (λρ S c hb g=>EA (is:=[9,13]) (q:=14) g (by simp) (by simp) ⟨rfl,rfl,trivial⟩ rfl)) ?_;refine AX (by exact IU [15] rfl rfl gg rfl (eo func22) (n:=(wrT (BH r t)).1.length) (size:=1) (l:=(wrT (BH r t)).1.map b8) (y:=.int .i64 (wrT (BH r t)).2) (by simp) (λρ S c hb g=>UG 15 (HI r t) (by have:=Rm r t;omega) g (by simp) rfl)) ?_;iterate 11 refine AA ?_
 refine AG ?_;refine AD (AH results7 (AF rfl)) ?_;intro ρ c h;exact⟨_,rfl,B8 h rfl,h.1⟩
theorem VA{c:Crt}{F:Nat->Prop}(h:c.Fit)(A:AO w kv c.ky.length 1 (c.ky.map b8) F){r t:Nat}:CRy 59 #[(.agg #[.int .i64 c.se,.string (AB c.is),.string (AB c.su),.int .i64 c.fr,.int .i64 c.to,kv,.bool c.ca,.int .i64 c.pa,.int .i64 c.us]),PT r t] w ((wrT (c.whole r t)).1.length) ((wrT (c.whole r t)).1.map b8):=by
 go_enter func59,ntmps59
 refine A4 ?_;iterate 9 refine AA ?_
 refine AX (by exact Al (D:=AR c.body) [] rfl rfl gg rfl (eo func89) (λρ S g hb a=>bF g h (A5 A hb))) ?_;refine XH ?_;refine AX (by exact Dh (is:=[10]) (ks:=[_]) rfl rfl gg rfl rfl ⟨rfl,trivial⟩ rfl yO (by kernel_rfl) (by kernel_rfl) (by decide) (by decide)) ?_;refine AX (by exact A0 (AR (.mk 48 [] [_])) [11,10] rfl rfl gg rfl (eo func23) (λρ S g hb a=>EA (is:=[10]) (q:=11) a (by simp) (by simp) ⟨rfl,trivial⟩ rfl)) ?_;refine AA ?_;refine AX (by exact Cs [] rfl rfl gg rfl (eo func7) (n:=(wrT (BH r t)).1.length) (size:=1) (l:=(wrT (BH r t)).1.map b8) (by simp) (λρ S g hb a=>Qi g)) ?_;refine AX (by exact Al (D:=AR (Ix (wrT (BH r t)).1)) [14] rfl rfl gg rfl (eo func108) (λρ S g hb a=>V7 g (EH (id:=14) a (by simp) rfl) (by have:=GN (BH r t);omega))) ?_;refine AX (by exact Dh (is:=[9,12,15]) (ks:=[_,_,_]) rfl rfl gg rfl rfl ⟨rfl,rfl,rfl,trivial⟩ rfl yO (by kernel_rfl) (by kernel_rfl) (by decide) (by decide)) ?_;refine AX (by exact A0 (AR (.mk 48 [] [_,_,_])) [16,9,12,15] rfl rfl gg rfl (eo func23) (λρ S g hb a=>EA (is:=[9,12,15]) (q:=16) a (by simp) (by simp) ⟨rfl,rfl,rfl,trivial⟩ rfl)) ?_;refine AX (by exact IU [17] rfl rfl gg rfl (eo func22) (n:=(wrT (c.whole r t)).1.length) (size:=1) (l:=(wrT (c.whole r t)).1.map b8) (y:=.int .i64 (wrT (c.whole r t)).2) (by simp) (λρ S g hb a=>UG 17 (Lb h r t) (by have:=U8 h r t;omega) a (by simp) rfl)) ?_;iterate 11 refine AA ?_
 refine AG ?_;refine AD (AH results59 (AF rfl)) ?_;intro ρ g j;exact⟨_,rfl,B8 j rfl,j.1⟩
theorem Ve{c:Crt}{F:Nat->Prop}(h:c.Fit)(I:AO w kv c.ky.length 1 (c.ky.map b8) F)(H:B6 w)(G:CQ w)(A:7<w.heap.size):CBy 47 #[(.agg #[.int .i64 c.se,.string (AB c.is),.string (AB c.su),.int .i64 c.fr,.int .i64 c.to,kv,.bool c.ca,.int .i64 c.pa,.int .i64 c.us])] w (.agg ((sha [(wrT c.body).1].flatten).map b8).toArray):=by
 go_enter func47,ntmps47
 refine A4 ?_;iterate 4 refine AA ?_
 iterate 3 refine aT ?_
 refine AA ?_;refine AX (by exact Al (D:=AR c.body) [] rfl rfl gg rfl (eo func89) (λρ S g hb a=>bF g h (A5 I hb))) ?_;refine AX (by exact IU [7] rfl rfl gg rfl (eo func22) (n:=(wrT (c.body)).1.length) (size:=1) (l:=(wrT (c.body)).1.map b8) (y:=.int .i64 (wrT (c.body)).2) (by simp) (λρ S g hb a=>UG 7 (US h) (by have:=bq h;omega) a (by simp) rfl)) ?_;iterate 9 refine AA ?_
 refine AX (by exact NU (ys:=[.d 8]) (size:=1) (l:=[.d 8]) (ls:=[[.d 8]]) [8] rfl rfl gg rfl rfl rfl (λρ S g hb a j y K C B=>by have E:=Cf (id:=8) a (by simp) rfl;rcases j with _|j<;>simp only[List.getElem?_cons_zero,List.getElem?_cons_succ,List.getElem?_nil,yT,reduceCtorEq]at C B<;>(subst C B;exact E.1)) (by simp) rfl rfl yX (by kernel_rfl) (by kernel_rfl) (by decide) (by decide)) ?_;refine AX (by exact Aj (v:=.agg ((sha [(wrT c.body).1].flatten).map b8).toArray) [8,12] rfl gg rfl (eo func90) (λρ S g hb a=>cw (ls:=[(wrT c.body).1]) g (H.bw hb) (G.bw hb) (yK A hb.size) (H4 (id:=12) (n:=1) (by simp) (by rfl) rfl (by exact⟨⟨Ol (id:=8) (by simp) rfl,EE (US h)⟩,trivial⟩) ρ S g hb a) (Ja hb a) (by have:=GN c.body;simp;omega) (by simp))) ?_;refine AA ?_;refine aT ?_;exact AG (AD (AH results47 (Ac rfl rfl yY rfl yR rfl rfl)) λ_ _ J=>⟨rfl,J.1⟩)
def AC:List Nat->Tr->Tr
 | [],t=>t
 |i::is,.mk _ _ ks=>match ks[i]? with
  |some k=>AC is k
  |none=>noT
theorem lI:noT.ok:=F0 (λ_ h=>(by cases h)) (by simp)
theorem Af:∀(p:List Nat) {t:Tr},t.ok->(AC p t).ok
 | [],_,h=>h
 |i::is,.mk _ _ ks,h=>by
  rw[AC];cases hk:ks[i]? with
  |none=>exact lI
  |some k=>simp only[Tr.ok]at h;exact Af is (Ei h.2.2.2 hk)
theorem Xo{t:Int}{k:Tr}(h:ks[i]? =some k):AC (i::is) (.mk t b ks)=AC is k:=by rw[AC,h]
theorem Xp{t:Int}(h:ks.length<=i):AC (i::is) (.mk t b ks)=noT:=by rw[AC,D0 h]
theorem Sn(a c:Nat):decide ((a:Int)<=(c:Int))=decide (a<=c):=zM.2 (by omega)
theorem YO{w:World}{F:Nat->Prop}:DN w F noT [.int .i64 0,.slice none 0 0,.slice none 0 0]:=by
 simp only[noT,DN,DNs];exact⟨_,_,[],rfl,⟨none,0,rfl,yD _,rfl,.inl rfl⟩,⟨none,0,rfl,yD _,rfl,.inl rfl⟩,rfl⟩
theorem X9{w:World}{F:Nat->Prop}{x y:Value}(h:DN w F t [x,y,z]):((Value.agg #[x,y,z]).cells.toList.all λx=>x.oneCell')=true:=HB h
def CE(p:List Nat):List Value:=p.map λi=>Value.int .i64 (i:Nat)
theorem nD{x:Nat}(h:p[i]? =some x):(CE p)[i]? =some (.int .i64 (x:Nat)):=by rw[CE,zC,h];rfl
theorem kK{c:List Value}{L:Value}{F G:Nat->Prop}(Z:DN w F t c)(hp:AO w L p.length 1 (CE p) G)(hm:p.length<=1048576):Calls prog 61 #[.agg c.toArray,L] w λe W=> ∃X,e=.returned (.agg X.toArray)/\DN w F (AC p t) X/\Bw w W:=by
 obtain⟨y0,y1,y2,rfl⟩:=DI (CS Z);obtain⟨R,A⟩:∃R,AC p t=R:=⟨_,rfl⟩
 rw[A]
 go_enter func61,ntmps61
 refine A4 ?_;iterate 9 refine AA ?_
 refine AX (by exact BU rfl gg rfl underlying124 (AW hp)) ?_;iterate 3 refine AA ?_
 refine Bo (α:={x:Nat×Tr×Value×Value×Value // x.1<=p.length/\DN w F x.2.1 [x.2.2.1,x.2.2.2.1,x.2.2.2.2]/\AC (p.drop x.1) x.2.1=R}) (fun(x:{x:Nat×Tr×Value×Value×Value // x.1<=p.length/\DN w F x.2.1 [x.2.2.1,x.2.2.2.1,x.2.2.2.2]/\AC (p.drop x.1) x.2.1=R}) f=>⟨.v (f 0)::.v L::.p 2 0::.v (f 3)::.p 4 0::.v (f 5)::.v (f 6)::.v L::.v (.int .i64 (p.length:Nat))::.v (.int .i64 (x.1.1:Nat))::fv f 16 10 [],AJ [(2,.cells [.v x.1.2.2.1,.v x.1.2.2.2.1,.v x.1.2.2.2.2] 61),(4,.cells [.v (.int .i64 0),.v (.slice none 0 0),.v (.slice none 0 0)] 61)]⟩) (λx=>p.length-x.1.1) ?_ (⟨(0,t,y0,y1,y2),y6 _,Z,A⟩) ?_
 .rintro⟨⟨i,u,z0,z1,z2⟩,hi,hu,a⟩ f
  simp only at hi hu a;obtain⟨tg,b,ks,rfl⟩:∃tg b ks,u=Tr.mk tg b ks:=by cases u with|mk tg b ks=>exact⟨tg,b,ks,rfl⟩
  have J:=hu;simp only[DN]at J;obtain⟨a0,a4,a1,B,a3,l,T⟩:=J;simp only[zX,zS]at B;obtain⟨rfl,rfl,rfl⟩:=B;obtain⟨q,g⟩:∃q,decide (i<p.length)=q:=⟨_,rfl⟩
  have C:=(CL i p.length).trans g;change VOk _ _ _ _ _;simp only[fv,Nat.reduceAdd];iterate 2 refine aT ?_
  refine AX (by exact BM rfl gg rfl rfl C) ?_;iterate 2 refine aT ?_
  cases q
  .refine aT ?_
   have Q:p.drop i=[]:=SM (by have:=yC g;omega);rw[Q,AC]at a;refine As ?_;change VOk _ _ _ _ _;iterate 2 refine aT ?_
   refine AA ?_;refine SH ?_;refine aT ?_;refine AG ?_;refine AD (AH results61 (Ac rfl rfl yZ rfl yH rfl rfl)) ?_;intro ρ W I;subst a;first|exact⟨_,rfl,YO,I.1⟩|exact⟨_,rfl,hu,I.1⟩
  .refine aT ?_
   have hlt:=yA g;obtain⟨j,hj⟩:=EV hlt;obtain⟨r,h⟩:∃r,decide (ks.length<=j)=r:=⟨_,rfl⟩
   have D:=(Sn ks.length j).trans h;iterate 5 refine aT ?_
   refine SQ ?_;refine SO ?_;iterate 7 refine AA ?_
   refine AX (by first|exact BK rfl gg rfl rfl yO rfl rfl|exact BR rfl gg rfl yO rfl (by assumption)) ?_;refine AX (by exact BU rfl gg rfl yO (AW l)) ?_;refine AX (by exact B4 rfl gg rfl rfl D) ?_;refine aT ?_;cases r
   .refine aT ?_
    have H:j<ks.length:=by have:=yC h;omega
    obtain⟨kk,Y⟩:=EV H;obtain⟨c2,N,hd2⟩:=Nx T Y;obtain⟨K,b2,U,rfl⟩:∃tg b ks,kk=Tr.mk tg b ks:=by cases kk with|mk tg b ks=>exact⟨tg,b,ks,rfl⟩
    have E:=hd2;simp only[DN]at E;obtain⟨M,V,a2,rfl,_,_,_⟩:=E;iterate 2 refine aT ?_
    refine AA ?_;refine AX (by first|exact BK rfl gg rfl rfl yO rfl rfl|exact BR rfl gg rfl yO rfl (by assumption)) ?_;refine AA ?_;refine AX (by exact Bc (k:=j) rfl gg rfl rfl yO yH (AW l) (H) (by decide)) ?_;refine AX (by exact LF rfl gg rfl yZ rfl yH (AW l) (N) rfl (by decide)) ?_;refine SH ?_;iterate 2 refine aT ?_
    refine SS ?_;iterate 2 refine AA ?_
    refine⟨⟨(i+1,.mk K b2 U,.int .i64 K,M,V),by show i+1<=p.length;omega,hd2,by show AC (p.drop (i+1)) _=R;rw[<-a,Bj hj,Xo Y]⟩,by show p.length-(i+1)<p.length-i;omega,?_⟩;exact Ar (λi=>i==1||i==2||i==4||i==7||i==8||i==9) []
   .refine aT ?_
    have O:=yA h;rw[Bj hj,Xp O]at a;iterate 2 refine aT ?_
    refine k_9 ?_;refine SH ?_;refine aT ?_;refine AG ?_;refine AD (AH results61 (Ac rfl rfl yZ rfl yH rfl rfl)) ?_;intro ρ W I;subst a;first|exact⟨_,rfl,YO,I.1⟩|exact⟨_,rfl,hu,I.1⟩
 .exact(Ar (λi=>i==1||i==2||i==4||i==7||i==8||i==9) []).trans2 (λf=>Lc (by show(4:Nat)≠2;decide))
section
variable{P:Program}{w0:World}{ops:Array Oper}{o:Oper}{s:VS}
def Ql(w0:World)(m:Mem)(rd:List Nat)(y:SV)(n size:Nat):Prop:= ∀ρ S w,Bw w0 w->RelOn w0.heap.size ρ S w (restr rd m)-> ∃l F,AO w (y.c ρ) n size l F
theorem Jg{t:TypeId}(A:o.op=.call {callee:=.builtin .len,args:=#[x],argTypes:=#[t]})(g:AQ ops o s)(D:AE s x=y)
 (C:P.underlying t=some (.slice e))(B:Ql w0 s.mem rd y n size):Ev P ops w0 o s ⟨.v (.int .i64 (n:Nat)),[],[],[],rd⟩:=
 Ev.run _ _ g λρ S w hb l=>by
  have a:=AI s ρ x;rw[D]at a;obtain⟨_,_,E,h,j,_⟩:=B ρ S w hb l;rw[j]at a;simp[execOp,A,resolve,invoke,builtin,a,Builtin.len_,yU C,SV.c,goInt]
theorem QC{B:Operand}(J:o.op=.indexAddr ty x B)(j:AQ ops o s)(N:AE s x=y)(H:AE s B=.v (.int ki (k:Nat)))
 (M:P.underlying ty=some (.slice e))(L:∀w,(Go.sizeOf e).run P w=.ok size w)(K:Ql w0 s.mem rd y n size)(I:k<n)(A:0<size):Ev P ops w0 o s ⟨.fn (FK (k*size)) y,[],[],[],rd⟩:=
 Ev.run _ _ j λρ S w hb G=>by
  have a:=AI s ρ x;rw[N]at a;have C:=AI s ρ B;rw[H]at C;obtain⟨l,_,O,F,D,Q,E,h⟩:=K ρ S w hb G;rw[D]at a;rcases h with h|⟨g,rfl,_⟩
  .exfalso
   rw[h]at E;have:0<n*size:=Nat.mul_pos (by omega) A;simp at E;omega
  .simp[execOp,J,a,C,SV.c,Instr.indexAt,asIntOf,yU M,L,D,FK,I]
theorem P9{A:Nat}{d:TypeDesc}{D:Dat}(_hd:o.dst=some id)(K:o.op=.load ty x)(J:AQ ops o s)(hx:AE s x=.fn (FK A) y)
 (hu:P.underlying ty=some d)(I:Ba d=true)(Z:∀w,(Go.sizeOf ty).run P w=.ok k w)
 (Y:∀ρ S w,Bw w0 w->RelOn w0.heap.size ρ S w (restr rd s.mem)-> ∃l F vs h,AO w (y.c ρ) n size l F/\(l.drop A).take k=vs/\D.holds [.agg vs.toArray] w h/\ ∀q,h q-> ∃j∈rd,(s.mem j).isSome/\S j q)
 (W:∀(vs:List Value) w S,D.holds [.agg vs.toArray] w S->vs.length=k)(V:0<k):Ev P ops w0 o s ⟨.d id,[(id,.dat D)],[],[id],rd⟩:=
 ⟨by simp[Eff.ok],.inr ⟨J,λρ S w hb T=>by
  have M:=AI s ρ x;rw[hx]at M;obtain⟨l,F,vs,h,⟨ao,O,R,h4,h5,B⟩,H,N,U⟩:=Y ρ S w hb T;have a:=W vs w h N;rcases B with B|⟨g,rfl,_,B⟩
  .exfalso;rw[B]at H;simp at H;rw[H]at a;simp at a;omega
  .have C:(loadCells (g.add A) vs.length).run P w=.ok vs.toArray w:=OR w _ vs λj v G=>by
    rw[Uf];refine B _ v ?_;rw[<-H,zP]at G;split at G
    .rwa [zQ]at G
    .cases G
   rw[a]at C
   have E:(execOp (s.act ρ).eval o).run P w=.ok (.value (.agg vs.toArray)) w:=by
    simp[execOp,K,M,SV.c,R,FK,Instr.loadAt,Instr.sureAddr,loadVar,Bp hu,I,Z,C]
   refine .inl ⟨_,w,E,λj=>if j=id then⟨0,.agg vs.toArray⟩else ρ j,λ_=>h,?_⟩
   have:=Cj (base:=w0.heap.size) (t:=s.mem) (ρ:=ρ) (S:=S) (w:=w) (w':=w) (val:=.d id) (rd:=rd) (up:=[]) (id:=id) (b:=.dat D) (m:=⟨0,.agg vs.toArray⟩) (S1:=h)
    rfl rfl rfl (yD _) (λk V _=>rfl) (λL Q _=>by show D.holds [(L id).val] w h;rw[Q];exact N) (λq X=>.inl (U q X)) (λK=>K.elim)
   simpa[SV.c] using this⟩⟩
end
theorem au(vs:List Value)(w:World)(S:Nat->Prop)(h:(AR t).holds [.agg vs.toArray] w S):vs.length=3:=by
 obtain⟨c,a,g⟩:=h;simp only[zX,Value.agg.injEq,zS]at a;have:=CS g;have e:vs=c:=by simpa using a
 rw[e];exact this
theorem ar(vs:List Value)(w:World)(S:Nat->Prop)(h:(AU t).holds [.agg vs.toArray] w S):vs.length=3:=by
 obtain⟨c,a,g⟩:=h;simp only[zX,Value.agg.injEq,zS]at a;have:=Cu g;have e:vs=c:=by simpa using a
 rw[e];exact this
section
variable{w0:World}{m:Mem}{id:Nat}{t:Int}{b:List Nat}{ks:List Tr}
theorem Ka(A:m id=some (.dat (AR (.mk t b ks)))):Ql w0 m [id] (.fn (AN 2) (.d id)) ks.length 3:=λρ S w _ l=>by
 obtain⟨c,h,a⟩:=Cd l (by simp) A;rw[DN]at a;obtain⟨B,kv,g,rfl,C,j,_⟩:=a;exact⟨g,_,by simp only[SV.c,h];exact j⟩
theorem ZD{_k:Nat}(h:m id=some (.dat (AR (.mk t b ks))))(H:ks[i]? =some u):∀ρ S w,Bw w0 w->RelOn w0.heap.size ρ S w (restr [id] m)-> ∃l F vs a,AO w ((SV.fn (AN 2) (.d id)).c ρ) ks.length 3 l F/\(l.drop (i*3)).take 3=vs/\(AR u).holds [.agg vs.toArray] w a/\ ∀q,a q-> ∃j∈[id],(m j).isSome/\S j q:=λρ S w _ E=>by
 obtain⟨c,B,g⟩:=Cd E (by simp) h;rw[DN]at g;obtain⟨K,kv,A,rfl,L,C,D⟩:=g;obtain⟨x,J,G⟩:=Nx D H;exact⟨A,_,x,S id,by simp only[SV.c,B];exact C,J,⟨x,rfl,G⟩,λq I=>⟨id,by simp,by rw[h];rfl,I⟩⟩
end
section
variable{w0:World}{m:Mem}{id:Nat}{t:Int}{b:List Nat}{ks:List Tr}
theorem Mh(A:m id=some (.dat (AU (.mk t b ks)))):Ql w0 m [id] (.fn (AN 2) (.d id)) ks.length 3:=λρ S w _ l=>by
 obtain⟨c,h,a⟩:=C9 l (by simp) A;rw[RN]at a;obtain⟨kv,g,rfl,j,_⟩:=a;exact⟨g,_,by simp only[SV.c,h];exact j⟩
theorem ZC{_k:Nat}(h:m id=some (.dat (AU (.mk t b ks))))(H:ks[i]? =some u):∀ρ S w,Bw w0 w->RelOn w0.heap.size ρ S w (restr [id] m)-> ∃l F vs a,AO w ((SV.fn (AN 2) (.d id)).c ρ) ks.length 3 l F/\(l.drop (i*3)).take 3=vs/\(AU u).holds [.agg vs.toArray] w a/\ ∀q,a q-> ∃j∈[id],(m j).isSome/\S j q:=λρ S w _ E=>by
 obtain⟨c,B,g⟩:=C9 E (by simp) h;rw[RN]at g;obtain⟨kv,A,rfl,C,D⟩:=g;obtain⟨x,J,G⟩:=Nw D H;exact⟨A,_,x,S id,by simp only[SV.c,B];exact C,J,⟨x,rfl,G⟩,λq I=>⟨id,by simp,by rw[h];rfl,I⟩⟩
end
theorem WW{m:Mem}(l:m id=some (.dat (AR t))):Rdg w0 m [id] (.fn (AN 1) (.d id)) (Az t).length 1 ((Az t).map b8):=λρ S w _ j=>by
 obtain⟨c,g,a⟩:=Cd j (by simp) l;cases t with
 |mk t b ks=>
  rw[DN]at a;obtain⟨A,kv,B,rfl,h,_,_⟩:=a;exact⟨_,by simp only[SV.c,g];exact h⟩
theorem aV(B:o.op=.field 61 x 1)(a:AQ ops o s)(C:AE s x=.d id)(A:s.mem id=some (.dat (AR t))):Ev prog ops w0 o s ⟨.fn (AN 1) (.d id),[],[],[],[id]⟩:=
 Ev.run _ _ a λρ S w _ l=>by
  have g:=AI s ρ x;rw[C]at g;obtain⟨c,h,j⟩:=Cd (id:=id) l (by simp) A;obtain⟨D,E,F,rfl⟩:=DI (CS j);simp[execOp,B,g,SV.c,h,AN,Value.cells,Instr.field,yU yZ,Bp x7,asAgg,part,Ba]
section
variable{w:World}{base:Nat}{ρ:Nat->Nm}{S:Nat->Nat->Prop}{m:Mem}{rd:List Nat}{t:Tr}
theorem Ex(i q:Nat)(p:List Nat)(l:RelOn base ρ S w (restr rd m))(A:i∈rd)(G:q∈rd)(h:m i=some (.dat (AR t)))(D:m q=some (.row p.length 1 3 (.exact (CE p))))(F:p.length<=1048576:=by decide):
 Calls prog 61 (SV.cs ρ [.agg [.fn (AN 0) (.d i),.fn (AN 1) (.d i),.fn (AN 2) (.d i)],.d q]).toArray w λe a=> ∃v g,e=.returned v/\(AR (AC p t)).holds [v] a g/\(∀k,g k->(∃j∈rd,(m j).isSome/\S j k)\/(w.heap.size<=k/\k<a.heap.size))/\Bw w a:=by
 obtain⟨c,C,d1⟩:=cW l A h;have H:=EH l G D;simp only[SV.cs,C];exact(kK w d1 H F).mono λe a ⟨B,a1,a2,a3⟩=>⟨_,S i,a1,⟨B,rfl,ED a3 a2⟩,λk E=>.inl ⟨i,A,by rw[h];rfl,E⟩,a3⟩
end
def Ax(t:Tr):Int:=bif decide ((tnN t).2≠0)then-1 else(tnN t).1
def Bt(t:Tr):Tr:=(rdT (Az t)).1
def BO(t:Tr):List Nat:=(Az t).drop 1
theorem iC(h:(rdT b).2≠0):(rdT b).1=noT:=by
 revert h
 unfold rdT;cases decide (b.length>2048)<;>cases (A9 8 b).2.2 && isNil (A9 8 b).2.1<;>simp
theorem K9(h:t.ok):(Bt t).ok:=by
 cases t with
 |mk t b ks=>simp only[Tr.ok]at h;exact I3 h.1 h.2.1
theorem EY(h:t.ok):(∀x∈Az t,x<256)/\(Az t).length<=1048576:=by
 cases t with
 |mk t b ks=>simp only[Tr.ok]at h;exact⟨h.1,h.2.1⟩
theorem NY{w:World}{F:Nat->Prop}{x y:Value}(h:DN w F t [x,y,z]):AO w y (Az t).length 1 ((Az t).map b8) F:=by
 cases t with
 |mk t b ks=>
  rw[DN]at h;obtain⟨c,kv,g,e,a,_,_⟩:=h;simp only[zX,zS]at e;obtain⟨rfl,rfl,rfl⟩:=e;exact a
def wiB(n a c:Int):Bool:=decide (n>=a) && decide (n<=c)
def Db(s:List Nat):Bool:=decide ((twN (utT s)).2=0) && decide ((twN (utT s)).1≠[])
theorem lF{c:List Value}{F:Nat->Prop}(g:t.ok)(l:DN w F t c):CBy 62 #[.agg c.toArray] w (.int .i64 (Ax t)):=by
 obtain⟨C,D,E,rfl⟩:=DI (CS l);obtain⟨q,a⟩:∃q,decide ((tnN t).2≠0)=q:=⟨_,rfl⟩
 have A:Ax t=bif q then-1 else(tnN t).1:=by rw[Ax,a]
 rw[A]
 go_enter func62,ntmps62
 refine A4 ?_;iterate 8 refine AA ?_
 refine AX (by exact Ad (v:=.tuple #[.int .i64 (tnN t).1,.int .i64 (tnN t).2]) rfl gg rfl (eo func110) (λB j=>dw B g (ED j l))) ?_;iterate 10 refine AA ?_
 refine AX (by exact BB rfl gg rfl rfl a) ?_;refine aT ?_;cases q
 .iterate 7 refine AA ?_
  exact AG (AD (AH results62 (AF rfl)) λ_ _ h=>⟨rfl,h.1⟩)
 .iterate 5 refine AA ?_
  exact AG (AD (AH results62 (AF rfl)) λ_ _ h=>⟨rfl,h.1⟩)
theorem nE{c:List Value}{F:Nat->Prop}(a:t.ok)(h:DN w F t c):CDy 65 #[.agg c.toArray] w (AR (Bt t)):=by
 obtain⟨A,B,C,rfl⟩:=DI (CS h)
 go_enter func65,ntmps65
 refine A4 ?_;iterate 4 refine AA ?_
 iterate 3 refine aT ?_
 iterate 2 refine AA ?_
 refine AX (by exact DL (D:=AR (rdT (Az t)).1) (ys:=[.int .i64 (rdT (Az t)).2]) [] rfl rfl gg rfl (eo func25) (λρ S j hb l=>Uk j (A5 (NY h) hb) (EY a).1 (EY a).2)) ?_;iterate 4 refine AA ?_
 refine Wu ?_;iterate 5 refine AA ?_
 refine Wu ?_;refine aT ?_;refine AG ?_;refine AD (AH results65 (Am rfl rfl yZ rfl yH rfl)) ?_;intro ρ j g;exact⟨_,rfl,Hs 8 g rfl,g.1⟩
theorem pL{c:List Value}{F:Nat->Prop}(_B:t.ok)(j:DN w F t c):Calls prog 64 #[.agg c.toArray] w λe l=> ∃v,e=.returned v/\AO l v (BO t).length 1 ((BO t).map b8) F/\Bw w l:=by
 obtain⟨D,C,E,rfl⟩:=DI (CS j);obtain⟨q,g⟩:∃q,decide (((Az t).length:Int)=0)=q:=⟨_,rfl⟩
 go_enter func64,ntmps64
 refine A4 ?_;iterate 10 refine AA ?_
 refine AX (by exact BU rfl gg rfl x7 (AW (NY j))) ?_;refine AX (by exact Ag rfl gg rfl rfl g) ?_;refine aT ?_;cases q
 .iterate 4 refine aT ?_
  iterate 2 refine AA ?_
  refine AX (by exact Fa (a:=1) (b:=(Az t).length) (v':=Ay (1) ((Az t).length) 1 C) rfl gg rfl x7 yG (AW (NY j)) rfl rfl (by have:=yC g;omega) (yD _) rfl) ?_;iterate 2 refine AA ?_
  refine AG ?_;refine AD (AH results64 (AF rfl)) ?_;intro ρ l h;first|exact⟨_,rfl,by rw[BO,A];exact⟨none,0,rfl,yD _,rfl,.inl rfl⟩,h.1⟩|exact⟨_,rfl,A5 (N8 (NY j) (by have:=yC g;omega)) h.1,h.1⟩
 .refine aT ?_
  have A:Az t=[]:=zJ (by have:=yA g;omega);iterate 4 refine AA ?_
  refine AG ?_;refine AD (AH results64 (AF rfl)) ?_;intro ρ l h;first|exact⟨_,rfl,by rw[BO,A];exact⟨none,0,rfl,yD _,rfl,.inl rfl⟩,h.1⟩|exact⟨_,rfl,A5 (N8 (NY j) (by have:=yC g;omega)) h.1,h.1⟩
theorem EF{n a c:Int}:CBy 66 #[.int .i64 n,.int .i64 a,.int .i64 c] w (.bool (wiB n a c)):=by
 obtain⟨p,g⟩:∃p,decide (n>=a)=p:=⟨_,rfl⟩
 obtain⟨q,h⟩:∃q,decide (n<=c)=q:=⟨_,rfl⟩
 rw[wiB,g,h]
 go_enter func66,ntmps66
 refine A4 ?_;cases p<;>cases q<;>
 (
  iterate 8 refine AA ?_
  refine AX (by exact Ew rfl gg rfl rfl g) ?_;iterate 3 refine AA ?_
  refine AX (by first|exact Ev.skip (λ_=>rfl)|exact Ev.skip (λ_=>rfl)|exact LG rfl (λ_=>rfl) rfl rfl h) ?_;refine k_9 ?_;iterate 2 refine AA ?_
  exact AG (AD (AH results66 (AF rfl)) λ_ _ j=>⟨rfl,j.1⟩)
 )
theorem Sp{s:List Nat}(g:∀x∈s,x<256)(A:s.length<=1048576):CBy 104 #[.string (AB s)] w (.bool (Db s)):=by
 obtain⟨p,a⟩:∃p,decide ((twN (utT s)).2=0)=p:=⟨_,rfl⟩
 obtain⟨q,c⟩:∃q,decide ((twN (utT s)).1≠[])=q:=⟨_,rfl⟩
 have h:∀x∈(twN (utT s)).1,x<256:=by
  unfold twN;cases Ju (utT s)
  .simp
  .exact g
 rw[Db,a,c]
 go_enter func104,ntmps104
 refine A4 ?_;cases p<;>cases q<;>
 (
  iterate 7 refine AA ?_
  refine AX (by exact Al (D:=AR (utT s)) [] rfl rfl gg rfl (eo func156) (λρ S l hb j=>cf g (by simp only[maxLen];omega) l)) ?_;refine AX (by exact Aj (v:=.tuple #[.string (AB (twN (utT s)).1),.int .i64 (twN (utT s)).2]) [7] rfl gg rfl (eo func155) (λρ S l hb j=>p9 7 (F0 g A) j (by simp) rfl)) ?_;iterate 9 refine AA ?_
  refine AX (by exact Ag rfl gg rfl rfl a) ?_;iterate 2 refine AA ?_
  refine AX (by first|exact Ev.skip (λ_=>rfl)|exact Ev.skip (λ_=>rfl)|exact AK rfl (λ_=>rfl) rfl rfl (λw=>Hp c h (by simp) _ _ w)) ?_;refine k_9 ?_;iterate 2 refine AA ?_
  exact AG (AD (AH results104 (AF rfl)) λ_ _ B=>⟨rfl,B.1⟩)
 )
section
variable{w:World}{base:Nat}{ρ:Nat->Nm}{S:Nat->Nat->Prop}{m:Mem}{rd:List Nat}{t:Tr}
theorem LN(i:Nat)(a:t.ok)(j:RelOn base ρ S w (restr rd m))(l:i∈rd)(h:m i=some (.dat (AR t))):CBy 62 (SV.cs ρ [.d i]).toArray w (.int .i64 (Ax t)):=by
 obtain⟨c,g,d1⟩:=Cd j l h;simp only[SV.cs,SV.c,g];exact lF w a d1
theorem UJ(i:Nat)(a:t.ok)(j:RelOn base ρ S w (restr rd m))(l:i∈rd)(h:m i=some (.dat (AR t))):CDy 65 (SV.cs ρ [.d i]).toArray w (AR (Bt t)):=by
 obtain⟨c,g,d1⟩:=Cd j l h;simp only[SV.cs,SV.c,g];exact nE w a d1
theorem bN(i:Nat)(g:t.ok)(C:RelOn base ρ S w (restr rd m))(A:i∈rd)(l:m i=some (.dat (AR t))):Calls prog 64 (SV.cs ρ [.d i]).toArray w λe a=> ∃v h,e=.returned v/\(Dat.sl (BO t).length 1 ((BO t).map b8)).holds [v] a h/\(∀k,h k->(∃j∈rd,(m j).isSome/\S j k)\/(w.heap.size<=k/\k<a.heap.size))/\Bw w a:=by
 obtain⟨c,B,d1⟩:=Cd C A l;simp only[SV.cs,SV.c,B];exact(pL w g d1).mono λe a ⟨v,a1,a2,a3⟩=>⟨v,S i,a1,⟨v,rfl,a2⟩,λk D=>.inl ⟨i,A,by rw[l];rfl,D⟩,a3⟩
end
end Go.Proofs.YtafbhakmkbehiaaGreatDoor
