import Derived.Test.YtafbhakmkbehiaaGreatDoorW19
import Derived.Test.YtafbhakmkbehiaaGreatDoorW26
open Go.Proofs.Tryz
set_option maxHeartbeats 40000000
set_option maxRecDepth 100000
namespace Go.Proofs.YtafbhakmkbehiaaGreatDoor
open Go.RowKit Go.Vx
variable(w:World){q q1:Bool}{now:Int}{Bs:List (List Nat)}{a b is r:List Nat}{vs:List Value}{G:Nat->Prop}
open TollMont
open TollEc (F)
theorem q_142{A B:Prop}(b:B)(c:B->A:=by exact A3 (by first|exact Ev.skip (λ_=>rfl)|exact Ag (p:=true) rfl (λ_=>rfl) rfl rfl (by decide)) id):A:=c b
theorem el9:DT prog 9 1 16:=by unfold DT;kernel_rfl
theorem el4:DT prog 4 1 1:=by unfold DT;kernel_rfl
theorem uW{t:Crt}{n o:Nat}{e d f:Bool}(m:rdC r=some (t,n,o))(j:decide (t.pa>=1)=e)(l:ouE now t=d)(k:decide (t.su=is)=f)(c:nxE b r=q):rok now 1 is b r=(t.ca && e && !d && f && q):=by
 unfold nxE at c;unfold rok;rw[m]at c⊢;simp only at c⊢;subst j l k c;unfold ouE;have g:decide (t.pa<((1:Nat):Int))= !decide (t.pa>=1):=by rw[<-decide_not];exact zM.2 (by omega)
 have i:decide (t.su≠is)= !decide (t.su=is):=by by_cases h:t.su=is<;>simp[h]
 rw[g,i];cases t.ca<;>cases decide (t.pa>=1)<;>cases decide (now<t.fr)<;>cases decide (now>t.to)<;>cases decide (t.su=is)<;>rfl
theorem ub{d:Crt}{e f:Nat}(h:rdC b=some (d,e,f))(c:nxE a b=q):decide (Ob a d.ky≠0)= !q:=by
 unfold nxE at c;rw[h]at c;simp only at c;subst c;by_cases h:Ob a d.ky=0<;>simp[h]
def tsV(Bs:List (List Nat)):List Value:=Bs.map λb=>.string (AB b)
theorem te{i:Nat}(h:Bs[i]? =some b):tsV (Bs.take i)++[.string (AB b)]=tsV (Bs.take (i+1)):=by
 rw[Im h];simp[tsV]
theorem tf(Bs:List (List Nat)):(tsV Bs).length=Bs.length:=by simp[tsV]
theorem vU{c:Crt}{d:Bool}(e:decide (c.fr<=now)=q1)(f:decide (now<=c.to)=d):CBy 77 #[.agg #[.int .i64 c.se,.string (AB c.is),.string (AB c.su),.int .i64 c.fr,.int .i64 c.to,.string (AB c.ky),.bool c.ca,.int .i64 c.pa,.int .i64 c.us],.int .i64 now] w (.bool (q1 && d)):=by
 go_enter func77,ntmps77
 refine A4 ?_;cases q1<;>cases d<;>
 (
  iterate 7 refine AA ?_
  refine AX (by first|exact BG rfl gg rfl zY rfl DS|exact BF rfl gg rfl zY rfl DS) ?_;iterate 2 refine AA ?_
  refine AX (by exact LG rfl gg rfl rfl e) ?_;iterate 4 refine AA ?_
  refine AX (by first|exact Ev.skip (λ_=>rfl)|exact LG rfl (λ_=>rfl) rfl rfl f) ?_;iterate 3 refine AA ?_
  exact AG (AD (AH results77 (AF rfl)) λ_ _ g=>⟨rfl,g.1⟩)
 )
theorem Kj{c:Crt}{o:Bool}(h:ouE now c=o):CBy 77 #[.agg #[.int .i64 c.se,.string (AB c.is),.string (AB c.su),.int .i64 c.fr,.int .i64 c.to,.string (AB c.ky),.bool c.ca,.int .i64 c.pa,.int .i64 c.us],.int .i64 now] w (.bool (!o)):=by
 have e:(!o)=(decide (c.fr<=now) && decide (now<=c.to)):=by
  rw[<-h];unfold ouE;by_cases a:now<c.fr<;>by_cases b:now>c.to<;>simp[a,b]<;>omega
 rw[e];exact vU w rfl rfl
theorem XV{v:Value}{F:Nat->Prop}(B:Bs.length<=20)(g:AO w v Bs.length 1 vs F)(u:B9 w G Bs vs):Calls prog 45 #[v] w λe o=> ∃v,e=.returned v/\BN w o v Bs.length 1 9 (tsV Bs)/\Bw w o:=by
 go_enter func45,ntmps45
 refine A4 ?_;iterate 14 refine AA ?_
 refine Bo (α:={i:Nat // i<=Bs.length}) (fun(x:{i:Nat // i<=Bs.length}) f=>⟨(.v v::.v (f 1)::.v (f 2)::.d 900::.v (.int .i64 (x.1:Nat))::fv f 15 5 []),AJ [(900,.row x.1 1 9 (.exact (tsV (Bs.take x.1))))]⟩) (λx=>Bs.length-x.1) ?_ (⟨0,y6 _⟩) ?_
 .rintro⟨i,A⟩ f
  obtain⟨q,h_q⟩:∃q,decide (((i:Nat):Int)<((Bs.length:Nat):Int))=q:=⟨_,rfl⟩
  change VOk _ _ _ _ _;simp only[fv,Nat.reduceAdd];iterate 2 refine aT ?_
  cases q
  .have z:i=Bs.length:=by have:=yC h_q;omega
   subst z;iterate 3 refine AA ?_
   refine AX (by exact BU rfl gg rfl yX (AW g)) ?_;refine KL ?_;iterate 2 refine aT ?_
   refine As ?_;change VOk _ _ _ _ _;iterate 5 refine AA ?_
   refine AG ?_;refine AD (AH results45 (AF rfl)) ?_;intro s o p;exact⟨_,rfl,by have h:=B8 (id:=900) p rfl;rw[List.take_length]at h;exact h,p.1⟩
  .have j:i<Bs.length:=by have:=yA h_q;omega
   obtain⟨b,hb⟩:∃b,Bs[i]? =some b:=⟨_,zK j⟩
   obtain⟨C,n,m⟩:=u.get hb;iterate 3 refine AA ?_
   refine AX (by exact BU rfl gg rfl yX (AW g)) ?_;refine KL ?_;iterate 9 refine AA ?_
   refine AX (by exact Bc (k:=i) rfl gg rfl rfl yX y7 (AW g) (j) (by decide)) ?_;refine AX (by exact Cb rfl gg rfl x7 rfl (AW g) n) ?_;refine AX (by exact Cc (bs:=b) rfl gg rfl x7 yL yF (AW m)) ?_;refine AX (by exact BL rfl rfl gg rfl (e:=9) (l:=[.string (AB b)]) rfl (by decide) (λ_=>by kernel_rfl)) ?_;refine AX (by exact Di rfl rfl gg rfl rfl rfl (BI rfl) uC8 el9 (by decide) (by rw[tf,z6];omega) rfl (by simp only[maxLen];omega) (by omega) rfl) ?_;iterate 4 refine AA ?_
   refine SS ?_;iterate 2 refine AA ?_
   rw[te hb];refine⟨⟨i+1,by omega⟩,by show Bs.length-(i+1)<Bs.length-i;omega,?_⟩;exact(Ar (λi=>i==0||i==3||i==4) [17]).trans2 (λf=>Dk 18 900 (by decide) rfl)
 .refine(Ar (λi=>i==0||i==3||i==4) []).trans2 (λf=> ?_)
  refine(N1 900 1 9 (.exact []) (λw=>rfl) (m':=[]) rfl rfl (λs g=> ?_) (λs g=> ?_))
  .simp[fv,B0,SV.cs,SV.c,g,Bg]
  .simp[JG,BQ]
theorem eH{O W T V:Value}{U:Bool}{F Z Fq:Nat->Prop}(hc:AO w O 2 1 [.string (AB a),.string (AB b)] F)(hr1:AO w W 1 1 [.string (AB r)] G)(K:AO w T 2 1 [.bool U,.bool q1] Z)(hq:AO w V 1 1 [.bool q] Fq)(Q:nxE a b=U)(R:nxE b r=q)(M:∀x∈a,x<256)(N:a.length<=1048576)(b8':∀x∈b,x<256)(bl:b.length<=1048576)(r8:∀x∈r,x<256)(rl:r.length<=1048576):CBy 44 #[O,W,.int .i64 now,.int .i64 4,T,V] w (uZ (tR2 now a b r)):=by
 go_enter func44,ntmps44
 refine A4 ?_;iterate 2 refine aT ?_
 iterate 6 refine AA ?_
 refine AX (by exact A6 rfl gg rfl qb) ?_;iterate 7 refine AA ?_
 refine IJ ?_;refine DY ?_;iterate 2 refine AA ?_
 refine AX (by first|exact Ev.skip (λ_=>rfl)|exact BU rfl (λ_=>rfl) rfl uC8 (AW hc)) ?_;refine H2 ?_;iterate 3 refine AA ?_
 refine Gs ?_;iterate 2 refine AA ?_
 refine Km ?_;iterate 17 refine AA ?_
 refine Br 3 ?_;change VOk _ _ _ _ _;iterate 5 refine AA ?_
 refine IJ ?_;refine EP ?_;iterate 6 refine aT ?_
 rcases d:rdC a with _|⟨c,r0,t0⟩
 .have j:tR2 now a b r=.inl (0,2):=by unfold tR2;simp only[d]
  iterate 3 refine AA ?_
  refine AX (by exact Bc (k:=0) rfl gg rfl rfl uC8 CD (AW hc) (by decide) (by decide)) ?_;refine KM ?_;refine AX (by exact Ad (v:=.tuple #[.agg #[.int .i64 0,.string (AB []),.string (AB []),.int .i64 0,.int .i64 0,.string (AB []),.bool false,.int .i64 0,.int .i64 0],ZV,.int .i64 2]) rfl gg rfl (eo func13) (λm D=>by have h:=Wb (b:=a) m M N;rw[d]at h;exact h)) ?_;iterate 14 refine AA ?_
  refine Lj ?_;iterate 4 refine aT ?_
  iterate 6 refine AA ?_
  refine AG ?_;refine AD (BX uB2 (Am rfl rfl zY rfl z9 rfl) (AF rfl) (AF rfl)) ?_;intro z m l;rw[j];exact⟨rfl,l.1⟩
 .have hs0:=iG M N d
  iterate 3 refine AA ?_
  refine AX (by exact Bc (k:=0) rfl gg rfl rfl uC8 CD (AW hc) (by decide) (by decide)) ?_;refine KM ?_;refine AX (by exact Ad (v:=.tuple #[.agg #[.int .i64 c.se,.string (AB c.is),.string (AB c.su),.int .i64 c.fr,.int .i64 c.to,.string (AB c.ky),.bool c.ca,.int .i64 c.pa,.int .i64 c.us],PT r0 t0,.int .i64 0]) rfl gg rfl (eo func13) (λm D=>by have h:=Wb (b:=a) m M N;rw[d]at h;exact h)) ?_;iterate 14 refine AA ?_
  refine IM ?_;iterate 7 refine AA ?_
  refine C6 ?_;iterate 3 refine aT ?_
  iterate 2 refine AA ?_
  iterate 3 refine aT ?_
  obtain⟨o0,y⟩:∃o,ouE now c=o:=⟨_,rfl⟩
  cases o0
  .skip
   refine aT ?_;iterate 2 refine AA ?_
   refine AX (by exact Ad rfl gg rfl (eo func77) (λm D=>Kj (c:=c) m y)) ?_;iterate 6 refine AA ?_
   obtain⟨L,h_v1⟩:∃o,decide (c.us %2=0)=o:=⟨_,rfl⟩
   obtain⟨X,h_v2⟩:∃o,decide (c.us/4 %2=0)=o:=⟨_,rfl⟩
   have C:(L=true\/(L=false/\X=true))\/(L=false/\X=false):=by cases L<;>cases X<;>simp
   rcases C with C|⟨rfl,rfl⟩
   .have e:AP now 0 c=some 9:=by
     have S:usE c=true:=by unfold usE;rcases C with rfl|⟨rfl,rfl⟩<;>simp[h_v1,h_v2]
     unfold AP;rw[y,S];rfl
    have j:tR2 now a b r=.inl (0,9):=by unfold tR2;simp only[d,e]
    rcases C with rfl|⟨rfl,rfl⟩<;>
    (
     iterate 2 refine AA ?_
     refine C6 ?_;iterate 3 refine AA ?_
     refine Mk ?_;refine MD ?_;iterate 4 refine AA ?_
     refine Mp ?_;refine Ku ?_;refine MB ?_;iterate 4 refine AA ?_
     refine H2 ?_;iterate 8 refine AA ?_
     refine MH ?_;refine L9 ?_;iterate 13 refine AA ?_
     refine AG ?_;refine AD (BX uB2 (Am rfl rfl zY rfl z9 rfl) (AF rfl) (AF rfl)) ?_;intro z m l;rw[j];exact⟨rfl,l.1⟩
    )
   .have e:AP now 0 c=none:=by
     have S:usE c=false:=by unfold usE;rw[h_v1,h_v2];rfl
     unfold AP;rw[y,S];rfl
    iterate 2 refine AA ?_
    refine C6 ?_;iterate 3 refine AA ?_
    refine Mk ?_;refine MD ?_;iterate 4 refine AA ?_
    refine Mp ?_;refine Ku ?_;refine MB ?_;iterate 4 refine AA ?_
    refine H2 ?_;iterate 8 refine AA ?_
    refine MH ?_;refine L9 ?_;iterate 11 refine AA ?_
    refine IJ ?_;refine AX (by exact Bu (c:=1) rfl gg rfl rfl (by decide)) ?_;refine EP ?_;iterate 3 refine aT ?_
    rcases hrb:rdC b with _|⟨⟨dse,dis,dsu,dfr,dto,dky,dca,dpa,dus⟩,r1,t1⟩
    .have g:Cg 0 a c none=some (1,2):=rfl
     have j:tR2 now a b r=.inl (1,2):=by unfold tR2;simp only[d,e,hrb,g]
     iterate 3 refine AA ?_
     refine C4 ?_;refine SN ?_;refine KM ?_;refine mB ?_;iterate 14 refine AA ?_
     refine Lj ?_;iterate 4 refine aT ?_
     iterate 2 refine AA ?_
     refine C4 ?_;iterate 4 refine AA ?_
     refine AG ?_;refine AD (BX uB2 (Am rfl rfl zY rfl z9 rfl) (AF rfl) (AF rfl)) ?_;intro z m l;rw[j];exact⟨rfl,l.1⟩
    .have hs1:=iG b8' bl hrb
     have H:=ub hrb Q;simp only at H;iterate 3 refine AA ?_
     refine C4 ?_;refine SN ?_;refine KM ?_;refine mX ?_;iterate 14 refine AA ?_
     refine IM ?_;iterate 5 refine aT ?_
     obtain⟨p,u⟩:∃o,decide (dsu≠c.is)=o:=⟨_,rfl⟩
     cases p
     .skip
      refine aT ?_;iterate 4 refine AA ?_
      refine AX (by exact AK rfl gg rfl rfl (λw=>Hp u hs1.2.1.s8 hs0.2.1.i8 _ _ w)) ?_;iterate 5 refine aT ?_
      cases U
      .have g:Cg 0 a c (some (⟨dse,dis,dsu,dfr,dto,dky,dca,dpa,dus⟩,r1,t1))=some (0,6):=by unfold Cg;simp only[u,H];rfl
       have j:tR2 now a b r=.inl (0,6):=by unfold tR2;simp only[d,e,hrb,g]
       iterate 3 refine AA ?_
       refine AX (by exact Bc (k:=0) rfl gg rfl rfl underlying99 sizeOf4 (AW K) (by decide) (by decide)) ?_;refine AX (by exact Cb rfl gg rfl uD7 rfl (AW K) rfl) ?_;iterate 11 refine AA ?_
       refine AG ?_;refine AD (BX uB2 (Am rfl rfl zY rfl z9 rfl) (AF rfl) (AF rfl)) ?_;intro z m l;rw[j];exact⟨rfl,l.1⟩
      .have g:Cg 0 a c (some (⟨dse,dis,dsu,dfr,dto,dky,dca,dpa,dus⟩,r1,t1))=none:=by unfold Cg;simp only[u,H];rfl
       iterate 3 refine AA ?_
       refine AX (by exact Bc (k:=0) rfl gg rfl rfl underlying99 sizeOf4 (AW K) (by decide) (by decide)) ?_;refine AX (by exact Cb rfl gg rfl uD7 rfl (AW K) rfl) ?_;iterate 4 refine AA ?_
       refine As ?_;change VOk _ _ _ _ _;iterate 2 refine AA ?_
       refine C4 ?_;iterate 2 refine AA ?_
       refine VOk.weak (B:=λf=>⟨(.v O::.v W::.v (.int .i64 now)::.v (.int .i64 4)::.v T::.v V::fv f 6 6 (.p 12 0::.v (.int .i64 0)::.v (.int .i64 0)::.p 15 0::.p 16 0::.v (.int .i64 1)::fv f 179 18 [])),AJ [(16,.cells [.v (.int .i64 c.se),.v (.string (AB c.is)),.v (.string (AB c.su)),.v (.int .i64 c.fr),.v (.int .i64 c.to),.v (.string (AB c.ky)),.v (.bool c.ca),.v (.int .i64 c.pa),.v (.int .i64 c.us)] 38),(15,.cells [.v (.int .i64 0),.v (.string (AB [])),.v (.string (AB [])),.v (.int .i64 0),.v (.int .i64 0),.v (.string (AB [])),.v (.bool false),.v (.int .i64 0),.v (.int .i64 0)] 38),(12,.cells [.v (.int .i64 0),.v (.string (ByteArray.mk #[])),.v (.string (ByteArray.mk #[])),.v (.int .i64 0),.v (.int .i64 0),.v (.string (ByteArray.mk #[])),.v (.bool false),.v (.int .i64 0),.v (.int .i64 0)] 38)]⟩) (Ar (λi=>i==0||i==1||i==2||i==3||i==4||i==5||i==12||i==13||i==14||i==15||i==16||i==17) [18,19,21,22]) λf=> ?_
       simp only[fv,Nat.reduceAdd];iterate 5 refine AA ?_
       refine IJ ?_;refine EP ?_;iterate 9 refine AA ?_
       refine SN ?_;refine KM ?_;refine mX ?_;iterate 14 refine AA ?_
       refine IM ?_;iterate 7 refine AA ?_
       refine Gt ?_;iterate 5 refine aT ?_
       obtain⟨o1,ho1⟩:∃o,ouE now ⟨dse,dis,dsu,dfr,dto,dky,dca,dpa,dus⟩=o:=⟨_,rfl⟩
       cases o1
       .skip
        refine aT ?_;iterate 2 refine AA ?_
        refine m6 ?_;iterate 6 refine AA ?_
        obtain⟨Y,h_v3⟩:∃o,decide (dpa<0)=o:=⟨_,rfl⟩
        have A:(dca=false\/(dca=true/\Y=true))\/(dca=true/\Y=false):=by cases dca<;>cases Y<;>simp
        rcases A with A|⟨rfl,rfl⟩
        .have s:AP now 1 ⟨dse,dis,dsu,dfr,dto,dky,dca,dpa,dus⟩=some 9:=by
          have P:isE ((1:Nat):Int) ⟨dse,dis,dsu,dfr,dto,dky,dca,dpa,dus⟩=true:=by show(!dca||decide (dpa<1-1))=true;rcases A with rfl|⟨rfl,rfl⟩;rfl;exact h_v3
          unfold AP;rw[ho1,P];rfl
         have j:tR2 now a b r=.inl (1,9):=by unfold tR2;simp only[d,e,g,hrb,s]
         rcases A with rfl|⟨rfl,rfl⟩<;>
         (
          iterate 2 refine AA ?_
          refine Gt ?_;iterate 3 refine AA ?_
          refine Mk ?_;refine MD ?_;iterate 4 refine AA ?_
          refine Mp ?_;refine Ku ?_;refine MB ?_;iterate 4 refine AA ?_
          refine Jy ?_;iterate 8 refine AA ?_
          refine MH ?_;refine L9 ?_;iterate 13 refine AA ?_
          refine AG ?_;refine AD (BX uB2 (Am rfl rfl zY rfl z9 rfl) (AF rfl) (AF rfl)) ?_;intro z m l;rw[j];exact⟨rfl,l.1⟩
         )
        .have s:AP now 1 ⟨dse,dis,dsu,dfr,dto,dky,true,dpa,dus⟩=none:=by
          have P:isE ((1:Nat):Int) ⟨dse,dis,dsu,dfr,dto,dky,true,dpa,dus⟩=false:=h_v3;unfold AP;rw[ho1,P];rfl
         iterate 2 refine AA ?_
         refine Gt ?_;iterate 3 refine AA ?_
         refine Mk ?_;refine MD ?_;iterate 4 refine AA ?_
         refine Mp ?_;refine Ku ?_;refine MB ?_;iterate 4 refine AA ?_
         refine Jy ?_;iterate 8 refine AA ?_
         refine MH ?_;refine L9 ?_;iterate 11 refine AA ?_
         refine IJ ?_;refine AX (by exact Bu (c:=1) rfl gg rfl rfl (by decide)) ?_;refine DY ?_;iterate 13 refine AA ?_
         refine Br 2 ?_;change VOk _ _ _ _ _;iterate 5 refine AA ?_
         refine Lm ?_;refine EP ?_;iterate 6 refine aT ?_
         rcases hrr:rdC r with _|⟨⟨tse,tis,tsu,tfr,tto,tky,n,tpa,tus⟩,r2,t2⟩
         .have I:rok now 1 dis b r=false:=by unfold rok;rw[hrr]
          have j:tR2 now a b r=.inl (1,8):=by unfold tR2;simp only[d,e,g,hrb,s,I,cond_false]
          iterate 3 refine AA ?_
          refine AX (by exact Bc (k:=0) rfl gg rfl rfl uC8 CD (AW hr1) (by decide) (by decide)) ?_;refine AX (by exact Cb rfl gg rfl yF rfl (AW hr1) rfl) ?_;refine lr ?_;iterate 14 refine AA ?_
          refine O8 ?_;iterate 8 refine AA ?_
          refine P1 ?_;iterate 4 refine AA ?_
          refine O9 ?_;iterate 6 refine AA ?_
          refine S9 ?_;iterate 4 refine AA ?_
          refine TE ?_;refine SP ?_;iterate 6 refine AA ?_
          refine C4 ?_;iterate 7 refine AA ?_
          refine Lm ?_;refine DY ?_;iterate 2 refine aT ?_
          refine As ?_;change VOk _ _ _ _ _;iterate 14 refine AA ?_
          refine AG ?_;refine AD (BX uB2 (Am rfl rfl zY rfl z9 rfl) (AF rfl) (AF rfl)) ?_;intro z m l;rw[j];exact⟨rfl,l.1⟩
         .have hs2:=iG r8 rl hrr
          obtain⟨p2,h_p2⟩:∃o,decide (tpa>=1)=o:=⟨_,rfl⟩
          obtain⟨o2,ho2⟩:∃o,ouE now ⟨tse,tis,tsu,tfr,tto,tky,n,tpa,tus⟩=o:=⟨_,rfl⟩
          obtain⟨J,h_p5⟩:∃o,decide (tsu=dis)=o:=⟨_,rfl⟩
          have E:=uW (b:=b) (is:=dis) hrr h_p2 ho2 h_p5 R;have hcs:(n=true/\p2=true/\o2=false/\J=true/\q=true)\/(n=false\/(n=true/\p2=false)\/(n=true/\p2=true/\o2=true)\/(n=true/\p2=true/\o2=false/\J=false)\/(n=true/\p2=true/\o2=false/\J=true/\q=false)):=by cases n<;>cases p2<;>cases o2<;>cases J<;>cases q<;>simp
          iterate 3 refine AA ?_
          refine AX (by exact Bc (k:=0) rfl gg rfl rfl uC8 CD (AW hr1) (by decide) (by decide)) ?_;refine AX (by exact Cb rfl gg rfl yF rfl (AW hr1) rfl) ?_;refine AX (by exact Ad (v:=.tuple #[.agg #[.int .i64 tse,.string (AB tis),.string (AB tsu),.int .i64 tfr,.int .i64 tto,.string (AB tky),.bool n,.int .i64 tpa,.int .i64 tus],PT r2 t2,.int .i64 0]) rfl gg rfl (eo func13) (λm D=>by have h:=Wb (b:=r) m r8 rl;rw[hrr]at h;exact h)) ?_;iterate 10 refine AA ?_
          rcases hcs with⟨rfl,rfl,rfl,rfl,rfl⟩|hcs
          .have I:rok now 1 dis b r=true:=by rw[E];rfl
           have j:tR2 now a b r=.inr c:=by unfold tR2;simp only[d,e,g,hrb,s,I,cond_true]
           iterate 4 refine AA ?_
           refine q_142 ?_;iterate 8 refine AA ?_
           refine P1 ?_;iterate 4 refine AA ?_
           refine O9 ?_;iterate 6 refine AA ?_
           refine S9 ?_;iterate 4 refine AA ?_
           refine TE ?_;refine SP ?_;iterate 6 refine AA ?_
           refine C4 ?_;iterate 7 refine AA ?_
           refine Lm ?_;refine DY ?_;iterate 2 refine aT ?_
           refine As ?_;change VOk _ _ _ _ _;iterate 9 refine AA ?_
           refine II ?_;iterate 7 refine AA ?_
           refine IJ ?_;refine DY ?_;iterate 2 refine aT ?_
           refine As ?_;change VOk _ _ _ _ _;iterate 2 refine aT ?_
           iterate 5 refine AA ?_
           refine AG ?_;refine AD (BX uB2 (Am rfl rfl zY rfl z9 rfl) (AF rfl) (AF rfl)) ?_;intro z m l;rw[j];exact⟨rfl,l.1⟩
          .have I:rok now 1 dis b r=false:=by rw[E];rcases hcs with rfl|⟨rfl,rfl⟩|⟨rfl,rfl,rfl⟩|⟨rfl,rfl,rfl,rfl⟩|⟨rfl,rfl,rfl,rfl,rfl⟩<;>(try cases p2)<;>(try cases o2)<;>(try cases J)<;>(try cases q)<;>rfl
           have j:tR2 now a b r=.inl (1,8):=by unfold tR2;simp only[d,e,g,hrb,s,I,cond_false]
           rcases hcs with rfl|⟨rfl,rfl⟩|⟨rfl,rfl,rfl⟩|⟨rfl,rfl,rfl,rfl⟩|⟨rfl,rfl,rfl,rfl,rfl⟩<;>
           (
            iterate 4 refine AA ?_
            refine q_142 ?_;iterate 8 refine AA ?_
            refine P1 ?_;iterate 4 refine AA ?_
            refine O9 ?_;iterate 6 refine AA ?_
            refine S9 ?_;iterate 4 refine AA ?_
            refine TE ?_;refine SP ?_;iterate 6 refine AA ?_
            refine C4 ?_;iterate 7 refine AA ?_
            refine Lm ?_;refine DY ?_;iterate 2 refine aT ?_
            refine As ?_;change VOk _ _ _ _ _;iterate 14 refine AA ?_
            refine AG ?_;refine AD (BX uB2 (Am rfl rfl zY rfl z9 rfl) (AF rfl) (AF rfl)) ?_;intro z m l;rw[j];exact⟨rfl,l.1⟩
           )
       .have s:AP now 1 ⟨dse,dis,dsu,dfr,dto,dky,dca,dpa,dus⟩=some 7:=by unfold AP;rw[ho1];rfl
        have j:tR2 now a b r=.inl (1,7):=by unfold tR2;simp only[d,e,g,hrb,s]
        refine aT ?_;iterate 2 refine AA ?_
        refine m6 ?_;iterate 11 refine AA ?_
        refine AG ?_;refine AD (BX uB2 (Am rfl rfl zY rfl z9 rfl) (AF rfl) (AF rfl)) ?_;intro z m l;rw[j];exact⟨rfl,l.1⟩
     .have g:Cg 0 a c (some (⟨dse,dis,dsu,dfr,dto,dky,dca,dpa,dus⟩,r1,t1))=some (0,8):=by unfold Cg;simp only[u];rfl
      have j:tR2 now a b r=.inl (0,8):=by unfold tR2;simp only[d,e,hrb,g]
      refine aT ?_;iterate 4 refine AA ?_
      refine AX (by exact AK rfl gg rfl rfl (λw=>Hp u hs1.2.1.s8 hs0.2.1.i8 _ _ w)) ?_;iterate 4 refine aT ?_
      iterate 6 refine AA ?_
      refine AG ?_;refine AD (BX uB2 (Am rfl rfl zY rfl z9 rfl) (AF rfl) (AF rfl)) ?_;intro z m l;rw[j];exact⟨rfl,l.1⟩
  .have e:AP now 0 c=some 7:=by unfold AP;rw[y];rfl
   have j:tR2 now a b r=.inl (0,7):=by unfold tR2;simp only[d,e]
   refine aT ?_;iterate 2 refine AA ?_
   refine AX (by exact Ad rfl gg rfl (eo func77) (λm D=>Kj (c:=c) m y)) ?_;iterate 11 refine AA ?_
   refine AG ?_;refine AD (BX uB2 (Am rfl rfl zY rfl z9 rfl) (AF rfl) (AF rfl)) ?_;intro z m l;rw[j];exact⟨rfl,l.1⟩
end Go.Proofs.YtafbhakmkbehiaaGreatDoor
