import Derived.Lib.BufferMore
import Derived.Test.YtafbhakmkbehiaaGreatDoorW11
open Go.Proofs.Tryz
set_option maxHeartbeats 4000000
set_option maxRecDepth 100000
namespace Go.Proofs.YtafbhakmkbehiaaGreatDoor
open Go.RowKit Go.Vx
variable(w:World){a:Addr}{parts:Array (Nat×Operand)}{ops:Array Oper}{ats:Array TypeId}{f:FuncId}{acc b bs r rd:List Nat}{vs:List SV}{ks:List Tr}{xs:List Value}{i id n size:Nat}{ρ:Nat->Nm}{S:Nat->Prop}{o:Oper}{x y:Operand}{ka:Option Addr}{P:Program}{k t:Tr}{ty:TypeId}{s:VS}{kv v x0 x1 x2:Value}{w0:World}
theorem gW{a b:Nat}(_hb:b<8):BOy .rem 5 (.int .u8 (a:Nat)) (.int .u8 ((2^b:Nat):Int)) (.int .u8 ((md a b:Nat):Int)):=by
 intro p q w
 have c:=Nat.two_pow_pos b;have d: ¬((2^b:Nat):Int)=0:=by omega
 have e:((a:Int).tmod ((2^b:Nat):Int))=((md a b:Nat):Int):=by rw[uD5 (Int.natCast_nonneg _)];rfl
 obtain⟨m,g⟩:∃m,2^b=m:=⟨_,rfl⟩
 rw[g]at c d e⊢
 go_simp
 omega
theorem Si:∀(l:List Nat) (a c:Bool),Cq a l=some c->l≠[]->c=decide (Dq l<128)
 | [],_,_,_,h=>absurd rfl h
 | [b],a,c,h,_=>by
   cases hc:(a && decide (b=128))with
   |true=>rw[JC hc]at h;cases h
   |false=>rw[PI hc]at h;simp only[Cq,yT]at h;rw[<-h];rfl
 |b::b'::r,a,c,h,_=>by
  cases hc:(a && decide (b=128))with
  |true=>rw[JC hc]at h;cases h
  |false=>rw[PI hc]at h;rw[Si (b'::r) _ c h (by simp)];simp[Dq,List.getD]
theorem Sg(h:b.length=0\/Dq b>=128):Da b=false:=by
 unfold Da;cases c:Cq true b with
 |none=>rfl
 |some a=>
  simp only;rcases h with h|h
  .simp[h]
  .by_cases hb:b=[]
   .subst hb;simp
   .rw[Si b true a c hb];simp;intro _;omega
theorem Sf{a:Bool}(h:Cq true b=some a)(d:b.length≠0)(e:Dq b<128):Da b=true:=by
 unfold Da;rw[h];simp only;rw[Si b true a h (by intro c;subst c;exact d rfl)];simp;omega
def IW(b:List Nat)(i:Nat):Bool:=decide (i=0)||decide (b.getD (i-1) 0<128)
theorem rG{c:Nat}(h:b[i]? =some c):IW b (i+1)=decide (c<128):=by
 simp[IW,List.getD,h]
theorem iP:CBy 101 #[.int .i64 3,.string (AB [])] w (.bool (false)):=by
 go_enter func101,ntmps101
 refine A4 ?_;iterate 7 refine aT ?_
 refine Dd ?_;iterate 10 refine aT ?_
 refine mc ?_;iterate 5 refine aT ?_
 refine mc ?_;iterate 5 refine aT ?_
 refine FR ?_;iterate 7 refine aT ?_
 refine FR ?_;iterate 2 refine aT ?_
 iterate 2 refine k_3 ?_
 iterate 3 refine aT ?_
 refine k_3 ?_;iterate 2 refine aT ?_
 iterate 2 refine k_3 ?_
 iterate 8 refine aT ?_
 exact AG (AD (AH JT (AF rfl)) λ_ _ c=>⟨rfl,c.1⟩)
theorem iQ{e:Nat}(h8:∀z∈e::r,z<256)(E:(e::r).length<=1048576)(w:World):CBy 101 #[.int .i64 3,.string (AB (e::r))] w (.bool (Nq e r)):=by
 unfold Nq;obtain⟨C,d⟩:∃p,decide (e>=8)=p:=⟨_,rfl⟩
 obtain⟨F,j⟩:∃p,decide (r.length+1=1)=p:=⟨_,rfl⟩
 obtain⟨D,l⟩:∃p,decide (e=0)=p:=⟨_,rfl⟩
 rw[d,j,l];have m:decide ((e:Int)>((7:Nat):Int))=C:=by rw[<-d];exact zM.2 (by omega)
 have h_q2':=(CM (r.length+1) 1).trans j;have q:decide ((e:Int)≠((0:Nat):Int))= !D:=by rw[<-l,<-decide_not];exact zM.2 (by omega)
 have g:(e::r)[r.length]? =some (Dq (e::r)):=by unfold Dq;exact Jc (by simp)
 have A:Dq (e::r)<256:=h8 _ (zA g);have u:C=false->e<8:=λh=>by rw[h]at d;have:=yC d;omega
 go_enter func101,ntmps101
 refine A4 ?_;cases C<;>cases F<;>cases D<;>
 (
  iterate 7 refine aT ?_
  refine Dd ?_;iterate 10 refine aT ?_
  refine mc ?_;iterate 5 refine aT ?_
  refine mc ?_;iterate 5 refine aT ?_
  refine FR ?_;iterate 7 refine aT ?_
  refine iD (by exact Ag (p:=false) rfl gg rfl rfl (yB (by simp only[List.length_cons];omega))) ?_;iterate 2 refine aT ?_
  refine TV ?_;refine iD (by first|exact Ev.skip (λ_=>rfl)|exact BV rfl (λ_=>rfl) rfl rfl m) ?_;iterate 3 refine aT ?_
  refine Po ?_;iterate 2 refine aT ?_
  refine TV ?_;refine iD (by first|exact Ev.skip (λ_=>rfl)|exact BB rfl (λ_=>rfl) rfl rfl q) ?_;iterate 3 refine aT ?_
  first
  |(
   iterate 5 refine aT ?_
   exact AG (AD (AH JT (AF rfl)) λ_ _ B=>⟨rfl,B.1⟩)
   )
  |(
   iterate 5 refine aT ?_
   refine iD (by exact Ag rfl gg rfl rfl h_q2') ?_;iterate 3 refine aT ?_
   refine iD (by first|exact Ev.skip (λ_=>rfl)|exact Bu (c:=((r.length:Nat):Int)) rfl (λ_=>rfl) rfl rfl (by simp only[List.length_cons]at E ⊢; rw[Ah (by omega) (by omega)];omega)) ?_;refine iD (by first|exact Ev.skip (λ_=>rfl)|exact CF (k:=r.length) rfl (λ_=>rfl) rfl rfl yF (g) (A)) ?_;refine aT ?_;refine TV ?_;refine iD (by first|exact Ev.skip (λ_=>rfl)|exact AK rfl (λ_=>rfl) rfl rfl (λw=>Vs (u rfl) _ _ w)) ?_;refine iD (by first|exact Ev.skip (λ_=>rfl)|exact AK rfl (λ_=>rfl) rfl rfl (λw=>gW (u rfl) _ _ w)) ?_;refine iD (by first|exact Ev.skip (λ_=>rfl)|exact Ag rfl (λ_=>rfl) rfl rfl (CM _ 0)) ?_;iterate 3 refine aT ?_
   exact AG (AD (AH JT (AF rfl)) λ_ _ B=>⟨rfl,B.1⟩)
   )
 )
theorem iV(D:∀x∈b,x<256)(G:b.length<=1048576)(w:World):CBy 101 #[.int .i64 12,.string (AB b)] w (.bool (JB b)):=by
 go_enter func101,ntmps101
 refine A4 ?_;iterate 7 refine aT ?_
 refine Dd ?_;iterate 10 refine aT ?_
 refine mc ?_;iterate 5 refine aT ?_
 refine mc ?_;iterate 5 refine aT ?_
 refine mc ?_;iterate 5 refine aT ?_
 refine mc ?_;iterate 5 refine aT ?_
 refine mc ?_;iterate 5 refine aT ?_
 refine FR ?_;iterate 9 refine aT ?_
 refine Bo (α:={i:Nat // i<=b.length/\b.any plainB=(b.drop i).any plainB}) (fun(x:{i:Nat // i<=b.length/\b.any plainB=(b.drop i).any plainB}) f=>⟨.v (.int .i64 12)::.v (.string (AB b))::.v (f 2)::.v (f 3)::.v (.bool false)::.v (.int .i64 (b.length:Nat))::.v (f 6)::.v (.int .i64 (x.1:Nat))::fv f 126 8 [],AJ []⟩) (λx=>b.length-x.1) ?_ (⟨0,y6 _,rfl⟩) ?_
 .rintro⟨i,F,d⟩ f
  obtain⟨q,h_q⟩:∃q,decide ((i:Int)<(b.length:Int))=q:=⟨_,rfl⟩
  change VOk _ _ _ _ _;simp only[fv,Nat.reduceAdd];iterate 5 refine aT ?_
  refine M9 ?_;refine aT ?_;cases q
  .refine aT ?_
   have z:b.length<=i:=by have:=yC h_q;omega
   rw[SM z]at d;refine As ?_;change VOk _ _ _ _ _;iterate 4 refine aT ?_
   refine AG ?_;refine AD (AH JT (AF rfl)) ?_;intro ρ E u
   (first|(refine⟨?_,u.1⟩;unfold JB;rw[d,Bj l,List.any_cons];unfold plainB;rw[e,g];rfl)|(refine⟨?_,u.1⟩;unfold JB;rw[d];rfl))
  .refine aT ?_
   have A:i<b.length:=by have:=yA h_q;omega
   obtain⟨c,l⟩:=EV A;have m:=D c (zA l);obtain⟨B,e⟩:∃B,decide (c<32)=B:=⟨_,rfl⟩
   obtain⟨C,g⟩:∃C,decide (c>126)=C:=⟨_,rfl⟩
   have h:=(CL c 32).trans e;have j:=(Cr c 126).trans g;cases B<;>cases C<;>
   (
    iterate 7 refine aT ?_
    refine iD (by exact CF (k:=i) rfl gg rfl rfl yF (l) (m)) ?_;refine iD (by exact D8 rfl gg rfl rfl h) ?_;iterate 3 refine aT ?_
    refine iD (by first|exact Ev.skip (λ_=>rfl)|exact CF (k:=i) rfl (λ_=>rfl) rfl rfl yF (l) (m)) ?_;refine iD (by first|exact Ev.skip (λ_=>rfl)|exact BV rfl (λ_=>rfl) rfl rfl j) ?_;iterate 2 refine aT ?_
    first
    |(
     iterate 5 refine aT ?_
     refine AG ?_;refine AD (AH JT (AF rfl)) ?_;intro ρ E u
     (first|(refine⟨?_,u.1⟩;unfold JB;rw[d,Bj l,List.any_cons];unfold plainB;rw[e,g];rfl)|(refine⟨?_,u.1⟩;unfold JB;rw[d];rfl))
     )
    |(
     iterate 4 refine aT ?_
     refine ER ?_;iterate 2 refine aT ?_
     refine⟨⟨i+1,by omega,by rw[d,Bj l,List.any_cons];unfold plainB;rw[e,g];rfl⟩,by show b.length-(i+1)<b.length-i;omega,?_⟩;exact Ar (λi=>i==0||i==1||i==4||i==5||i==7) []
     )
   )
 .exact Ar (λi=>i==0||i==1||i==4||i==5||i==7) []
theorem iM(D:∀x∈b,x<256)(N:b.length<=1048576)(w:World):CBy 101 #[.int .i64 6,.string (AB b)] w (.bool (Da b)):=by
 obtain⟨L,d⟩:∃p,decide (b.length=0)=p:=⟨_,rfl⟩
 obtain⟨p2,g⟩:∃p,decide (Dq b>=128)=p:=⟨_,rfl⟩
 have u:=(CM b.length 0).trans d;have z:=(Ej (Dq b) 128).trans g
 go_enter func101,ntmps101
 refine A4 ?_;cases L<;>cases p2<;>
 (
  iterate 7 refine aT ?_
  refine Dd ?_;iterate 10 refine aT ?_
  refine mc ?_;iterate 5 refine aT ?_
  refine mc ?_;iterate 5 refine aT ?_
  refine mc ?_;iterate 5 refine aT ?_
  refine mc ?_;iterate 5 refine aT ?_
  refine FR ?_;iterate 7 refine aT ?_
  refine iD (by exact Ag rfl gg rfl rfl u) ?_;iterate 3 refine aT ?_
  refine iD (by first|exact Ev.skip (λ_=>rfl)|exact Bu (c:=((b.length-1:Nat):Int)) rfl (λ_=>rfl) rfl rfl (by have:=yC d;rw[Ah (by omega) (by omega)];omega)) ?_;refine iD (by first|exact Ev.skip (λ_=>rfl)|exact CF (k:=b.length-1) rfl (λ_=>rfl) rfl rfl yF (Jc (by have:=yC d;omega)) (D _ (zA (Jc (by have:=yC d;omega))))) ?_;refine iD (by first|exact Ev.skip (λ_=>rfl)|exact Ew rfl (λ_=>rfl) rfl rfl z) ?_;iterate 2 refine aT ?_
  first
  |(
   iterate 5 refine aT ?_
   refine AG ?_;refine AD (AH JT (AF rfl)) ?_;intro ρ K m
   (first|(refine⟨?_,m.1⟩;rw[Sg (by first|exact .inl (yA d)|exact .inr (yA g))];rfl)|(refine⟨?_,m.1⟩;rw[show Da b=false by unfold Da;rw[l,Bj C,JC (by unfold IW;rw[e,h,j];rfl)]];rfl)|(refine⟨?_,m.1⟩;rw[Sf (l.trans rfl) (yC d) (by have:=yC g;unfold Dq at *; omega)];rfl))
   )
  |(
   iterate 8 refine aT ?_
   refine Bo (α:={i:Nat // i<=b.length/\Cq true b=Cq (IW b i) (b.drop i)}) (fun(x:{i:Nat // i<=b.length/\Cq true b=Cq (IW b i) (b.drop i)}) f=>⟨.v (.int .i64 6)::.v (.string (AB b))::.v (f 2)::.v (f 3)::.v (.bool false)::.v (.int .i64 (b.length:Nat))::.v (.int .i64 (x.1:Nat))::fv f 127 7 [],AJ []⟩) (λx=>b.length-x.1) ?_ (⟨0,y6 _,rfl⟩) ?_
   .rintro⟨i,M,l⟩ f
    obtain⟨q,h_q⟩:∃q,decide ((i:Int)<(b.length:Int))=q:=⟨_,rfl⟩
    change VOk _ _ _ _ _;simp only[fv,Nat.reduceAdd];iterate 5 refine aT ?_
    refine M9 ?_;refine aT ?_;cases q
    .refine aT ?_
     have F:b.length<=i:=by have:=yC h_q;omega
     rw[SM F]at l;refine As ?_;change VOk _ _ _ _ _;iterate 4 refine aT ?_
     refine AG ?_;refine AD (AH JT (AF rfl)) ?_;intro ρ K m
     (first|(refine⟨?_,m.1⟩;rw[Sg (by first|exact .inl (yA d)|exact .inr (yA g))];rfl)|(refine⟨?_,m.1⟩;rw[show Da b=false by unfold Da;rw[l,Bj C,JC (by unfold IW;rw[e,h,j];rfl)]];rfl)|(refine⟨?_,m.1⟩;rw[Sf (l.trans rfl) (yC d) (by have:=yC g;unfold Dq at *; omega)];rfl))
    .refine aT ?_
     have G:i<b.length:=by have:=yA h_q;omega
     obtain⟨c,C⟩:=EV G;have E:=D c (zA C);obtain⟨H,e⟩:∃H,decide (i=0)=H:=⟨_,rfl⟩
     obtain⟨I,h⟩:∃I,decide (b.getD (i-1) 0<128)=I:=⟨_,rfl⟩
     obtain⟨J,j⟩:∃J,decide (c=128)=J:=⟨_,rfl⟩
     have h_q2':=(CM i 0).trans e;have A:=(CL (b.getD (i-1) 0) 128).trans h;have B:=(CM c 128).trans j;cases H<;>cases I<;>cases J<;>
     (
      iterate 7 refine aT ?_
      refine iD (by exact CF (k:=i) rfl gg rfl rfl yF (C) (E)) ?_;refine iD (by exact Ag rfl gg rfl rfl B) ?_;iterate 2 refine aT ?_
      refine Po ?_;iterate 3 refine aT ?_
      refine iD (by first|exact Ev.skip (λ_=>rfl)|exact Bu (c:=((i-1:Nat):Int)) rfl (λ_=>rfl) rfl rfl (by have:=yC e;rw[Ah (by omega) (by omega)];omega)) ?_;refine iD (by first|exact Ev.skip (λ_=>rfl)|exact CF (k:=i-1) rfl (λ_=>rfl) rfl rfl yF (Jc (by have:=yC e;omega)) (D _ (zA (Jc (by have:=yC e;omega))))) ?_;refine iD (by first|exact Ev.skip (λ_=>rfl)|exact D8 rfl (λ_=>rfl) rfl rfl A) ?_;iterate 3 refine aT ?_
      first
      |(
       iterate 5 refine aT ?_
       refine AG ?_;refine AD (AH JT (AF rfl)) ?_;intro ρ K m
       (first|(refine⟨?_,m.1⟩;rw[Sg (by first|exact .inl (yA d)|exact .inr (yA g))];rfl)|(refine⟨?_,m.1⟩;rw[show Da b=false by unfold Da;rw[l,Bj C,JC (by unfold IW;rw[e,h,j];rfl)]];rfl)|(refine⟨?_,m.1⟩;rw[Sf (l.trans rfl) (yC d) (by have:=yC g;unfold Dq at *; omega)];rfl))
       )
      |(
       iterate 4 refine aT ?_
       refine ER ?_;iterate 2 refine aT ?_
       refine⟨⟨i+1,by omega,by rw[l,Bj C,rG C,PI (by unfold IW;rw[e,h,j];rfl)]⟩,by show b.length-(i+1)<b.length-i;omega,?_⟩;exact Ar (λi=>i==0||i==1||i==4||i==5||i==6) []
       )
     )
   .exact Ar (λi=>i==0||i==1||i==4||i==5||i==6) []
   )
 )
theorem kj(b:List Nat):(decide (b=[0])||decide (b=[255]))=ML b:=by
 match b with
 | []=>rfl
 | [x]=>simp[ML]
 |x::y::r=>simp[ML]
theorem iL(c:Int)(d:∀x∈b,x<256)(e:b.length<=1048576)(w:World):CBy 101 #[.int .i64 c,.string (AB b)] w (.bool (Fg c b)):=by
 unfold Fg;by_cases h:c=1
 .subst h;have:=iW d e w;rw[kj]at this;exact this
 by_cases j:c=2
 .subst j
  match b,d,e with
  | [],_,_=>exact iS w
  | [x],_,_=>exact iR w
  |x::y::r,d,_=>exact iU d w
 by_cases l:c=3
 .subst l
  match b,d,e with
  | [],_,_=>exact iP w
  |b0::r,d,e=>exact iQ d e w
 by_cases m:c=4
 .subst m;exact iO d e w
 by_cases p:c=6
 .subst p;exact iM d e w
 by_cases g:c=12
 .subst g;exact iV d e w
 have:=iX d e c h j l m p g w;simp only[yB h,yB j,yB l,yB m,yB p,yB g,cond_false];exact this
def Ul(t:Tr):Prop:= ∀(d:Nat) (xs:List Value) (w:World) (S:Nat->Prop),d<=9->RN w S t xs->CBy 55 #[.agg xs.toArray,.int .i64 (d:Nat)] w (.bool (Ak t d))
theorem DI{d:Type}{l:List d}(h:l.length=3):∃a b c,l=[a,b,c]:=by
 match l,h with
 | [a,b,c],_=>exact⟨a,b,c,rfl⟩
theorem lK(b:List Nat):decide (b≠[])=decide (b.length>0):=by cases b<;>simp
theorem fk{t:Int}{Q:List Value}{d:Nat}(N:∀k∈ks,Ul k)(I:AO w kv ks.length 3 Q S)(V:RNs w S ks Q)(R:∀x∈b,x<256)(L:b.length<=1048576)(hm:ks.length<=1048576)(U:d<=9):CBy 55 #[.agg #[.int .i64 t,.string (AB b),kv],.int .i64 (d:Nat)] w (.bool (Ak (.mk t b ks) d)):=by
 unfold Ak;obtain⟨X,j⟩:∃p,decide (d>8)=p:=⟨_,rfl⟩
 obtain⟨J,l⟩:∃p,CB t=p:=⟨_,rfl⟩
 obtain⟨Y,u⟩:∃p,decide (ks.length=0)=p:=⟨_,rfl⟩
 obtain⟨Z,z⟩:∃p,decide (b.length>0)=p:=⟨_,rfl⟩
 obtain⟨q6,A⟩:∃p,decide (ks.length>20)=p:=⟨_,rfl⟩
 rw[j,l,u,z,A];have C:=(Cr d 8).trans j;have D:=(CM ks.length 0).trans u;have E:=(lK b).trans z;have F:=(Cr ks.length 20).trans A
 go_enter func55,ntmps55
 refine A4 ?_;iterate 9 refine aT ?_
 refine iD (by exact BV rfl gg rfl rfl C) ?_;refine aT ?_;cases X
 .iterate 7 refine aT ?_
  refine iD (by exact Ad (v:=.bool J) rfl gg rfl (eo func100) (λm hb=>l▸Ru t m)) ?_;iterate 2 refine aT ?_
  cases J
  .refine aT ?_
   cases Y<;>
   (
    iterate 4 refine aT ?_
    refine iD (by exact BU rfl gg rfl yV (AW I)) ?_;refine iD (by exact Ag rfl gg rfl rfl D) ?_;refine aT ?_;refine iD (by first|exact Ev.skip (λ_=>rfl)|exact BG rfl (λ_=>rfl) rfl yS rfl DS|exact BF rfl (λ_=>rfl) rfl yS rfl DS) ?_;iterate 3 refine aT ?_
    refine iD (by first|exact Ev.skip (λ_=>rfl)|exact Ad rfl (λ_=>rfl) rfl (eo func101) (λm hb=>iL t R L m)) ?_;iterate 3 refine aT ?_
    refine AG ?_;refine AD (AH results55 (AF rfl)) ?_;intro ρ m h
    (first|exact⟨rfl,h.1⟩|(refine⟨?_,h.1⟩;rw[e];rfl)|(refine⟨?_,h.1⟩;rw[e,Bj B];simp only[Bs,g];rfl))
   )
  .refine aT ?_
   cases Z<;>cases q6<;>
   (
    iterate 6 refine aT ?_
    refine iD (by exact AK rfl gg rfl rfl (λw=>Hp (b:=[]) E R (by simp) _ _ w)) ?_;refine aT ?_;refine iD (by first|exact Ev.skip (λ_=>rfl)|exact BG rfl (λ_=>rfl) rfl yS rfl sizeOf69|exact BF rfl (λ_=>rfl) rfl yS rfl sizeOf69) ?_;refine iD (by first|exact Ev.skip (λ_=>rfl)|exact BK rfl (λ_=>rfl) rfl rfl yV rfl rfl|exact BR rfl (λ_=>rfl) rfl yV rfl (by assumption)) ?_;refine iD (by first|exact Ev.skip (λ_=>rfl)|exact BU rfl (λ_=>rfl) rfl yV (AW I)) ?_;refine iD (by first|exact Ev.skip (λ_=>rfl)|exact BV rfl (λ_=>rfl) rfl rfl F) ?_;iterate 2 refine aT ?_
    first
    |(
     iterate 5 refine aT ?_
     refine AG ?_;refine AD (AH results55 (AF rfl)) ?_;intro ρ m h
     (first|exact⟨rfl,h.1⟩|(refine⟨?_,h.1⟩;rw[e];rfl)|(refine⟨?_,h.1⟩;rw[e,Bj B];simp only[Bs,g];rfl))
     )
    |(
     iterate 8 refine aT ?_
     refine Bo (α:={i:Nat // i<=ks.length/\Bs ks (d+1)=Bs (ks.drop i) (d+1)}) (fun(x:{i:Nat // i<=ks.length/\Bs ks (d+1)=Bs (ks.drop i) (d+1)}) f=>⟨.v (f 0)::.v (.int .i64 (d:Nat))::.p 2 0::.v (f 3)::.v (.bool false)::.v (.int .i64 (x.1:Nat))::fv f 42 6 [],AJ [(2,.cells [.v (.int .i64 t),.v (.string (AB b)),.v kv] 71)]⟩) (λx=>ks.length-x.1) ?_ (⟨0,y6 _,rfl⟩) ?_
     .rintro⟨i,hi,e⟩ f
      obtain⟨q,h_q⟩:∃q,decide ((i:Int)<(ks.length:Int))=q:=⟨_,rfl⟩
      change VOk _ _ _ _ _;simp only[fv,Nat.reduceAdd];iterate 6 refine aT ?_
      refine iD (by exact BU rfl gg rfl yV (AW I)) ?_;refine M9 ?_;refine aT ?_;cases q
      .refine aT ?_
       have M:ks.length<=i:=by have:=yC h_q;omega
       rw[SM M]at e;refine As ?_;change VOk _ _ _ _ _;iterate 4 refine aT ?_
       refine AG ?_;refine AD (AH results55 (AF rfl)) ?_;intro ρ m h
       (first|exact⟨rfl,h.1⟩|(refine⟨?_,h.1⟩;rw[e];rfl)|(refine⟨?_,h.1⟩;rw[e,Bj B];simp only[Bs,g];rfl))
      .refine aT ?_
       have G:i<ks.length:=by have:=yA h_q;omega
       obtain⟨T,B⟩:=EV G;obtain⟨x,W,H⟩:=Nw V B;have O:=Cu H;obtain⟨x0,x1,x2,rfl⟩:=DI O;obtain⟨K,g⟩:∃K,Ak T (d+1)=K:=⟨_,rfl⟩
       iterate 8 refine aT ?_
       refine iD (by exact Bc (k:=i) rfl gg rfl rfl yV yI (AW I) (G) (by decide)) ?_;refine iD (by exact LF rfl gg rfl yS rfl yI (AW I) (W) rfl (by decide)) ?_;refine aT ?_;refine Px ?_;refine iD (by exact Ad (v:=.bool K) rfl gg rfl (eo func55) (λm hb=>g▸N T (zA B) (d+1) _ m _ (by have:=yC j;omega) (G9 hb H))) ?_;iterate 2 refine aT ?_
       cases K
       .iterate 5 refine aT ?_
        refine AG ?_;refine AD (AH results55 (AF rfl)) ?_;intro ρ m h
        (first|exact⟨rfl,h.1⟩|(refine⟨?_,h.1⟩;rw[e];rfl)|(refine⟨?_,h.1⟩;rw[e,Bj B];simp only[Bs,g];rfl))
       .iterate 4 refine aT ?_
        refine ER ?_;iterate 2 refine aT ?_
        refine⟨⟨i+1,by omega,by rw[e,Bj B];simp only[Bs,g];rfl⟩,by show ks.length-(i+1)<ks.length-i;omega,?_⟩;exact Ar (λi=>i==1||i==2||i==4||i==5) []
     .exact Ar (λi=>i==1||i==2||i==4||i==5) []
     )
   )
 .iterate 5 refine aT ?_
  refine AG ?_;refine AD (AH results55 (AF rfl)) ?_;intro ρ m h
  (first|exact⟨rfl,h.1⟩|(refine⟨?_,h.1⟩;rw[e];rfl)|(refine⟨?_,h.1⟩;rw[e,Bj B];simp only[Bs,g];rfl))
mutual
theorem Od:∀t:Tr,t.ok->Ul t
 | .mk t b ks,h=>λd xs w S j c=>by
   simp only[Tr.ok]at h;simp only[RN]at c;obtain⟨kv,l,rfl,e,g⟩:=c;exact fk w (V5 ks h.2.2.2) e g h.1 h.2.1 h.2.2.1 j
theorem V5:∀ks:List Tr,oks ks-> ∀k∈ks,Ul k
 | [],_=>λk hk=>by cases hk
 |k0::ks,h=>λk hk=>by
  simp only[oks]at h;rcases uA6.1 hk with e|hk
  .exact e▸Od k0 h.1
  .exact V5 ks h.2 k hk
end
def n8(n:Nat):Nat:=n %256
theorem pF(n:Nat)(w:World):(convert 3 5 (.int .i64 (n:Nat))).run prog w=.ok (.int .u8 ((n8 n:Nat):Int)) w:=by
 unfold convert
 go_simp
 rw[uD8];rfl
def tb(t:Int):Nat:=(t %256).toNat
theorem T7(t:Int)(w:World):(convert 3 5 (.int .i64 t)).run prog w=.ok (.int .u8 ((tb t:Nat):Int)) w:=by
 unfold convert
 go_simp
 rw[uD8];unfold tb;omega
def hb(n k:Nat):Nat:=n/2^k
theorem Ro(n:Nat)(_hn:n<9223372036854775808):BOy .shr 3 (.int .i64 (n:Nat)) (.int .u64 8) (.int .i64 ((hb n 8:Nat):Int)):=by
 intro p q w
 go_simp
 unfold hb;try rfl
theorem fP(n:Nat)(_hn:n<9223372036854775808):BOy .shr 3 (.int .i64 (n:Nat)) (.int .u64 16) (.int .i64 ((hb n 16:Nat):Int)):=by
 intro p q w
 go_simp
 unfold hb;try rfl
def Ao(n:Nat):List Nat:=bif decide (n<128)then [n8 n]else bif decide (n<256)then [129,n8 n]else bif decide (n<65536)then [130,n8 (hb n 8),n8 n]else [131,n8 (hb n 16),n8 (hb n 8),n8 n]
theorem ov(n c:Nat):BOy .eql 23 (.slice none n c) (.slice none 0 0) (.bool true):=by
 intro p q w
 go_simp
 exact Go.Lib.run_eql_slice_nil_nil w n c x7
theorem ow(a:Addr)(n c:Nat):BOy .eql 23 (.slice (some a) n c) (.slice none 0 0) (.bool false):=by
 intro p q w
 go_simp
 exact Go.Lib.run_eql_slice_some_nil w a n c x7
theorem Ri:AO w (.slice none 0 0) 0 1 [] (λ_=>False):=⟨none,0,rfl,yD _,rfl,.inl rfl⟩
theorem pM(n:Nat)(u:n<9223372036854775808)(w:World):CRy 96 #[.int .i64 (n:Nat)] w ((Ao n).length) ((Ao n).map b8):=by
 unfold Ao;obtain⟨A,d⟩:∃p,decide (n<128)=p:=⟨_,rfl⟩
 obtain⟨B,g⟩:∃p,decide (n<256)=p:=⟨_,rfl⟩
 obtain⟨C,h⟩:∃p,decide (n<65536)=p:=⟨_,rfl⟩
 rw[d,g,h];have j:=(CL n 128).trans d;have m:=(CL n 256).trans g;have q:=(CL n 65536).trans h
 go_enter func96,ntmps96
 refine A4 ?_;iterate 9 refine aT ?_
 refine iD (by exact D8 rfl gg rfl rfl j) ?_;iterate 2 refine aT ?_
 cases A
 .iterate 4 refine aT ?_
  refine iD (by exact D8 rfl gg rfl rfl m) ?_;iterate 2 refine aT ?_
  cases B
  .iterate 4 refine aT ?_
   refine iD (by exact D8 rfl gg rfl rfl q) ?_;iterate 2 refine aT ?_
   cases C
   .iterate 5 refine aT ?_
    refine iD (by exact AK rfl gg rfl rfl (λw=>fP _ u _ _ w)) ?_;refine FQ ?_;refine aT ?_;refine iD (by exact AK rfl gg rfl rfl (λw=>Ro _ u _ _ w)) ?_;refine FQ ?_;refine aT ?_;refine FQ ?_;refine iD (by exact BL rfl rfl gg rfl (e:=5) (l:=[b8 (131),b8 (n8 (hb n 16)),b8 (n8 (hb n 8)),b8 (n8 n)]) rfl (by decide) (λ_=>by kernel_rfl)) ?_;iterate 2 refine aT ?_
    refine AG ?_;refine AD (AH results96 (AF rfl)) ?_;intro ρ z c;exact⟨_,rfl,B8 c rfl,c.1⟩
   .iterate 4 refine aT ?_
    refine iD (by exact AK rfl gg rfl rfl (λw=>Ro _ u _ _ w)) ?_;refine FQ ?_;refine aT ?_;refine FQ ?_;refine iD (by exact BL rfl rfl gg rfl (e:=5) (l:=[b8 (130),b8 (n8 (hb n 8)),b8 (n8 n)]) rfl (by decide) (λ_=>by kernel_rfl)) ?_;iterate 2 refine aT ?_
    refine AG ?_;refine AD (AH results96 (AF rfl)) ?_;intro ρ z c;exact⟨_,rfl,B8 c rfl,c.1⟩
  .iterate 4 refine aT ?_
   refine FQ ?_;refine iD (by exact BL rfl rfl gg rfl (e:=5) (l:=[b8 (129),b8 (n8 n)]) rfl (by decide) (λ_=>by kernel_rfl)) ?_;iterate 2 refine aT ?_
   refine AG ?_;refine AD (AH results96 (AF rfl)) ?_;intro ρ z c;exact⟨_,rfl,B8 c rfl,c.1⟩
 .iterate 4 refine aT ?_
  refine FQ ?_;refine iD (by exact BL rfl rfl gg rfl (e:=5) (l:=[b8 (n8 n)]) rfl (by decide) (λ_=>by kernel_rfl)) ?_;iterate 2 refine aT ?_
  refine AG ?_;refine AD (AH results96 (AF rfl)) ?_;intro ρ z c;exact⟨_,rfl,B8 c rfl,c.1⟩
theorem pc{c:Nat}:CRy 63 #[.slice none n c] w (0) ([]):=by
 go_enter func63,ntmps63
 refine A4 ?_;iterate 8 refine aT ?_
 refine iD (by exact AK (c:=.bool true) rfl gg rfl rfl (λw=>ov _ _ _ _ w)) ?_;iterate 6 refine aT ?_
 refine AG ?_;refine AD (AH results63 (AF rfl)) ?_;intro ρ e d;exact⟨_,rfl,I1 _ _ _ _,d.1⟩
theorem pb{c:Nat}(g:AO w (.slice (some a) n c) bs.length 1 (bs.map b8) S)(h:bs.length<=1073741824):CRy 63 #[.slice (some a) n c] w (bs.length) (bs.map b8):=by
 go_enter func63,ntmps63
 refine A4 ?_;iterate 8 refine aT ?_
 refine iD (by exact AK (c:=.bool false) rfl gg rfl rfl (λw=>ow _ _ _ _ _ w)) ?_;iterate 5 refine aT ?_
 refine iD (by exact BL rfl rfl gg rfl (e:=5) (l:=[]) rfl (by decide) (λ_=>by kernel_rfl)) ?_;refine aT ?_;refine iD (by exact Di rfl rfl gg rfl rfl rfl (AW g) x7 el5 (by decide) rfl (DR bs) (by simp only[maxLen];omega) (by omega) (by simp)) ?_;iterate 2 refine aT ?_
 refine AG ?_;refine AD (AH results63 (AF rfl)) ?_;intro ρ j d;exact⟨_,rfl,B8 (id:=7) d rfl,d.1⟩
theorem Nl(e:AO w v bs.length 1 (bs.map b8) S)(j:bs.length<=1073741824):CRy 63 #[v] w (bs.length) (bs.map b8):=by
 have d:=e;obtain⟨g,h,rfl,l,m,c⟩:=d;cases g with
 |none=>
  have:bs=[]:=by
   rcases c with c|⟨a,c,_⟩
   .simpa using c
   .cases c
  subst this;exact pc w
 |some a=>exact pb w e j
theorem ni(n:Nat)(g:n<=140737488355328)(w:World):CRy 150 #[.slice none 0 0,.int .i64 (n:Nat)] w (0) ([]):=by
 obtain⟨q,e⟩:∃p,decide (n>0)=p:=⟨_,rfl⟩
 have h_q':=(Cr n 0).trans e
 go_enter func150,ntmps150
 refine A4 ?_;iterate 8 refine aT ?_
 refine Pn ?_;iterate 8 refine aT ?_
 refine iD (by refine D6 gg (λρ w=>by simp only[VS.act,SV.c,List.map_cons,List.map_nil];go_simp;exact rfl) (λ_ _=>rfl)) ?_;refine aT ?_;refine iD (by exact BU rfl gg rfl x7 (AW (Ri w))) ?_;refine iD (by exact Bu (c:=0) rfl gg rfl rfl rfl) ?_;refine iD (by exact Bu (c:=((n:Nat):Int)) rfl gg rfl rfl (by rw[Ah (by omega) (by omega)];omega)) ?_;iterate 5 refine aT ?_
 refine Kz ?_;refine aT ?_;cases q
 .iterate 7 refine aT ?_
  refine AG ?_;refine AD (AH results150 (AF rfl)) ?_;intro ρ h d
  (first|exact⟨_,rfl,I1 _ _ _ _,d.1⟩|exact⟨_,rfl,B8 d rfl,d.1⟩)
 .iterate 4 refine aT ?_
  refine iD (by refine D6 gg (λρ w=>by simp only[VS.act,SV.c,List.map_cons,List.map_nil];go_simp;exact rfl) (λ_ _=>rfl)) ?_;refine iD (by exact Fa (a:=0) (b:=0) rfl gg rfl x7 yG (AW (Ri w)) rfl rfl (by decide) (by decide) rfl) ?_;refine aT ?_;refine iD (by exact ou rfl rfl gg rfl rfl x7 uA7 el5 zeroValue5 rfl (by have:=yA e;omega) g) ?_;refine aT ?_;refine iD (by exact BU rfl gg rfl x7 (AW (Ri w))) ?_;refine iD (by exact oS (b:=0) rfl rfl gg rfl rfl x7 yG rfl rfl (y6 _) rfl (by simp)) ?_;iterate 7 refine aT ?_
  refine AG ?_;refine AD (AH results150 (AF rfl)) ?_;intro ρ h d
  (first|exact⟨_,rfl,I1 _ _ _ _,d.1⟩|exact⟨_,rfl,B8 d rfl,d.1⟩)
theorem fD{S:Nat->Nat->Prop}{w:World}{d:Nat}{m:Mem}{l:List SV}(j:RelOn d ρ S w (restr rd m))(e:id∈rd)(q:m id=some (.cells l ty)):AO w (.slice (some ⟨(ρ id).g,0,none⟩) l.length l.length) l.length 1 (SV.cs ρ l) (λk=>k=(ρ id).g):=by
 have p:=(Go.Vx.w4 j q e).2;refine⟨_,_,rfl,yD _,by rw[A8];simp,.inr ⟨_,rfl,rfl,λi x c=> ?_⟩⟩;rw[A8,zC]at c;cases h:l[i]? with
 |none=>rw[h]at c;cases c
 |some y=>rw[h]at c;simp only[AT,yT]at c;rw[<-c,Bd,zW];exact GK p h
theorem Lx{S:Nat->Nat->Prop}{w:World}{c:Nat}{m:Mem}{l:List Value}(q:RelOn c ρ S w (restr rd m))(e:id∈rd)(u:m id=some (.row n 1 ty (.exact l))):∃g,AO w (ρ id).val n 1 l g:=by
 obtain⟨xs,h,j,p⟩:=Go.Vx.w4 q u e;have d:xs=l:=j;subst d;exact⟨_,DX p h⟩
theorem pW{E F G:Value}{d e g:Nat}{j m q:List Value}{I J K:Nat->Prop}(hv:AO w v 3 1 [E,F,G] S)(z:AO w E d 1 j I)(A:AO w F e 1 m J)(B:AO w G g 1 q K)(L:j.all (·.oneCell')=true)(M:m.all (·.oneCell')=true)(N:q.all (·.oneCell')=true)(Q:d+e+g<=140737488355328):CRy 95 #[v] w (d+e+g) (j++m++q):=by
 have u:j.length=d:=by obtain⟨_,_,_,_,h,_⟩:=z;simpa using h
 have C:m.length=e:=by obtain⟨_,_,_,_,h,_⟩:=A;simpa using h
 have O:q.length=g:=by obtain⟨_,_,_,_,h,_⟩:=B;simpa using h
 go_enter func95,ntmps95
 refine A4 ?_;iterate 12 refine aT ?_
 refine iD (by exact BU rfl gg rfl yX (AW hv)) ?_;iterate 3 refine aT ?_
 refine Br 4 ?_;change VOk _ _ _ _ _;iterate 2 refine aT ?_
 refine mo ?_;iterate 8 refine aT ?_
 refine iD (by exact Bc (k:=0) rfl gg rfl rfl yX y7 (AW hv) (by decide) (by decide)) ?_;refine K7 ?_;iterate 6 refine aT ?_
 refine iD (by exact BU rfl gg rfl x7 (AW z)) ?_;refine iD (by exact BE (c:=((d:Nat):Int)) rfl gg rfl rfl (by rw[Ah (by omega) (by omega)];omega)) ?_;iterate 5 refine aT ?_
 refine Pn ?_;iterate 4 refine aT ?_
 refine iD (by exact BE (c:=1) rfl gg rfl rfl (by decide)) ?_;iterate 4 refine aT ?_
 refine mo ?_;iterate 8 refine aT ?_
 refine iD (by exact Bc (k:=1) rfl gg rfl rfl yX y7 (AW hv) (by decide) (by decide)) ?_;refine K7 ?_;iterate 6 refine aT ?_
 refine iD (by exact BU rfl gg rfl x7 (AW A)) ?_;refine iD (by exact BE (c:=((d+e:Nat):Int)) rfl gg rfl rfl (by rw[Ah (by omega) (by omega)];omega)) ?_;iterate 5 refine aT ?_
 refine Pn ?_;iterate 4 refine aT ?_
 refine iD (by exact BE (c:=2) rfl gg rfl rfl (by decide)) ?_;iterate 4 refine aT ?_
 refine mo ?_;iterate 8 refine aT ?_
 refine iD (by exact Bc (k:=2) rfl gg rfl rfl yX y7 (AW hv) (by decide) (by decide)) ?_;refine K7 ?_;iterate 6 refine aT ?_
 refine iD (by exact BU rfl gg rfl x7 (AW B)) ?_;refine iD (by exact BE (c:=((d+e+g:Nat):Int)) rfl gg rfl rfl (by rw[Ah (by omega) (by omega)];omega)) ?_;iterate 5 refine aT ?_
 refine Pn ?_;iterate 4 refine aT ?_
 refine iD (by exact BE (c:=3) rfl gg rfl rfl (by decide)) ?_;iterate 4 refine aT ?_
 refine iD (by exact D8 (p:=false) rfl gg rfl rfl (by decide)) ?_;iterate 3 refine aT ?_
 refine As ?_;change VOk _ _ _ _ _;iterate 3 refine aT ?_
 refine iD (by exact Cs [] rfl rfl gg rfl (eo func150) (n:=0) (l:=[]) rfl (λρ S H hb _=>ni (d+e+g) Q H)) ?_;iterate 6 refine aT ?_
 refine iD (by exact BU rfl gg rfl yX (AW hv)) ?_;iterate 3 refine aT ?_
 refine Br 4 ?_;change VOk _ _ _ _ _;iterate 2 refine aT ?_
 refine mo ?_;iterate 8 refine aT ?_
 refine iD (by exact Bc (k:=0) rfl gg rfl rfl yX y7 (AW hv) (by decide) (by decide)) ?_;refine K7 ?_;iterate 5 refine aT ?_
 refine iD (by exact Di rfl rfl gg rfl rfl rfl (AW z) x7 el5 (by decide) (by simp) L (by simp only[maxLen];omega) (by omega) (by simp[u])) ?_;iterate 3 refine aT ?_
 refine iD (by exact BE (c:=1) rfl gg rfl rfl (by decide)) ?_;iterate 2 refine aT ?_
 refine VOk.weak (Dk 33 901 (by decide) rfl) ?_;intro _;simp only[SV.renL,SV.ren,Gb,Blk.ren,seval];iterate 2 refine aT ?_
 refine mo ?_;iterate 8 refine aT ?_
 refine iD (by exact Bc (k:=1) rfl gg rfl rfl yX y7 (AW hv) (by decide) (by decide)) ?_;refine K7 ?_;iterate 5 refine aT ?_
 refine iD (by exact Di rfl rfl gg rfl rfl rfl (AW A) x7 el5 (by decide) (by simp[u]) M (by simp only[maxLen];omega) (by omega) (by simp[C])) ?_;iterate 3 refine aT ?_
 refine iD (by exact BE (c:=2) rfl gg rfl rfl (by decide)) ?_;iterate 2 refine aT ?_
 refine VOk.weak (Dk 33 902 (by decide) rfl) ?_;intro _;simp only[SV.renL,SV.ren,Gb,Blk.ren,seval];iterate 2 refine aT ?_
 refine mo ?_;iterate 8 refine aT ?_
 refine iD (by exact Bc (k:=2) rfl gg rfl rfl yX y7 (AW hv) (by decide) (by decide)) ?_;refine K7 ?_;iterate 5 refine aT ?_
 refine iD (by exact Di rfl rfl gg rfl rfl rfl (AW B) x7 el5 (by decide) (by simp[u,C]) N (by simp only[maxLen];omega) (by omega) (by simp[O])) ?_;iterate 3 refine aT ?_
 refine iD (by exact BE (c:=3) rfl gg rfl rfl (by decide)) ?_;iterate 4 refine aT ?_
 refine iD (by exact D8 (p:=false) rfl gg rfl rfl (by decide)) ?_;iterate 3 refine aT ?_
 refine As ?_;change VOk _ _ _ _ _;iterate 5 refine aT ?_
 refine AG ?_;refine AD (AH results95 (AF rfl)) ?_;intro ρ H D;exact⟨_,rfl,B8 (id:=33) D rfl,D.1⟩
mutual
def CK:Tr->List Nat
 | .mk t b ks=>[tb t]++Ao (wk b ks).length++wk b ks
def wk:List Nat->List Tr->List Nat
 |acc,[]=>acc
 |acc,k::ks=>bif decide (acc.length>2048)then acc else wk (acc++CK k) ks
end
mutual
def wt:Tr->Nat
 | .mk _ b ks=>b.length+wts ks+10
def wts:List Tr->Nat
 | []=>0
 |k::ks=>wt k+wts ks
end
theorem QJ(n:Nat):(Ao n).length<=4:=by
 unfold Ao;cases decide (n<128)<;>cases decide (n<256)<;>cases decide (n<65536)<;>simp
mutual
theorem U1:∀t:Tr,(CK t).length<=wt t
 | .mk t b ks=>by
   have c:=U6 ks b;have d:=QJ (wk b ks).length;simp only[CK,wt,yM,uA8];omega
theorem U6:∀(ks:List Tr) (acc:List Nat),(wk acc ks).length<=acc.length+wts ks
 | [],acc=>by simp[wk,wts]
 |k::ks,acc=>by
  have d:=U1 k;have c:=U6 ks (acc++CK k);simp only[wk,wts];rw[yM]at c;cases decide (acc.length>2048)with
  |true=>simp only[cond_true];omega
  |false=>simp only[cond_false];omega
end
theorem Qt(h:decide (acc.length>2048)=true):wk acc (k::ks)=acc:=by simp only[wk,h,cond_true]
theorem Qu(h:decide (acc.length>2048)=false):wk acc (k::ks)=wk (acc++CK k) ks:=by simp only[wk,h,cond_false]
theorem bs3(c d e:Value)(w:World)(h:c.cells=#[c])(j:d.cells=#[d])(l:e.cells=#[e]):(Instr.buildSlice 43 3 #[(0,c),(1,d),(2,e)]).run prog w=.ok (.slice (some ⟨w.heap.size,0,none⟩) 3 3) (w.alloc (.cells #[c,d,e] 23)):=by
 have p:∀w,(zeroValue 23).run prog w=.ok (.slice none 0 0) w:=zeroValue23;have m:∀w,(Go.sizeOf 23).run prog w=.ok 1 w:=y7;unfold Instr.buildSlice;have g:Value.cells (.slice none 0 0)=#[.slice none 0 0]:=rfl;simp[yU yX,m,p,Instr.fill,h,j,l,g,newRow,newObj];rw[show(Array.map (λx=>([Value.slice none 0 0][x %1]?).getD default) (Array.range 3))=#[.slice none 0 0,.slice none 0 0,.slice none 0 0] from by kernel_rfl];rfl
def Uh(t:Tr):Prop:= ∀(xs:List Value) (w:World) (S:Nat->Prop),DN w S t xs->wt t<=1073741824->CRy 49 #[.agg xs.toArray] w ((CK t).length) ((CK t).map b8)
theorem OX{w:World}{l:List Value}(h:AO w v n size l S):∃a c,v=.slice a n c:=by obtain⟨a,c,h,_⟩:=h;exact⟨a,c,h⟩
theorem dL{t:Int}{N:Option Addr}{O M:Nat}{cs:List Value}(V:∀k∈ks,Uh k)(T:AO w (.slice N b.length O) b.length 1 (b.map b8) S)(Y:AO w (.slice ka ks.length M) ks.length 3 cs S)(hn:DNs w S ks cs)(a4:ks.length<=1073741824)(a7:b.length+wts ks<=1073741824){j:List Nat}(h:[tb t]++Ao (wk b ks).length++wk b ks=j):CRy 49 #[.agg #[.int .i64 t,.slice N b.length O,.slice ka ks.length M]] w (j.length) (j.map b8):=by
 go_enter func49,ntmps49
 refine A4 ?_;iterate 9 refine aT ?_
 refine iD (by exact Cs [] rfl rfl gg rfl (eo func63) (n:=b.length) (l:=b.map b8) (by simp) (λρ S L hb _=>Nl L (A5 T hb) (by omega))) ?_;iterate 7 refine aT ?_
 refine iD (by exact BU rfl gg rfl yO (AW Y)) ?_;iterate 3 refine aT ?_
 refine Bo (α:={x:Nat×List Nat // x.1<=ks.length/\wk b ks=wk x.2 (ks.drop x.1)/\x.2.length+wts (ks.drop x.1)<=b.length+wts ks}) (fun(x:{x:Nat×List Nat // x.1<=ks.length/\wk b ks=wk x.2 (ks.drop x.1)/\x.2.length+wts (ks.drop x.1)<=b.length+wts ks}) f=>⟨.v (f 0)::.p 1 0::.v (.slice none 0 0)::.d 900::fv f 6 4 (.v (.slice ka ks.length M)::.v (.int .i64 (ks.length:Nat))::.v (.int .i64 (x.1.1:Nat))::fv f 21 13 []),AJ [(900,.row x.1.2.length 1 5 (.exact (x.1.2.map b8))),(1,.cells [.v (.int .i64 t),.v (.slice N b.length O),.v (.slice ka ks.length M)] 61)]⟩) (λx=>ks.length-x.1.1) ?_ (⟨(0,b),y6 _,rfl,yD _⟩) ?_
 .rintro⟨⟨i,acc⟩,hi,C,K⟩ f
  simp only at hi C K;obtain⟨q,h_q⟩:∃q,decide ((i:Int)<(ks.length:Int))=q:=⟨_,rfl⟩
  change VOk _ _ _ _ _;simp only[fv,Nat.reduceAdd];iterate 2 refine aT ?_
  refine M9 ?_;iterate 2 refine aT ?_
  cases q
  .refine aT ?_
   have U:ks.length<=i:=by have:=yC h_q;omega
   have A:wk b ks=acc:=by rw[C,SM U];rfl
   refine As ?_;change VOk _ _ _ _ _;iterate 4 refine aT ?_
   refine iD (by exact B1 rfl gg rfl (λw=>T7 _ w)) ?_;refine TP ?_;refine aT ?_;refine El ?_;refine Zl ?_;refine aT ?_;refine ZQ ?_;refine ZL ?_;iterate 2 refine aT ?_
   refine AG ?_;refine AD (AH results49 (AF rfl)) ?_;intro ρ L J;rw[A]at h;have F:1+(Ao acc.length).length+acc.length=j.length:=by rw[<-h];simp;omega
   have G:[b8 (tb t)]++(Ao acc.length).map b8++acc.map b8=j.map b8:=by rw[<-h];simp
   rw[<-F,<-G];exact⟨_,rfl,B8 (id:=33) J rfl,J.1⟩
  .refine aT ?_
   have I:i<ks.length:=by have:=yA h_q;omega
   obtain⟨B,E⟩:=EV I;have a6:=U1 B;have a5:wt B+wts (ks.drop (i+1))=wts (ks.drop i):=by rw[Bj E,wts]
   obtain⟨x,hx,H⟩:=Nx hn E;obtain⟨t',b',a8,ek⟩:∃t b ks,B=Tr.mk t b ks:=by cases B with|mk t b ks=>exact⟨t,b,ks,rfl⟩
   have z:=H;rw[ek]at z;simp only[DN]at z;obtain⟨a0,a9,a3,ex,F,G,_⟩:=z;obtain⟨a1,c1,Q⟩:=OX F;obtain⟨a2,c2,R⟩:=OX G;subst Q R;subst ex;obtain⟨Z,m⟩:∃Z,decide (acc.length>2048)=Z:=⟨_,rfl⟩
   have D:=(Cr acc.length 2048).trans m;iterate 5 refine aT ?_
   refine iD (by exact Bc (k:=i) rfl gg rfl rfl yO yH (AW Y) (I) (by decide)) ?_;refine iD (by exact LF rfl gg rfl yZ rfl yH (AW Y) (hx) rfl (by decide)) ?_;iterate 7 refine aT ?_
   refine El ?_;refine iD (by exact BV rfl gg rfl rfl D) ?_;refine aT ?_;cases Z
   .iterate 5 refine aT ?_
    refine iD (by exact Cs [] rfl rfl gg rfl (eo func49) (n:=(CK B).length) (l:=(CK B).map b8) (by simp) (λρ S L hb _=>V B (zA E) _ L _ (ED hb H) (by omega))) ?_;refine iD (by exact Di rfl rfl gg rfl rfl rfl (BI rfl) x7 el5 (by decide) (by simp) (DR _) (by simp only[maxLen];omega) (by omega) (by simp)) ?_;iterate 3 refine aT ?_
    refine ER ?_;iterate 2 refine aT ?_
    obtain⟨g,u⟩:∃g,acc++CK B=g:=⟨_,rfl⟩
    have W:acc.length+(CK B).length=g.length:=by rw[<-u,yM]
    have X:acc.map b8++(CK B).map b8=g.map b8:=by rw[<-u,SW]
    rw[W,X];refine⟨⟨(i+1,g),by show i+1<=ks.length;omega,by show wk b ks=wk g (ks.drop (i+1));rw[C,Bj E,Qu m,u],by show g.length+wts (ks.drop (i+1))<=b.length+wts ks;rw[Bj E,wts]at K;omega⟩,by show ks.length-(i+1)<ks.length-i;omega,?_⟩;exact(Ar (λi=>i==1||i==2||i==3||i==10||i==11||i==12) [5,21]).trans2 (λf=>Dk 22 900 (by decide) rfl)
   .refine aT ?_
    have A:wk b ks=acc:=by rw[C,Bj E,Qt m]
    refine As ?_;change VOk _ _ _ _ _;iterate 4 refine aT ?_
    refine iD (by exact B1 rfl gg rfl (λw=>T7 _ w)) ?_;refine TP ?_;refine aT ?_;refine El ?_;refine Zl ?_;refine aT ?_;refine ZQ ?_;refine ZL ?_;iterate 2 refine aT ?_
    refine AG ?_;refine AD (AH results49 (AF rfl)) ?_;intro ρ L J;rw[A]at h;have F:1+(Ao acc.length).length+acc.length=j.length:=by rw[<-h];simp;omega
    have G:[b8 (tb t)]++(Ao acc.length).map b8++acc.map b8=j.map b8:=by rw[<-h];simp
    rw[<-F,<-G];exact⟨_,rfl,B8 (id:=33) J rfl,J.1⟩
 .exact(Ar (λi=>i==1||i==2||i==3||i==10||i==11||i==12) []).trans2 (λf=>Dk 8 900 (by decide) rfl)
mutual
theorem U0:∀t:Tr,t.ok->Uh t
 | .mk t b ks,h=>λxs w S g c=>by
   simp only[Tr.ok]at h;simp only[DN]at g;obtain⟨p,kv,z,rfl,d,e,j⟩:=g;obtain⟨l,q,rfl⟩:=OX d;obtain⟨m,u,rfl⟩:=OX e;simp only[wt]at c;exact dL w (Uz ks h.2.2.2) d e j (by omega) (by omega) rfl
theorem Uz:∀ks:List Tr,oks ks-> ∀k∈ks,Uh k
 | [],_=>λk hk=>by cases hk
 |k0::ks,h=>λk hk=>by
  simp only[oks]at h;rcases uA6.1 hk with e|hk
  .exact e▸U0 k0 h.1
  .exact Uz ks h.2 k hk
end
theorem sD(d:t.ok)(j:DN w S t [x0,x1,x2])(_hwt:wt t<=1073741824)(g:Ak t 1=false):Calls prog 22 #[.agg #[x0,x1,x2]] w λe c=> ∃v,e=.returned (.tuple #[v,.int .i64 2])/\BN w c v (0) 1 5 ([])/\Bw w c:=by
 go_enter func22,ntmps22
 refine A4 ?_;iterate 10 refine aT ?_
 refine iD (by exact Ad (v:=.bool false) rfl gg rfl (eo func48) (λc hb=>g▸Oh t d 1 _ c _ (by omega) (ED hb j))) ?_;iterate 8 refine aT ?_
 refine AG ?_;refine AD (Av results22 (AF rfl) (AF rfl)) ?_;intro ρ c h;exact⟨_,rfl,I1 _ _ _ _,h.1⟩
theorem sE(hok:t.ok)(hx:DN w S t [x0,x1,x2])(hwt:wt t<=1073741824)(hr0:Ak t 1=true)(d:(CK t).length>2048):Calls prog 22 #[.agg #[x0,x1,x2]] w λe c=> ∃v,e=.returned (.tuple #[v,.int .i64 4])/\BN w c v (0) 1 5 ([])/\Bw w c:=by
 go_enter func22,ntmps22
 refine A4 ?_;iterate 10 refine aT ?_
 refine ZW ?_;iterate 7 refine aT ?_
 refine Zj ?_;iterate 6 refine aT ?_
 refine El ?_;refine Pk ?_;iterate 7 refine aT ?_
 refine AG ?_;refine AD (Av results22 (AF rfl) (AF rfl)) ?_;intro ρ c g;exact⟨_,rfl,I1 _ _ _ _,g.1⟩
theorem sC(hok:t.ok)(hx:DN w S t [x0,x1,x2])(hwt:wt t<=1073741824)(hr0:Ak t 1=true)(d: ¬(CK t).length>2048):Calls prog 22 #[.agg #[x0,x1,x2]] w λe c=> ∃v,e=.returned (.tuple #[v,.int .i64 0])/\BN w c v ((CK t).length) 1 5 ((CK t).map b8)/\Bw w c:=by
 go_enter func22,ntmps22
 refine A4 ?_;iterate 10 refine aT ?_
 refine ZW ?_;iterate 7 refine aT ?_
 refine Zj ?_;iterate 6 refine aT ?_
 refine El ?_;refine FS ?_;iterate 9 refine aT ?_
 refine AG ?_;refine AD (Av results22 (AF rfl) (AF rfl)) ?_;intro ρ c g;exact⟨_,rfl,B8 (id:=9) g rfl,g.1⟩
def beR(m:Nat)(acc:List Nat):List Nat:=if h:m=0 then acc else beR (m/256) (n8 m::acc)
termination_by m
decreasing_by omega
theorem LQ(acc:List Nat):beR 0 acc=acc:=by rw[beR];rfl
theorem HZ{m:Nat}(h:0<m)(acc:List Nat):beR m acc=beR (hb m 8) (n8 m::acc):=by rw[beR,dif_neg (by omega)];rfl
def QI(n:Nat):List Nat:=bif decide (n<128)then [n8 n]else n8 (128+(beR n []).length)::beR n []
theorem nU(n:Nat):hb (hb n 8) 8=hb n 16:=by unfold hb;rw[WD]
theorem pN(h:n<16777216):QI n=Ao n:=by
 unfold QI Ao;cases g:decide (n<128)with
 |true=>rfl
 |false=>
  have g:=yC g;simp only[cond_false];cases c:decide (n<256)with
  |true=>
   have c:=yA c;have e:beR n []=[n8 n]:=by rw[HZ (by omega),show hb n 8=0 from by unfold hb;omega,LQ]
   rw[e];rfl
  |false=>
   have c:=yC c;cases d:decide (n<65536)with
   |true=>
    have d:=yA d;have e:beR n []=[n8 (hb n 8),n8 n]:=by rw[HZ (by omega),HZ (by unfold hb;omega),show hb (hb n 8) 8=0 from by unfold hb;omega,LQ]
    rw[e];rfl
   |false=>
    have d:=yC d;have e:beR n []=[n8 (hb n 16),n8 (hb n 8),n8 n]:=by rw[HZ (by omega),HZ (by unfold hb;omega),HZ (by unfold hb;omega),show hb (hb (hb n 8) 8) 8=0 from by unfold hb;omega,LQ,nU]
    rw[e];rfl
theorem rJ(m:Nat)(acc:List Nat):acc.length<=(beR m acc).length:=by
 induction m using Nat.strongRecOn generalizing acc with
 |_ m ih=>
  by_cases h:m=0
  .subst h;rw[LQ];exact yD _
  .rw[HZ (by omega)]
   have:=ih (hb m 8) (by unfold hb;omega) (n8 m::acc);simp only[List.length_cons]at this;omega
theorem rI(m:Nat)(acc:List Nat):(beR m acc).length<=acc.length+m:=by
 induction m using Nat.strongRecOn generalizing acc with
 |_ m ih=>
  by_cases h:m=0
  .subst h;rw[LQ];omega
  .rw[HZ (by omega)]
   have:=ih (hb m 8) (by unfold hb;omega) (n8 m::acc);simp only[List.length_cons]at this;have:hb m 8<m:=by unfold hb;omega
   omega
theorem iK(n:Nat)(F:n<16777216)(w:World):CBy 109 #[.int .i64 (n:Nat)] w (.string (AB (QI n))):=by
 unfold QI;obtain⟨D,h⟩:∃p,decide (n<128)=p:=⟨_,rfl⟩
 rw[h];have j:=(CL n 128).trans h
 go_enter func109,ntmps109
 refine A4 ?_;iterate 8 refine aT ?_
 refine iD (by exact BM rfl gg rfl rfl j) ?_;refine aT ?_;cases D
 .iterate 8 refine aT ?_
  refine Bo (α:={x:Nat×List Nat // beR x.1 x.2=beR n []/\x.1<9223372036854775808}) (fun(x:{x:Nat×List Nat // beR x.1 x.2=beR n []/\x.1<9223372036854775808}) f=>⟨.v (.int .i64 (x.1.1:Nat))::.v (f 1)::.v (f 2)::.v (.string (AB x.1.2))::fv f 24 4 [],AJ []⟩) (λx=>x.1.1) ?_ (⟨(n,[]),rfl,by show n<9223372036854775808;omega⟩) ?_
  .rintro⟨⟨m,acc⟩,d,B⟩ f
   simp only at d B;have A:=rI n [];have z:=rJ m acc;rw[d]at z;simp only[List.length_nil]at A;obtain⟨q,g⟩:∃q,decide (m>0)=q:=⟨_,rfl⟩
   have h_q':=(Cr m 0).trans g;change VOk _ _ _ _ _;simp only[fv,Nat.reduceAdd];iterate 4 refine aT ?_
   refine Kz ?_;refine aT ?_;cases q
   .refine aT ?_
    have C:m=0:=by have:=yC g;omega
    subst C;rw[LQ]at d;refine As ?_;change VOk _ _ _ _ _;iterate 3 refine aT ?_
    refine iD (by exact HX (b:=acc) rfl gg rfl yF) ?_;refine iD (by exact BE (c:=((128+acc.length:Nat):Int)) rfl gg rfl rfl (by rw[Ah (by omega) (by omega)];omega)) ?_;refine FQ ?_;refine iD (by exact BL rfl rfl gg rfl (e:=5) (l:=[b8 (n8 (128+acc.length))]) rfl (by decide) (λ_=>by kernel_rfl)) ?_;refine iD (by exact Cc (bs:=[n8 (128+acc.length)]) rfl gg rfl x7 yL yF (BI rfl)) ?_;refine aT ?_;refine iD (by exact AK (c:=.string (AB ([n8 (128+acc.length)]++acc))) rfl gg rfl rfl (λw=>Fu _ _ (by simp;omega) _ _ w)) ?_;iterate 2 refine aT ?_
    refine AG ?_;refine AD (AH results109 (AF rfl)) ?_;intro ρ E u
    (first|exact⟨rfl,u.1⟩|(refine⟨?_,u.1⟩;rw[<-d];rfl))
   .iterate 6 refine aT ?_
    refine FQ ?_;refine iD (by exact BL rfl rfl gg rfl (e:=5) (l:=[b8 (n8 m)]) rfl (by decide) (λ_=>by kernel_rfl)) ?_;refine iD (by exact Cc (bs:=[n8 m]) rfl gg rfl x7 yL yF (BI rfl)) ?_;refine aT ?_;refine iD (by exact AK (c:=.string (AB ([n8 m]++acc))) rfl gg rfl rfl (λw=>Fu _ _ (by simp;omega) _ _ w)) ?_;iterate 4 refine aT ?_
    refine iD (by exact AK rfl gg rfl rfl (λw=>Ro _ B _ _ w)) ?_;iterate 2 refine aT ?_
    refine⟨⟨(hb m 8,n8 m::acc),by show beR (hb m 8) (n8 m::acc)=beR n [];rw[<-HZ (yA g)];exact d,by show hb m 8<9223372036854775808;unfold hb;omega⟩,by show hb m 8<m;have:=yA g;unfold hb;omega,?_⟩;exact Ar (λi=>i==0||i==3) [14]
  .exact Ar (λi=>i==0||i==3) []
 .iterate 4 refine aT ?_
  refine FQ ?_;refine iD (by exact BL rfl rfl gg rfl (e:=5) (l:=[b8 (n8 n)]) rfl (by decide) (λ_=>by kernel_rfl)) ?_;refine iD (by exact Cc (bs:=[n8 n]) rfl gg rfl x7 yL yF (BI rfl)) ?_;iterate 2 refine aT ?_
  refine AG ?_;refine AD (AH results109 (AF rfl)) ?_;intro ρ E u
  (first|exact⟨rfl,u.1⟩|(refine⟨?_,u.1⟩;rw[<-d];rfl))
mutual
def Aq:Tr->List Nat
 | .mk t b ks=>[tb t]++Ao (bb b ks).length++bb b ks
def bb:List Nat->List Tr->List Nat
 |acc,[]=>acc
 |acc,k::ks=>bb (acc++Aq k) ks
end
mutual
theorem UP:∀t:Tr,(Aq t).length<=wt t
 | .mk t b ks=>by
   have c:=cF ks b;have d:=QJ (bb b ks).length;simp only[Aq,wt,yM,uA8];omega
theorem cF:∀(ks:List Tr) (acc:List Nat),(bb acc ks).length<=acc.length+wts ks
 | [],acc=>by simp[bb,wts]
 |k::ks,acc=>by
  have d:=UP k;have c:=cF ks (acc++Aq k);simp only[bb,wts];rw[yM]at c;omega
end
theorem PO(n:Nat):n8 n<256:=by unfold n8;omega
theorem eF(t:Int):tb t<256:=by unfold tb;omega
theorem pP(n:Nat):∀x∈Ao n,x<256:=by
 unfold Ao;have c:=PO n;have d:=PO (hb n 8);have e:=PO (hb n 16);cases decide (n<128)<;>cases decide (n<256)<;>cases decide (n<65536)<;>simp<;>omega
mutual
theorem UO:∀t:Tr,t.ok-> ∀x∈Aq t,x<256
 | .mk t b ks,h=>λx hx=>by
   simp only[Tr.ok]at h;simp only[Aq,uB3,RK]at hx;rcases hx with(hx|hx)|hx
   .rw[hx];exact eF t
   .exact pP _ x hx
   .exact cE ks h.2.2.2 b h.1 x hx
theorem cE:∀ks:List Tr,oks ks-> ∀acc:List Nat,(∀x∈acc,x<256)-> ∀x∈bb acc ks,x<256
 | [],_=>λacc h x hx=>h x hx
 |k::ks,h=>λacc ha x hx=>by
  simp only[oks]at h;simp only[bb]at hx;exact cE ks h.2 (acc++Aq k) (λy hy=>(uB3.1 hy).elim (ha y) (UO k h.1 y)) x hx
end
theorem cG:∀(ks:List Tr) (acc:List Nat),acc.length<=(bb acc ks).length
 | [],acc=>yD _
 |k::ks,acc=>by
  have:=cG ks (acc++Aq k);rw[yM]at this;simp only[bb];omega
theorem U7:∀(ks:List Tr) (acc:List Nat),acc.length<=(wk acc ks).length
 | [],acc=>by simp[wk]
 |k::ks,acc=>by
  have:=U7 ks (acc++CK k);rw[yM]at this;cases h:decide (acc.length>2048)with
  |true=>rw[Qt h];exact yD _
  |false=>rw[Qu h];omega
mutual
theorem U2:∀t:Tr,((Aq t).length<=2048->CK t=Aq t)/\(2048<(Aq t).length->2048<(CK t).length)
 | .mk t b ks=>by
   obtain⟨c,d⟩:=U5 ks b;by_cases h:(bb b ks).length<=2048
   .have e:CK (.mk t b ks)=Aq (.mk t b ks):=by simp only[CK,Aq,c h]
    exact⟨λ_=>e,λh=>by rw[e];exact h⟩
   .refine⟨λg=> ?_,λ_=> ?_⟩
    .simp only[Aq,yM]at g;omega
    .have:=d (by omega)
     simp only[CK,yM];omega
theorem U5:∀(ks:List Tr) (acc:List Nat),((bb acc ks).length<=2048->wk acc ks=bb acc ks)/\(2048<(bb acc ks).length->2048<(wk acc ks).length)
 | [],acc=>⟨λ_=>by simp[wk,bb],λh=>by simpa[wk,bb] using h⟩
 |k::ks,acc=>by
  obtain⟨j,l⟩:=U2 k;obtain⟨m,p⟩:=U5 ks (acc++Aq k);have e:=cG ks (acc++Aq k);rw[yM]at e;simp only[bb];by_cases c:decide (acc.length>2048)=true
  .rw[Qt c]
   have:=yA c;exact⟨λh=>by omega,λ_=>this⟩
  .have c:=by simpa using c
   have d:decide (acc.length>2048)=false:=yB (by omega);rw[Qu d];by_cases q:(Aq k).length<=2048
   .rw[j q];exact⟨m,p⟩
   .refine⟨λh=>by omega,λ_=> ?_⟩
    have g:=U7 ks (acc++CK k);rw[yM]at g;have:=l (by omega);omega
end
def Us(t:Tr):Prop:= ∀(xs:List Value) (w:World) (S:Nat->Prop),RN w S t xs->wt t<=1048576->CBy 60 #[.agg xs.toArray] w (.string (AB (Aq t)))
theorem Ei:∀{ks:List Tr},oks ks-> ∀{i:Nat} {k:Tr},ks[i]? =some k->k.ok
 | [],_,_,_,h=>by cases h
 |k0::ks,h,i,k,hk=>by
  simp only[oks]at h;cases i with
  |zero=>simp only[List.getElem?_cons_zero,yT]at hk;exact hk▸h.1
  |succ i=>exact Ei h.2 (i:=i) (by simpa using hk)
theorem qK{t:Int}{L:List Value}(H:∀k∈ks,Us k)(D:oks ks)(M:∀x∈b,x<256)(K:AO w kv ks.length 3 L S)(R:RNs w S ks L)(Q:ks.length<=1048576)(W:b.length+wts ks<=1048576):CBy 60 #[.agg #[.int .i64 t,.string (AB b),kv]] w (.string (AB (Aq (.mk t b ks)))):=by
 go_enter func60,ntmps60
 refine A4 ?_;iterate 9 refine aT ?_
 refine iD (by exact Tw rfl rfl gg rfl yF x7 yL (by simp only[maxLen];omega) M) ?_;iterate 8 refine aT ?_
 refine Bo (α:={x:Nat×List Nat // x.1<=ks.length/\bb b ks=bb x.2 (ks.drop x.1)/\x.2.length+wts (ks.drop x.1)<=b.length+wts ks}) (fun(x:{x:Nat×List Nat // x.1<=ks.length/\bb b ks=bb x.2 (ks.drop x.1)/\x.2.length+wts (ks.drop x.1)<=b.length+wts ks}) f=>⟨.v (f 0)::.p 1 0::.v (.string (ByteArray.mk #[]))::.d 900::.v (.int .i64 (x.1.1:Nat))::fv f 30 5 [],AJ [(900,.row x.1.2.length 1 5 (.exact (x.1.2.map b8))),(1,.cells [.v (.int .i64 t),.v (.string (AB b)),.v kv] 71)]⟩) (λx=>ks.length-x.1.1) ?_ (⟨(0,b),y6 _,rfl,yD _⟩) ?_
 .rintro⟨⟨i,acc⟩,O,j,E⟩ f
  simp only at O j E;obtain⟨q,h_q⟩:∃q,decide ((i:Int)<(ks.length:Int))=q:=⟨_,rfl⟩
  change VOk _ _ _ _ _;simp only[fv,Nat.reduceAdd];iterate 6 refine aT ?_
  refine iD (by exact BU rfl gg rfl yV (AW K)) ?_;refine M9 ?_;refine aT ?_;cases q
  .refine aT ?_
   have G:ks.length<=i:=by have:=yC h_q;omega
   have B:bb b ks=acc:=by rw[j,SM G];rfl
   have N:=QJ acc.length;refine As ?_;change VOk _ _ _ _ _;iterate 4 refine aT ?_
   refine iD (by exact B1 rfl gg rfl (λw=>T7 _ w)) ?_;refine TP ?_;refine iD (by exact Cc (bs:=[tb t]) rfl gg rfl x7 yL yF (BI rfl)) ?_;refine aT ?_;refine El ?_;refine iD (by exact Ad (v:=.string (AB (Ao acc.length))) rfl gg rfl (eo func109) (λF hb=>pN (n:=acc.length) (by omega)▸iK acc.length (by omega) F)) ?_;refine iD (by exact AK (c:=.string (AB ([tb t]++Ao acc.length))) rfl gg rfl rfl (λw=>Fu _ _ (by simp;omega) _ _ w)) ?_;refine aT ?_;refine iD (by exact Cc (bs:=acc) rfl gg rfl x7 yL yF (BI rfl)) ?_;refine iD (by exact AK (c:=.string (AB (([tb t]++Ao acc.length)++acc))) rfl gg rfl rfl (λw=>Fu _ _ (by simp;omega) _ _ w)) ?_;iterate 2 refine aT ?_
   refine AG ?_;refine AD (AH results60 (AF rfl)) ?_;intro ρ F T;refine⟨?_,T.1⟩;rw[Aq,B];rfl
  .refine aT ?_
   have C:i<ks.length:=by have:=yA h_q;omega
   obtain⟨m,z⟩:=EV C;have V:=UP m;have U:wt m+wts (ks.drop (i+1))=wts (ks.drop i):=by rw[Bj z,wts]
   obtain⟨x,X,A⟩:=Nw R z;obtain⟨x0,x1,x2,rfl⟩:=DI (Cu A);iterate 8 refine aT ?_
   refine iD (by exact Bc (k:=i) rfl gg rfl rfl yV yI (AW K) (C) (by decide)) ?_;refine iD (by exact LF rfl gg rfl yS rfl yI (AW K) (X) rfl (by decide)) ?_;refine iD (by exact Ad rfl gg rfl (eo func60) (λF hb=>H m (zA z) _ F _ (G9 hb A) (by omega))) ?_;refine iD (by exact oo rfl rfl gg rfl rfl rfl x7 yF el5 (by simp) (by omega) (UO m (Ei D z))) ?_;iterate 4 refine aT ?_
   refine ER ?_;iterate 2 refine aT ?_
   obtain⟨g,h⟩:∃g,acc++Aq m=g:=⟨_,rfl⟩
   have I:acc.length+(Aq m).length=g.length:=by rw[<-h,yM]
   have J:acc.map b8++(Aq m).map b8=g.map b8:=by rw[<-h,SW]
   rw[I,J];refine⟨⟨(i+1,g),by show i+1<=ks.length;omega,by show bb b ks=bb g (ks.drop (i+1));rw[j,Bj z,bb,h],by show g.length+wts (ks.drop (i+1))<=b.length+wts ks;rw[Bj z,wts]at E;omega⟩,by show ks.length-(i+1)<ks.length-i;omega,?_⟩;exact(Ar (λi=>i==1||i==2||i==3||i==4) []).trans2 (λf=>Dk 22 900 (by decide) rfl)
 .exact(Ar (λi=>i==1||i==2||i==3||i==4) []).trans2 (λf=>Dk 7 900 (by decide) rfl)
mutual
theorem bZ:∀t:Tr,t.ok->Us t
 | .mk t b ks,h=>λxs w S d c=>by
   simp only[Tr.ok]at h;simp only[RN]at d;obtain⟨kv,j,rfl,e,g⟩:=d;simp only[wt]at c;exact qK w (bW ks h.2.2.2) h.2.2.2 h.1 e g h.2.2.1 (by omega)
theorem bW:∀ks:List Tr,oks ks-> ∀k∈ks,Us k
 | [],_=>λk hk=>by cases hk
 |k0::ks,h=>λk hk=>by
  simp only[oks]at h;rcases uA6.1 hk with e|hk
  .exact e▸bZ k0 h.1
  .exact bW ks h.2 k hk
end
def wrT(t:Tr):List Nat×Int:=bif Ak t 1 then(bif decide ((Aq t).length>2048)then([],4)else(Aq t,0))else([],2)
theorem R2(c:t.ok)(p:RN w S t [x0,x1,x2])(j:wt t<=1048576):CBy 31 #[.agg #[x0,x1,x2]] w (.tuple #[.string (AB (wrT t).1),.int .i64 (wrT t).2]):=by
 unfold wrT;obtain⟨g,e⟩:∃g,Ak t 1=g:=⟨_,rfl⟩
 obtain⟨q,m⟩:∃q,decide ((Aq t).length>2048)=q:=⟨_,rfl⟩
 rw[e,m];have h:=(Cr (Aq t).length 2048).trans m
 go_enter func31,ntmps31
 refine A4 ?_;iterate 10 refine aT ?_
 refine iD (by exact Ad (v:=.bool g) rfl gg rfl (eo func55) (λl hb=>e▸Od t c 1 _ l _ (by omega) (G9 hb p))) ?_;iterate 2 refine aT ?_
 cases g
 .iterate 6 refine aT ?_
  exact AG (AD (Av results31 (AF rfl) (AF rfl)) λ_ _ d=>⟨rfl,d.1⟩)
 .iterate 5 refine aT ?_
  refine iD (by exact Ad rfl gg rfl (eo func60) (λl hb=>bZ t c _ l _ (G9 hb p) j)) ?_;iterate 6 refine aT ?_
  refine iD (by exact HX (b:=Aq t) rfl gg rfl yF) ?_;refine iD (by exact BV rfl gg rfl rfl h) ?_;refine aT ?_;cases q
  .iterate 8 refine aT ?_
   exact AG (AD (Av results31 (AF rfl) (AF rfl)) λ_ _ d=>⟨rfl,d.1⟩)
  .iterate 6 refine aT ?_
   exact AG (AD (Av results31 (AF rfl) (AF rfl)) λ_ _ d=>⟨rfl,d.1⟩)
mutual
theorem dD{w d:World}{S:Nat->Prop}(c:∀k,S k->d.heap[k]? =w.heap[k]?):∀{t:Tr} {xs:List Value},DN w S t xs->DN d S t xs
 | .mk t b ks,xs,h=>by
   simp only[DN]at h⊢;obtain⟨e,kv,g,j,l,m,p⟩:=h;exact⟨e,kv,g,j,l.keep c,m.keep c,Uq c p⟩
theorem Uq{w d:World}{S:Nat->Prop}(c:∀k,S k->d.heap[k]? =w.heap[k]?):∀{ks:List Tr} {xs:List Value},DNs w S ks xs->DNs d S ks xs
 | [],xs,h=>by simp only[DNs]at h ⊢; exact h
 |k::ks,xs,h=>by
  simp only[DNs]at h⊢;obtain⟨x,y,e,g,j⟩:=h;exact⟨x,y,e,dD c g,Uq c j⟩
end
mutual
theorem cr{w d:World}{S:Nat->Prop}(c:∀k,S k->d.heap[k]? =w.heap[k]?):∀{t:Tr} {xs:List Value},RN w S t xs->RN d S t xs
 | .mk t b ks,xs,h=>by
   simp only[RN]at h⊢;obtain⟨kv,e,g,j,l⟩:=h;exact⟨kv,e,g,j.keep c,Nv c l⟩
theorem Nv{w d:World}{S:Nat->Prop}(c:∀k,S k->d.heap[k]? =w.heap[k]?):∀{ks:List Tr} {xs:List Value},RNs w S ks xs->RNs d S ks xs
 | [],xs,h=>by simp only[RNs]at h ⊢; exact h
 |k::ks,xs,h=>by
  simp only[RNs]at h⊢;obtain⟨x,y,e,g,j⟩:=h;exact⟨x,y,e,cr c g,Nv c j⟩
end
theorem Hq{w:World}{l:List Value}{e:Nat->Prop}(h:AO w v n size l S)(z:∀k,S k->e k):AO w v n size l e:=by
 obtain⟨j,d,m,p,q,u⟩:=h;exact⟨j,d,m,p,q,u.imp id λ⟨g,a,b,c⟩=>⟨g,a,z _ b,c⟩⟩
mutual
theorem Ur{w:World}{S d:Nat->Prop}(c:∀k,S k->d k):∀{t:Tr} {xs:List Value},DN w S t xs->DN w d t xs
 | .mk t b ks,xs,h=>by
   simp only[DN]at h⊢;obtain⟨e,kv,g,j,l,m,p⟩:=h;exact⟨e,kv,g,j,Hq l c,Hq m c,LX c p⟩
theorem LX{w:World}{S c:Nat->Prop}(d:∀k,S k->c k):∀{ks:List Tr} {xs:List Value},DNs w S ks xs->DNs w c ks xs
 | [],xs,h=>by simp only[DNs]at h ⊢; exact h
 |k::ks,xs,h=>by
  simp only[DNs]at h⊢;obtain⟨x,y,e,g,j⟩:=h;exact⟨x,y,e,Ur d g,LX d j⟩
end
mutual
theorem Un{w:World}{S c:Nat->Prop}(d:∀k,S k->c k):∀{t:Tr} {xs:List Value},RN w S t xs->RN w c t xs
 | .mk t b ks,xs,h=>by
   simp only[RN]at h⊢;obtain⟨kv,e,g,j,l⟩:=h;exact⟨kv,e,g,Hq j d,Nu d l⟩
theorem Nu{w:World}{S c:Nat->Prop}(d:∀k,S k->c k):∀{ks:List Tr} {xs:List Value},RNs w S ks xs->RNs w c ks xs
 | [],xs,h=>by simp only[RNs]at h ⊢; exact h
 |k::ks,xs,h=>by
  simp only[RNs]at h⊢;obtain⟨x,y,e,g,j⟩:=h;exact⟨x,y,e,Un d g,Nu d j⟩
end
theorem dC{w:World}{S:Nat->Prop}{k:Tr}{y:List Value}(h:DN w S k y):∀{ks:List Tr} {xs:List Value},DNs w S ks xs->DNs w S (ks++[k]) (xs++y)
 | [],xs,h1=>by
   simp only[DNs]at h1;subst h1;simp only[List.nil_append,DNs];exact⟨y,[],by simp,h,rfl⟩
 |k0::ks,xs,h1=>by
  simp only[DNs]at h1;obtain⟨x,z,rfl,c,d⟩:=h1;simp only[List.cons_append,DNs];exact⟨x,z++y,by simp,c,dC h d⟩
theorem cq{w:World}{S:Nat->Prop}{k:Tr}{y:List Value}(h:RN w S k y):∀{ks:List Tr} {xs:List Value},RNs w S ks xs->RNs w S (ks++[k]) (xs++y)
 | [],xs,h1=>by
   simp only[RNs]at h1;subst h1;simp only[List.nil_append,RNs];exact⟨y,[],by simp,h,rfl⟩
 |k0::ks,xs,h1=>by
  simp only[RNs]at h1;obtain⟨x,z,rfl,c,d⟩:=h1;simp only[List.cons_append,RNs];exact⟨x,z++y,by simp,c,cq h d⟩
theorem HB{w:World}(h:DN w S t xs):xs.all (·.oneCell')=true:=by
 cases t with
 |mk t b ks=>
  simp only[DN]at h;obtain⟨c,kv,d,rfl,⟨_,_,rfl,_⟩,⟨_,_,rfl,_⟩,_⟩:=h;rfl
theorem Ib{w:World}(h:RN w S t xs):xs.all (·.oneCell')=true:=by
 cases t with
 |mk t b ks=>
  simp only[RN]at h;obtain⟨kv,c,rfl,⟨_,_,rfl,_⟩,_⟩:=h;rfl
def AR(t:Tr):Dat:=⟨λxs w S=> ∃c,xs=[.agg c.toArray]/\DN w S t c,λh g=>by obtain⟨c,d,e⟩:=h;exact⟨c,d,dD g e⟩⟩
def QF(ks:List Tr):Dat:=⟨λxs w S=>DNs w S ks xs,λh c=>Uq c h⟩
def AU(t:Tr):Dat:=⟨λxs w S=> ∃c,xs=[.agg c.toArray]/\RN w S t c,λh g=>by obtain⟨c,d,e⟩:=h;exact⟨c,d,cr g e⟩⟩
def Na(ks:List Tr):Dat:=⟨λxs w S=>RNs w S ks xs,λh c=>Nv c h⟩
theorem Cd{w:World}{d:Nat}{S:Nat->Nat->Prop}{m:Mem}(j:RelOn d ρ S w (restr rd m))(e:id∈rd)(l:m id=some (.dat (AR t))):
 ∃c,(ρ id).val=.agg c.toArray/\DN w (S id) t c:=by
 obtain⟨c,g,h⟩:=Gc j e l;simp only[zX,zS]at g;exact⟨c,g,h⟩
theorem C9{w:World}{d:Nat}{S:Nat->Nat->Prop}{m:Mem}(j:RelOn d ρ S w (restr rd m))(e:id∈rd)(l:m id=some (.dat (AU t))):
 ∃c,(ρ id).val=.agg c.toArray/\RN w (S id) t c:=by
 obtain⟨c,g,h⟩:=Gc j e l;simp only[zX,zS]at g;exact⟨c,g,h⟩
theorem fn3{c:List Value}(h:(ρ id).val=.agg c.toArray)(l:c.length=3):((SV.d id).c ρ).cells.toList=SV.cs ρ [.fn (AN 0) (.d id),.fn (AN 1) (.d id),.fn (AN 2) (.d id)]/\SV.cs ρ [.fn (AN 0) (.d id),.fn (AN 1) (.d id),.fn (AN 2) (.d id)]=c:=by
 have g:((ρ id).val).cells.size=3:=by rw[h];simpa[Value.cells] using l
 have j:=pq g;have e:((SV.d id).c ρ).cells.toList=SV.cs ρ [.fn (AN 0) (.d id),.fn (AN 1) (.d id),.fn (AN 2) (.d id)]:=j;refine⟨e,e.symm.trans ?_⟩;show((ρ id).val).cells.toList=c;rw[h];simp[Value.cells]
theorem qw(v:Value)(w:World)(h:v.cells.size=3):(Instr.buildSlice 59 1 #[(0,v)]).run prog w=.ok (.slice (some ⟨w.heap.size,0,none⟩) 1 1) (w.alloc (.cells v.cells 61)):=by
 obtain⟨a,b,c,g⟩:=DI (l:=v.cells.toList) (by simpa using h);have d:v.cells=#[a,b,c]:=by apply Array.ext';rw[g]
 have p:∀w,(zeroValue 61).run prog w=.ok (.agg #[.int .i64 0,.slice none 0 0,.slice none 0 0]) w:=zeroValue61;have m:∀w,(Go.sizeOf 61).run prog w=.ok 3 w:=yH;unfold Instr.buildSlice;have e:Value.cells (.agg #[.int .i64 0,.slice none 0 0,.slice none 0 0])=#[.int .i64 0,.slice none 0 0,.slice none 0 0]:=rfl;have j:Array.range 3=#[0,1,2]:=by decide
 simp[yU yO,m,p,Instr.fill,d,e,newRow,newObj,j];rfl
theorem qx(v:Value)(w:World)(h:v.cells.size=3):(Instr.buildSlice 69 1 #[(0,v)]).run prog w=.ok (.slice (some ⟨w.heap.size,0,none⟩) 1 1) (w.alloc (.cells v.cells 71)):=by
 obtain⟨a,b,c,g⟩:=DI (l:=v.cells.toList) (by simpa using h);have d:v.cells=#[a,b,c]:=by apply Array.ext';rw[g]
 have p:∀w,(zeroValue 71).run prog w=.ok (.agg #[.int .i64 0,.string (ByteArray.mk #[]),.slice none 0 0]) w:=zeroValue71;have m:∀w,(Go.sizeOf 71).run prog w=.ok 3 w:=yI;unfold Instr.buildSlice;have e:Value.cells (.agg #[.int .i64 0,.string (ByteArray.mk #[]),.slice none 0 0])=#[.int .i64 0,.string (ByteArray.mk #[]),.slice none 0 0]:=rfl;have j:Array.range 3=#[0,1,2]:=by decide
 simp[yU yV,m,p,Instr.fill,d,e,newRow,newObj,j];rfl
theorem Jm(t:Int)(p:Option Addr)(m q:Nat):prog.built 61 [(0,.int .i64 t),(1,.slice p m q)]=some #[.int .i64 t,.slice p m q,.slice none 0 0]:=by kernel_rfl
theorem LP(t:Int)(b:ByteArray):prog.built 71 [(0,.int .i64 t),(1,.string b)]=some #[.int .i64 t,.string b,.slice none 0 0]:=by kernel_rfl
theorem DC(l:List SV):((SV.agg l).c ρ).cells.toList=SV.cs ρ l:=by simp[SV.c,Value.cells]
theorem gE{w:World}(j:Nat){t:Int}(H:Rel w0 ρ s w)(g:s.mem j=some (.row ks.length 3 71 (Na ks))):
 Ae w0 w (.agg #[.int .i64 t,.string (AB b),(ρ j).val]) (AU (.mk t b ks)):=by
 obtain⟨hb,S,p⟩:=H;obtain⟨J,f1,f2,f3⟩:=p.good j _ g;refine⟨λk=>w0.heap.size<=k/\k<w.heap.size,⟨[.int .i64 t,.string (AB b),(ρ j).val],rfl,?_⟩,λk c=>c⟩;simp only[RN]
 have q:∀{m:Nm} {n size:Nat} {ty:TypeId} {l:List Value},EC w w0.heap.size m n size ty l->l.length=n*size->AO w m.val n size l (λk=>w0.heap.size<=k/\k<w.heap.size):=by
  intro m n size ty l h u;have z:=DX h u;rcases h with⟨F,e⟩|⟨I,d,E,L,F,e,G,_⟩
  .obtain⟨D,d,A,B,C,K⟩:=z
   refine⟨D,d,A,B,C,.inl ?_⟩;subst e;exact zJ (by simpa using u)
  .exact Hq z λk c=>by subst c;exact⟨e,(z8.1 G).1⟩
 exact⟨_,J,rfl,q f3 f1,Nu (λk c=>⟨p.fr j k (by rw[g];rfl) c,p.lt j k (by rw[g];rfl) c⟩) f2⟩
mutual
def N7:Tr->Nat->Nat->Tr×Nat
 | .mk t b ks,d,l=>(.mk t (b.take 2100) (N6 ks 0 d (l-1)).1,(N6 ks 0 d (l-1)).2)
def N6:List Tr->Nat->Nat->Nat->List Tr×Nat
 | [],_,_,l=>([],l)
 |k::ks,i,d,l=>bif decide (i<25) && (decide (d>1) && decide (l>0))then((N7 k (d-1) l).1::(N6 ks (i+1) d (N7 k (d-1) l).2).1,(N6 ks (i+1) d (N7 k (d-1) l).2).2)else([],l)
end
theorem oH{t:Array TypeId}{a b c:Int}(l:o.op=.call {callee:=.builtin .max,args:=#[x,y],argTypes:=t})(g:AQ ops o s)(m:AE s x=.v (.int .i64 a))(p:AE s y=.v (.int .i64 b))(j:max a b=c):
 Ev P ops w0 o s ⟨.v (.int .i64 c),[],[],[],[]⟩:=
 Ev.run _ _ g λρ S w hb q=>by
  have d:=AI s ρ x;rw[m]at d;have e:=AI s ρ y;rw[p]at e;simp only[SV.c]at d e;subst j;unfold execOp;simp only[l,resolve,invoke,builtin,Sem.run_bind,Sem.run_pure,Result.andThen_ok,List.map_toArray,List.map_cons,List.map_nil,d,e,SV.c];by_cases h:a<=b
  .simp[Builtin.max_,Builtin.max2,Int.max_eq_right h]
   omega
  .simp[Builtin.max_,Builtin.max2,Int.max_eq_left (by omega:b<=a)]
   omega
theorem oZ{xs:Array Operand}(D:Dat)(g:Value->Value)(rd:List Nat)(_hd:o.dst=some id)(O:o.op=.call {callee:=.value (.func f),args:=xs,argTypes:=ats})(H:AQ ops o s)
 (hx:xs.toList.map (AE s)=vs)(Y:∀args w,(callFunc f args).run P w=.ok (.enter f args) w)
 (X:∀ρ S w,Bw w0 w->RelOn w0.heap.size ρ S w (restr rd s.mem)->Calls P f (SV.cs ρ vs).toArray w λe w'=> ∃v l z,e=.returned (g v)/\l.length=n*size/\BN w w' v n size ty l/\D.holds l w z/\(∀k,z k-> ∃j∈rd,(s.mem j).isSome/\S j k)/\Bw w w'):Ev P ops w0 o s ⟨.fn g (.d id),[(id,.row n size ty D)],[],[id],rd⟩:=
 ⟨by simp[Eff.ok],.inr ⟨H,λρ S w hb N=>.inr (.inr ⟨f,(SV.cs ρ vs).toArray,by
  obtain⟨R,op,Q,a0,G,guard⟩:=o;simp only at O;subst O;rw[DH,G7,hx,<-A8]
  simpa using Y (SV.cs ρ vs).toArray w,(X ρ S w hb N).mono λe w' ⟨v,l,z,h1,hl,⟨q,u⟩,h3,h4,h5⟩=>⟨_,h1,_,_,by
   have I:∀j,j∈rd->restr rd s.mem j=s.mem j:=λj Z=>by unfold restr;rw[x9 Z]
   have C:∀k,z k->k<w.heap.size:=λk p=>by
    obtain⟨j,U,V,W⟩:=h4 k p;exact N.lt j k (by rw[I j U];exact V) W
   have:=Cj (base:=w0.heap.size) (t:=s.mem) (ρ:=ρ) (S:=S) (w:=w) (w':=w') (val:=.fn g (.d id)) (rd:=rd) (up:=[]) (id:=id) (b:=.row n size ty D) (m:=⟨q,v⟩) (S1:=z)
    h5.os h5.tape h5.output h5.size (λk p _=>h5.block k p) (λa4 T _=>⟨l,hl,D.keep h3 (λk p=>h5.block k (C k p)),by
     rw[T];rcases u with u|⟨E,A,B,M,K,F,L⟩
     .exact .inl u
     .exact .inr ⟨E,A,B,M,K,uA9 hb.size F,L⟩⟩) (λk p=>.inl (h4 k p))
    (λJ=>.inr (by
     rcases u with⟨u,_⟩|⟨E,A,B,M,K,F,L⟩
     .exact absurd u J
     .exact⟨F,λh=>Nat.lt_irrefl _ (yK (C _ h) F)⟩))
   simpa[SV.c] using this⟩⟩)⟩⟩
theorem oi{a c:Value}{j:SV}{l:List Value}(D:o.op=.build ty #[(0,x),(2,y)])(h:AQ ops o s)
 (F:AE s x=.v a)(G:AE s y=j)(E:Rdg w0 s.mem rd j n size l)(C:∀p m q,P.built ty [(0,a),(2,.slice p m q)]=some #[a,c,.slice p m q]):Ev P ops w0 o s ⟨.agg [.v a,.v c,j],[],[],[],rd⟩:=
 Ev.run _ _ h λρ S w g B=>by
  have u:=AI s ρ x;rw[F]at u;have e:=AI s ρ y;rw[G]at e;obtain⟨_,A,d,z,_⟩:=E ρ S w g B;rw[z]at e;simp only[execOp,D,List.map_toArray,List.map_cons,List.map_nil,u,e,SV.c];rw[Sem.run_bind,run_build w ty _ #[a,c,.slice A n d] (C _ _ _)];simp[SV.c,SV.cs,z]
theorem qh(t:Int)(p:Option Addr)(m q:Nat):prog.built 61 [(0,.int .i64 t),(2,.slice p m q)]=some #[.int .i64 t,.slice none 0 0,.slice p m q]:=by kernel_rfl
theorem Hs{w:World}(id:Nat)(m:Rel w0 ρ s w)(g:s.mem id=some (.dat (AR t))):Ae w0 w (.agg (SV.cs ρ [.fn (AN 0) (.d id),.fn (AN 1) (.d id),.fn (AN 2) (.d id)]).toArray) (AR t):=by
 obtain⟨hb,S,e⟩:=m;obtain⟨c,h,j⟩:=e.good id _ g;simp only[zX,zS]at h;rw[(fn3 h (CS j)).2];exact⟨S id,⟨c,rfl,j⟩,λk l=>⟨e.fr id k (by rw[g];rfl) l,e.lt id k (by rw[g];rfl) l⟩⟩
theorem Gl{w:World}(i:Nat){t:Int}(F:Rel w0 ρ s w)(D:s.mem i=some (.row b.length 1 5 (.exact (b.map b8)))):
 Ae w0 w (.agg #[.int .i64 t,(ρ i).val,.slice none 0 0]) (AR (.mk t b [])):=by
 obtain⟨hb,S,E⟩:=F;obtain⟨xs,h,A,j⟩:=E.good i _ D;have d:xs=b.map b8:=A;subst d;refine⟨λk=>w0.heap.size<=k/\k<w.heap.size,⟨[.int .i64 t,(ρ i).val,.slice none 0 0],rfl,?_⟩,λk g=>g⟩;simp only[DN,DNs];refine⟨_,_,[],rfl,?_,⟨none,0,rfl,yD _,rfl,.inl rfl⟩,rfl⟩;have l:=DX j h;rcases j with⟨B,e⟩|⟨G,c,z,I,B,e,C,_⟩
 .obtain⟨u,c,m,p,q,H⟩:=l
  refine⟨u,c,m,p,q,.inl ?_⟩;exact zJ (by rw[h,e])
 .exact Hq l λk g=>by subst g;exact⟨e,(z8.1 C).1⟩
def AY(bs:List Nat):List Nat:=bs.dropWhile (· ==0)
def Dw:Value->List Nat->Value
 |_,[]=>.slice none 0 0
 |v,b::r=>bif decide (b=0)then Dw (Ay 1 (r.length+1) 1 v) r else v
theorem az{w:World}{b:Nat}(h:AO w v (b::r).length 1 ((b::r).map b8) S):AO w (Ay 1 (r.length+1) 1 v) r.length 1 (r.map b8) S:=by
 have:=Iw (lo:=1) (hi:=r.length+1) h (by omega) (by simp);have e:List.take r.length (List.map b8 r)=List.map b8 r:=zT (by simp);simpa[e] using this
theorem N2{w:World}{S:Nat->Prop}:∀{bs:List Nat} {v:Value},AO w v bs.length 1 (bs.map b8) S->AO w (Dw v bs) (AY bs).length 1 ((AY bs).map b8) S
 | [],v,h=>⟨none,0,rfl,yD _,rfl,.inl rfl⟩
 |b::r,v,h=>by
  by_cases hb:b=0
  .have c:AY (b::r)=AY r:=by simp[AY,hb]
   have d:Dw v (b::r)=Dw (Ay 1 (r.length+1) 1 v) r:=by simp[Dw,hb]
   rw[c,d];exact N2 (az h)
  .have c:AY (b::r)=b::r:=by simp[AY,hb]
   have d:Dw v (b::r)=v:=by simp[Dw,hb]
   rw[c,d];exact h
theorem Hi:∀bs:List Nat,(AY bs).length<=bs.length
 | []=>yD _
 |b::r=>by
  have:=Hi r;by_cases hb:b=0
  .have c:AY (b::r)=AY r:=by simp[AY,hb]
   rw[c,List.length_cons];omega
  .have c:AY (b::r)=b::r:=by simp[AY,hb]
   rw[c];exact yD _
theorem Ng{l:List Nat}(h:l.length>0):∃b r,l=b::r:=by
 cases l with
 |nil=>simp at h
 |cons b r=>exact⟨b,r,rfl⟩
theorem P3{l:List Nat}(h:l.length>0):(l.map b8)[0]? =some (b8 (l.headD 0)):=by
 obtain⟨b,r,rfl⟩:=Ng h;rfl
theorem dk(z:AO w v bs.length 1 (bs.map b8) S)(_hm:bs.length<=maxLen):CBy 151 #[v,.int .u8 0] w (Dw v bs):=by
 go_enter func151,ntmps151
 refine A4 ?_;iterate 6 refine aT ?_
 refine Bo (α:={x:List Nat×Value // AO w x.2 x.1.length 1 (x.1.map b8) S/\Dw v bs=Dw x.2 x.1/\x.1.length<=bs.length}) (fun(x:{x:List Nat×Value // AO w x.2 x.1.length 1 (x.1.map b8) S/\Dw v bs=Dw x.2 x.1/\x.1.length<=bs.length}) f=>⟨.v x.1.2::.v (.int .u8 0)::.v (f 2)::.v (f 3)::.v (.slice none 0 0)::fv f 16 5 [],AJ []⟩) (λx=>x.1.1.length) ?_ (⟨(bs,v),z,rfl,yD _⟩) ?_
 .rintro⟨⟨c,B⟩,e,h,l⟩ f
  simp only at e h l;obtain⟨q,d⟩:∃q,decide (c.length>0)=q:=⟨_,rfl⟩
  obtain⟨A,g⟩:∃q,decide (c.headD 0=0)=q:=⟨_,rfl⟩
  have h_q':=(Cr c.length 0).trans d;have h_q2':=(CM (c.headD 0) 0).trans g;cases q<;>cases A<;>
  (
   change VOk _ _ _ _ _;simp only[fv,Nat.reduceAdd];iterate 4 refine aT ?_
   refine iD (by exact BU rfl gg rfl x7 (AW e)) ?_;refine Kz ?_;iterate 2 refine aT ?_
   refine iD (by first|exact Ev.skip (λ_=>rfl)|exact Bc (k:=0) rfl (λ_=>rfl) rfl rfl x7 yG (AW e) (yA d) (by decide)) ?_;refine iD (by first|exact Ev.skip (λ_=>rfl)|exact Cb rfl (λ_=>rfl) rfl yL rfl (AW e) (P3 (yA d))) ?_;refine aT ?_;refine Po ?_;iterate 2 refine aT ?_
   first
   |(
    iterate 5 refine aT ?_
    refine iD (by exact Fa (a:=1) (b:=c.length) rfl gg rfl x7 yG (AW e) rfl rfl (yA d) (yD _) rfl) ?_;iterate 2 refine aT ?_
    obtain⟨b,r,rfl⟩:=Ng (yA d);have j:b=0:=yA g;subst j;refine⟨⟨(r,Ay 1 (r.length+1) 1 B),az e,h,by show r.length<=bs.length;simp only[List.length_cons]at l;omega⟩,by show r.length<r.length+1;omega,?_⟩;exact Ar (λi=>i==0||i==1||i==4) []
    )
   |(
    refine aT ?_;have p:decide ((c.length:Int)=((0:Nat):Int))= !decide (c.length>0):=by rw[CM];cases c<;>simp
    rw[d]at p;refine As ?_;change VOk _ _ _ _ _;iterate 4 refine aT ?_
    refine iD (by exact BU rfl gg rfl x7 (AW e)) ?_;refine iD (by exact Ag rfl gg rfl rfl p) ?_;refine aT ?_;first
    |(
     iterate 5 refine aT ?_
     refine AG ?_;refine AD (AH results151 (AF rfl)) ?_;intro ρ C m
     (first|(refine⟨?_,m.1⟩;rw[h];have u:c=[]:=zJ (by have:=yC d;omega);subst u;rfl)|(refine⟨?_,m.1⟩;rw[h];obtain⟨b,r,rfl⟩:=Ng (yA d);have j:decide (b=0)=false:=g;simp only[Dw,j,cond_false];rfl))
     )
    |(
     iterate 7 refine aT ?_
     refine AG ?_;refine AD (AH results151 (AF rfl)) ?_;intro ρ C m
     (first|(refine⟨?_,m.1⟩;rw[h];have u:c=[]:=zJ (by have:=yC d;omega);subst u;rfl)|(refine⟨?_,m.1⟩;rw[h];obtain⟨b,r,rfl⟩:=Ng (yA d);have j:decide (b=0)=false:=g;simp only[Dw,j,cond_false];rfl))
     )
    )
  )
 .exact Ar (λi=>i==0||i==1||i==4) []
theorem Q5(hv:AO w v bs.length 1 (bs.map b8) S)(l:bs.length<=maxLen):CBy 98 #[v,.string (AB [0])] w (Dw v bs):=by
 obtain⟨q,d⟩:∃p,decide (bs.length=0)=p:=⟨_,rfl⟩
 have e:=(CM bs.length 0).trans d
 go_enter func98,ntmps98
 refine A4 ?_;iterate 8 refine aT ?_
 refine CU ?_;refine iD (by exact Ag rfl gg rfl rfl e) ?_;refine aT ?_;cases q
 .iterate 6 refine aT ?_
  refine iD (by exact AK (c:=.bool false) rfl gg rfl rfl (λw=>E4 (a:=[0]) (b:=[]) (by decide) (by simp) (by simp) _ _ w)) ?_;iterate 7 refine aT ?_
  refine iD (by exact HX (b:=[0]) rfl gg rfl yF) ?_;refine FR ?_;iterate 2 refine aT ?_
  refine iD (by first|exact Ev.skip (λ_=>rfl)|exact CF (b:=[0]) (k:=0) (c:=0) rfl (λ_=>rfl) rfl rfl yF rfl (by decide)) ?_;refine iD (by first|exact Ev.skip (λ_=>rfl)|exact D8 (p:=true) rfl (λ_=>rfl) rfl rfl (by decide)) ?_;iterate 7 refine aT ?_
  refine iD (by exact CF (b:=[0]) (k:=0) (c:=0) rfl gg rfl rfl yF rfl (by decide)) ?_;refine iD (by exact Ad rfl gg rfl (eo func151) (λj hb=>dk j (A5 hv hb) l)) ?_;iterate 2 refine aT ?_
  refine AG ?_;refine AD (AH results98 (AF rfl)) ?_;intro ρ j g
  (first|exact⟨rfl,g.1⟩|(refine⟨?_,g.1⟩;have h:bs=[]:=zJ (yA d);subst h;rfl))
 .iterate 5 refine aT ?_
  refine AG ?_;refine AD (AH results98 (AF rfl)) ?_;intro ρ j g
  (first|exact⟨rfl,g.1⟩|(refine⟨?_,g.1⟩;have h:bs=[]:=zJ (yA d);subst h;rfl))
def B2(bs:List Nat):List Nat:=bif decide ((AY bs).length=0)||decide ((AY bs).headD 0>=128)then 0::AY bs else AY bs
theorem PL(bs:List Nat):(B2 bs).length<=bs.length+1:=by
 have:=Hi bs;unfold B2;cases decide ((AY bs).length=0)||decide ((AY bs).headD 0>=128)<;>simp<;>omega
theorem Yw{l:List Nat}(h:decide (l.length=0)=false):l.length>0:=by have:=yC h;omega
theorem YC(u:AO w v bs.length 1 (bs.map b8) S)(C:bs.length<=1048576):CDy 51 #[v] w (AR (.mk 2 (B2 bs) [])):=by
 unfold B2;have htv:=N2 u;have z:=Hi bs;obtain⟨A,d⟩:∃p,decide ((AY bs).length=0)=p:=⟨_,rfl⟩
 obtain⟨B,g⟩:∃p,decide ((AY bs).headD 0>=128)=p:=⟨_,rfl⟩
 rw[d,g];have h:=(CM (AY bs).length 0).trans d;have j:=(Ej ((AY bs).headD 0) 128).trans g
 go_enter func51,ntmps51
 refine A4 ?_;cases A<;>cases B<;>
 (
  iterate 7 refine aT ?_
  refine iD (by exact Ad rfl gg rfl (eo func98) (λq hb=>Q5 q (A5 u hb) (by simp only[maxLen];omega))) ?_;iterate 6 refine aT ?_
  refine M6 ?_;refine iD (by exact Ag rfl gg rfl rfl h) ?_;iterate 2 refine aT ?_
  refine iD (by first|exact Ev.skip (λ_=>rfl)|exact Bc (k:=0) rfl (λ_=>rfl) rfl rfl x7 yG (AW htv) (Yw d) (by decide)) ?_;refine iD (by first|exact Ev.skip (λ_=>rfl)|exact Cb rfl (λ_=>rfl) rfl yL rfl (AW htv) (P3 (Yw d))) ?_;refine iD (by first|exact Ev.skip (λ_=>rfl)|exact Ew rfl (λ_=>rfl) rfl rfl j) ?_;iterate 2 refine aT ?_
  first
  |(
   iterate 2 refine aT ?_
   refine iD (by exact BL rfl rfl gg rfl (e:=5) (l:=[b8 0]) rfl (by decide) (λ_=>by kernel_rfl)) ?_;refine aT ?_;refine iD (by exact Di rfl rfl gg rfl rfl rfl (AW htv) x7 el5 (by decide) (by simp) (DR _) (by simp only[maxLen];omega) (by omega) (by simp)) ?_;iterate 5 refine aT ?_
   refine ZK ?_;refine ZG ?_;refine Zq ?_;refine aT ?_;refine AG ?_;refine AD (AH results51 (Am rfl rfl yZ rfl yH rfl)) ?_;intro ρ q m;refine⟨_,rfl,?_,m.1⟩;first|(have:=Gl (t:=2) (b:=0::AY bs) 18 m rfl;simpa[SV.c,SV.cs] using this)|(have:=Gl (t:=2) (b:=AY bs) 18 m rfl;simpa[SV.c,SV.cs] using this)
   )
  |(
   iterate 5 refine aT ?_
   refine ZK ?_;refine ZG ?_;refine Zq ?_;refine aT ?_;refine AG ?_;refine AD (AH results51 (Am rfl rfl yZ rfl yH rfl)) ?_;intro ρ q m;refine⟨_,rfl,?_,m.1⟩;first|(have:=Gl (t:=2) (b:=0::AY bs) 18 m rfl;simpa[SV.c,SV.cs] using this)|(have:=Gl (t:=2) (b:=AY bs) 18 m rfl;simpa[SV.c,SV.cs] using this)
   )
 )
theorem Vq(m s:Nat)(_hm:m<9223372036854775808)(d:s<64):BOy .shr 3 (.int .i64 (m:Nat)) (.int .i64 (s:Nat)) (.int .i64 ((hb m s:Nat):Int)):=by
 intro p q w
 go_simp
 unfold hb;have c: ¬((s:Int)<0):=by omega
 simp
def CW(m:Nat):List Nat:=[n8 (hb m 56),n8 (hb m 48),n8 (hb m 40),n8 (hb m 32),n8 (hb m 24),n8 (hb m 16),n8 (hb m 8),n8 (hb m 0)]
theorem YF{m j s:Nat}(h:j<8)(c:s=56-8*j):(CW m)[j]? =some (n8 (hb m s)):=by
 subst c;have:j=0\/j=1\/j=2\/j=3\/j=4\/j=5\/j=6\/j=7:=by omega
 rcases this with rfl|rfl|rfl|rfl|rfl|rfl|rfl|rfl<;>rfl
theorem Js(n:Int)(O:n<=9223372036854775807)(w:World):CDy 137 #[.int .i64 n] w (AR (.mk 2 (B2 (CW n.toNat)) [])):=by
 go_enter func137,ntmps137
 refine A4 ?_;iterate 14 refine aT ?_
 refine Bo (α:={x:Nat×Int // x.1<=8/\x.2=56-8*(x.1:Int)}) (fun(x:{x:Nat×Int // x.1<=8/\x.2=56-8*(x.1:Int)}) f=>⟨.v (.int .i64 n)::.v (f 1)::.p 2 0::.d 900::.v (.int .i64 x.1.2)::fv f 14 5 [],AJ [(900,.row x.1.1 1 5 (.exact (((CW n.toNat).take x.1.1).map b8))),(2,.cells [.v (.int .i64 0),.v (.slice none 0 0),.v (.slice none 0 0)] 61)]⟩) (λx=>8-x.1.1) ?_ (⟨(0,56),by decide,rfl⟩) ?_
 .rintro⟨⟨j,z⟩,J,M⟩ f
  simp only at J M;obtain⟨q,g⟩:∃q,decide (z>=0)=q:=⟨_,rfl⟩
  change VOk _ _ _ _ _;simp only[fv,Nat.reduceAdd];iterate 4 refine aT ?_
  refine iD (by exact B4 rfl gg rfl rfl g) ?_;refine aT ?_;cases q
  .refine aT ?_
   have I:j=8:=by have:=yC g;omega
   subst I;have K:True:=True.intro;refine As ?_;change VOk _ _ _ _ _;iterate 3 refine aT ?_
   refine iD (by exact Al (D:=AR (.mk 2 (B2 (CW n.toNat)) [])) [900] rfl rfl gg rfl (eo func51) (λρ S A hb h=>by obtain⟨_,N⟩:=Lx (id:=900) h (by simp) rfl;exact YC (bs:=CW n.toNat) A N (by simp[CW]))) ?_;refine iD (by exact Bh (vl:=[.fn (AN 0) (.d 18),.fn (AN 1) (.d 18),.fn (AN 2) (.d 18)]) [2,18] rfl gg rfl rfl rfl yH rfl (λρ S A _ h=>by obtain⟨c,H,B⟩:=Cd (id:=18) h (by simp) rfl;have C:=fn3 H (CS B);exact⟨C.1,C.2▸HB B⟩) rfl (by simp)) ?_;refine aT ?_;refine AG ?_;refine AD (AH results137 (Am rfl rfl yZ rfl yH rfl)) ?_;intro ρ A E;exact⟨_,rfl,Hs 18 E rfl,E.1⟩
  .refine aT ?_
   have m:j<8:=by have:=yA g;omega
   obtain⟨s,L⟩:∃s:Nat,s=56-8*j:=⟨_,rfl⟩
   have u:z=((s:Nat):Int):=by omega
   iterate 6 refine aT ?_
   refine iD (by exact oH (c:=((n.toNat:Nat):Int)) rfl gg rfl rfl (by omega)) ?_;refine aT ?_;refine iD (by exact AK (b:=.int .i64 ((s:Nat):Int)) rfl gg rfl (by simp only[nm,seval,u]) (λw=>Vq _ s (by omega) (by omega) _ _ w)) ?_;refine FQ ?_;refine iD (by exact BL rfl rfl gg rfl (e:=5) (l:=[b8 (n8 (hb n.toNat s))]) rfl (by decide) (λ_=>by kernel_rfl)) ?_;refine Za ?_;iterate 4 refine aT ?_
   refine iD (by exact Bu (c:=z-8) rfl gg rfl rfl (by rw[Ah (by omega) (by omega)])) ?_;iterate 2 refine aT ?_
   have G:((CW n.toNat).take j).map b8++[b8 (n8 (hb n.toNat s))]=((CW n.toNat).take (j+1)).map b8:=by rw[Im (YF m L),SW];rfl
   rw[G];refine⟨⟨(j+1,z-8),by show j+1<=8;omega,by show z-8=56-8*((j+1:Nat):Int);omega⟩,by show 8-(j+1)<8-j;omega,?_⟩;exact(Ar (λi=>i==0||i==2||i==3||i==4) [15]).trans2 (λf=>Dk 16 900 (by decide) rfl)
 .refine(Ar (λi=>i==0||i==2||i==3||i==4) []).trans2 (λf=> ?_)
  refine(N1 900 1 5 (.exact []) (λw=>rfl) (m':=[(2,.cells [.v (.int .i64 0),.v (.slice none 0 0),.v (.slice none 0 0)] 61)]) rfl rfl (λρ F=> ?_) (λρ F=> ?_))
  .simp[fv,B0,SV.cs,SV.c,F,Bg]
  .simp[JG,BQ,Blk.sim]
theorem cf(g:∀x∈b,x<256)(u:b.length<=maxLen)(w:World):CDy 156 #[.string (AB b)] w (AR (.mk 12 b [])):=by
 go_enter func156,ntmps156
 refine A4 ?_;iterate 7 refine aT ?_
 refine iD (by exact Tw rfl rfl gg rfl yF x7 yL u g) ?_;refine iD (by exact Ji (n:=b.length) (size:=1) (l:=b.map b8) rfl gg rfl rfl (BI rfl) (λp m q=>Jm 12 p m q)) ?_;refine iD (by exact Bh (vl:=[.v (.int .i64 12),.d 4,.v (.slice none 0 0)]) [2,4] rfl gg rfl rfl rfl yH rfl (λρ S z _ h=>⟨DC _,by have j:=Cf (id:=4) h (by simp) rfl;simp only[SV.cs,SV.c,List.all_cons,List.all_nil,j.2];rfl⟩) rfl (by simp)) ?_;refine aT ?_;refine AG ?_;refine AD (AH results156 (Am rfl rfl yZ rfl yH rfl)) ?_;intro ρ z e;refine⟨_,rfl,?_,e.1⟩;have:=Gl (t:=12) (b:=b) 4 e rfl;simpa[SV.c,SV.cs] using this
theorem od{e:TypeId}{h:Nat}{p:List (Nat×Value)}{l:List Value}(_hd:o.dst=some id)(C:o.op=.buildSlice ty h parts)(m:AQ ops o s)
 (D:CG (parts.toList.map λx=>(x.1,AE s x.2))=some p)(q:l.length=h*size)(B:h<=maxLen)
 (z:∀w,(Instr.buildSlice ty h p.toArray).run P w=.ok (.slice (some ⟨w.heap.size,0,none⟩) h h) (w.alloc (.cells l.toArray e))):Ev P ops w0 o s ⟨.d id,[(id,.row h size e (.exact l))],[],[id],[]⟩:=
 ⟨by simp[Eff.ok],.inr ⟨m,λρ S w j E=>.inl ⟨.slice (some ⟨w.heap.size,0,none⟩) h h,w.alloc (.cells l.toArray e),by
  have u:(parts.map fun(i,x)=>(i,(s.act ρ).eval x))=p.toArray:=by
   rw[<-Array.toList_inj,<-Il D ρ];simp only[Array.toList_map,KK];exact uB4 λx _=>by simp only[Function.comp_apply,AI]
  simp only[execOp,C];rw[u,Sem.run_bind,z w];rfl,_,_,by
  have:=H6 (t:=s.mem) (ρ:=ρ) (S:=S) (val:=.d id) (rd:=[]) (id:=id) (n:=h) (size:=size) (ty:=e) (l:=l) (w:=w) (w':=w.alloc (.cells l.toArray e)) (v:=.slice (some ⟨w.heap.size,0,none⟩) h h) (g:=w.heap.size) j.size
   ⟨rfl,rfl,rfl,by simp,λk A=>DM w _ A⟩ (by omega) (.inr ⟨0,h,l.toArray,(0,0),rfl,yD _,L7 w _,.inl rfl,yD _,B,by simp[q],by simp[<-q]⟩)
  simpa[SV.c] using this⟩⟩⟩
theorem ox(n c:Nat):BOy .eql 59 (.slice none n c) (.slice none 0 0) (.bool true):=by
 intro p q w
 go_simp
 exact Go.Lib.run_eql_slice_nil_nil w n c yO
theorem oy(a:Addr)(n c:Nat):BOy .eql 59 (.slice (some a) n c) (.slice none 0 0) (.bool false):=by
 intro p q w
 go_simp
 exact Go.Lib.run_eql_slice_some_nil w a n c yO
theorem pZ{c:Nat}:Calls prog 97 #[.slice none n c] w λe d=> ∃v,e=.returned v/\BN w d v (0) 3 61 ([])/\Bw w d:=by
 go_enter func97,ntmps97
 refine A4 ?_;iterate 8 refine aT ?_
 refine iD (by exact AK (c:=.bool true) rfl gg rfl rfl (λw=>ox _ _ _ _ w)) ?_;iterate 6 refine aT ?_
 refine AG ?_;refine AD (AH results97 (AF rfl)) ?_;intro ρ d g;exact⟨_,rfl,I1 _ _ _ _,g.1⟩
theorem pX{c:Nat}{g:List Value}(m:AO w (.slice (some a) n c) n 3 g S)(d:g.all (·.oneCell')=true)(p:n<=1048576):Calls prog 97 #[.slice (some a) n c] w λe h=> ∃v,e=.returned v/\BN w h v (n) 3 61 (g)/\Bw w h:=by
 go_enter func97,ntmps97
 refine A4 ?_;iterate 8 refine aT ?_
 refine iD (by exact AK (c:=.bool false) rfl gg rfl rfl (λw=>oy _ _ _ _ _ w)) ?_;iterate 5 refine aT ?_
 refine iD (by exact od rfl rfl gg rfl (size:=3) (e:=61) (l:=[]) rfl (by decide) (λ_=>by kernel_rfl)) ?_;refine aT ?_;refine iD (by exact Di (n:=0) (size:=3) rfl rfl gg rfl rfl rfl (AW m) yO aj (by decide) rfl d (by simp only[maxLen];omega) (by omega) (by have:=Yx m (by decide) True.intro;omega)) ?_;iterate 2 refine aT ?_
 refine AG ?_;refine AD (AH results97 (AF rfl)) ?_;intro ρ h j;refine⟨(ρ 7).val,rfl,?_,j.1⟩;have:=B8 (id:=7) j rfl;simpa using this
theorem pY{g:List Value}(j:AO w v n 3 g S)(d:g.all (·.oneCell')=true)(u:n<=1048576):Calls prog 97 #[v] w λe l=> ∃v,e=.returned v/\BN w l v (n) 3 61 (g)/\Bw w l:=by
 have h:=j;obtain⟨m,p,rfl,z,q,c⟩:=h;cases m with
 |none=>
  have:g=[]:=by
   rcases c with c|⟨a,c,_⟩
   .exact c
   .cases c
  subst this;have:n=0:=by simp at q;omega
  subst this;exact pZ w
 |some a=>exact pX w j d u
theorem cu{t:Int}{h:List Value}(z:AO w v n 3 h S)(j:h.all (·.oneCell')=true)(C:n<=1048576):Calls prog 50 #[.int .i64 t,v] w λe g=> ∃v,e=.returned (.agg #[.int .i64 t,.slice none 0 0,v])/\BN w g v n 3 61 h/\Bw w g:=by
 go_enter func50,ntmps50
 refine A4 ?_;iterate 8 refine aT ?_
 refine iD (by exact Cs [] rfl rfl gg rfl (eo func97) (n:=n) (size:=3) (l:=h) (Yx z (by decide) True.intro) (λρ S g hb _=>pY g (A5 z hb) j C)) ?_;refine iD (by exact oi (n:=n) (size:=3) (l:=h) rfl gg rfl rfl (BI rfl) (λp m q=>qh t p m q)) ?_;refine iD (by exact Bh (vl:=[.v (.int .i64 t),.v (.slice none 0 0),.d 7]) [4,7] rfl gg rfl rfl rfl yH rfl (λρ S g _ A=>⟨DC _,by have B:=Cf (id:=7) A (by simp) rfl;simp only[SV.cs,SV.c,List.all_cons,List.all_nil,B.2];rfl⟩) rfl (by simp)) ?_;refine aT ?_;refine AG ?_;refine AD (AH results50 (Am rfl rfl yZ rfl yH rfl)) ?_;intro ρ g u;exact⟨(ρ 7).val,by simp[SV.c,SV.cs],B8 (id:=7) u rfl,u.1⟩
theorem UE{w:World}{l:List SV}{g:Nat}{x:Value}(d:w.heap[g]? =some (CP ρ l ty))(c:(SV.cs ρ l)[i]? =some x):w.cell? ((⟨g,0,none⟩:Addr).add i)=some x:=by
 rw[A8,zC]at c;cases h:l[i]? with
 |none=>rw[h]at c;cases c
 |some y=>rw[h]at c;simp only[AT,yT]at c;rw[<-c,Bd,zW];exact GK d h
def dT:Tr:=.mk 48 [] [.mk 2 [5] [],.mk 12 [97,98] []]
def ofV(t:Int)(v:Value):Value:=.agg #[.int .i64 t,.slice none 0 0,v]
theorem Fw{w:World}(id:Nat)(m:Rel w0 ρ s w)(g:s.mem id=some (.dat (AU t))):Ae w0 w (.agg (SV.cs ρ [.fn (AN 0) (.d id),.fn (AN 1) (.d id),.fn (AN 2) (.d id)]).toArray) (AU t):=by
 obtain⟨hb,S,e⟩:=m;obtain⟨c,h,j⟩:=e.good id _ g;simp only[zX,zS]at h;rw[(fn3 h (Cu j)).2];exact⟨S id,⟨c,rfl,j⟩,λk l=>⟨e.fr id k (by rw[g];rfl) l,e.lt id k (by rw[g];rfl) l⟩⟩
theorem cW{w:World}{e:Nat}{S:Nat->Nat->Prop}{m:Mem}(l:RelOn e ρ S w (restr rd m))(g:id∈rd)(p:m id=some (.dat (AR t))):∃c,SV.c ρ (.agg [.fn (AN 0) (.d id),.fn (AN 1) (.d id),.fn (AN 2) (.d id)])=.agg c.toArray/\DN w (S id) t c:=by
 obtain⟨c,j,h⟩:=Cd l g p;exact⟨c,by simp only[SV.c];rw[(fn3 j (CS h)).2],h⟩
theorem Ud{w:World}{e:Nat}{S:Nat->Nat->Prop}{m:Mem}(l:RelOn e ρ S w (restr rd m))(g:id∈rd)(p:m id=some (.dat (AU t))):∃c,SV.c ρ (.agg [.fn (AN 0) (.d id),.fn (AN 1) (.d id),.fn (AN 2) (.d id)])=.agg c.toArray/\RN w (S id) t c:=by
 obtain⟨c,j,h⟩:=C9 l g p;exact⟨c,by simp only[SV.c];rw[(fn3 j (Cu h)).2],h⟩
theorem ce{c:List Value}(d:t.ok)(h:DN w S t c)(g:wt t<=1073741824):
 Calls prog 22 #[.agg c.toArray] w λe m=> ∃v,e=.returned (.tuple #[v,.int .i64 (wrT t).2])/\BN w m v (wrT t).1.length 1 5 ((wrT t).1.map b8)/\Bw w m:=by
 obtain⟨x0,x1,x2,rfl⟩:=DI (CS h);unfold wrT;obtain⟨p,q⟩:=U2 t;cases l:Ak t 1 with
 |false=>exact sD w d h g l
 |true=>
  simp only[cond_true];cases hb:decide ((Aq t).length>2048)with
  |true=>
   have:=q (yA hb);exact sE w d h g l this
  |false=>
   have j:(Aq t).length<=2048:=by have:=yC hb;omega
   have e:=p j;have:=sC w d h g l (by rw[e];omega);rw[e]at this;exact this
theorem qA{w:World}{e:Nat}{S:Nat->Nat->Prop}{m:Mem}(id:Nat)(h:t.ok)(j:wt t<=1048576)(q:RelOn e ρ S w (restr rd m))(g:id∈rd)(u:m id=some (.dat (AU t))):
 CBy 31 (SV.cs ρ [.agg [.fn (AN 0) (.d id),.fn (AN 1) (.d id),.fn (AN 2) (.d id)]]).toArray w (.tuple #[.string (AB (wrT t).1),.int .i64 (wrT t).2]):=by
 obtain⟨c,p,l⟩:=Ud q g u;obtain⟨x0,x1,x2,rfl⟩:=DI (Cu l);simp only[SV.cs,p];exact R2 w h l j
theorem EE(h:t.ok):∀x∈(wrT t).1,x<256:=by
 unfold wrT;cases Ak t 1<;>cases decide ((Aq t).length>2048)<;>simp only[cond_true,cond_false]<;>first|exact UO t h|(intro x c;cases c)
theorem GN(t:Tr):(wrT t).1.length<=2048:=by
 unfold wrT;cases hb:decide ((Aq t).length>2048)with
 |true=>cases Ak t 1<;>simp
 |false=>
  have:=yC hb;cases Ak t 1<;>simp only[cond_true,cond_false,List.length_nil]<;>omega
def tm(t:Tr):Tr:=(N7 t 10 60).1
theorem UG{w:World}{g:Nat}{S:Nat->Nat->Prop}{m:Mem}(id:Nat)(j:t.ok)(l:wt t<=1073741824)(z:RelOn g ρ S w (restr rd m))(h:id∈rd)(A:m id=some (.dat (AR t))):
 Calls prog 22 (SV.cs ρ [.d id]).toArray w λe p=> ∃v,e=.returned (.tuple #[v,.int .i64 (wrT t).2])/\BN w p v (wrT t).1.length 1 5 ((wrT t).1.map b8)/\Bw w p:=by
 obtain⟨c,q,u⟩:=Cd z h A;simp only[SV.cs,SV.c,q];exact ce w j u l
theorem U4(t:Tr):(Ak t 1=false/\wrT t=([],2))\/(Ak t 1=true/\(Aq t).length>2048/\wrT t=([],4))\/(Ak t 1=true/\(Aq t).length<=2048/\wrT t=(Aq t,0)):=by
 unfold wrT;cases Ak t 1 with
 |false=>exact .inl ⟨rfl,rfl⟩
 |true=>
  cases h:decide ((Aq t).length>2048)with
  |true=>exact .inr (.inl ⟨rfl,yA h,rfl⟩)
  |false=>exact .inr (.inr ⟨rfl,by have:=yC h;omega,rfl⟩)
def two(c d:Tr):Tr:=.mk 48 [] [c,d]
theorem pO(h:n<65536):(Ao n).length<=3:=by
 unfold Ao;rw[show decide (n<65536)=true from yE h];cases decide (n<128)<;>cases decide (n<256)<;>simp
theorem bm(t:Int)(p:Option Addr)(m q:Nat):prog.built 71 [(0,.int .i64 t),(2,.slice p m q)]=some #[.int .i64 t,.string (ByteArray.mk #[]),.slice p m q]:=by kernel_rfl
end Go.Proofs.YtafbhakmkbehiaaGreatDoor
