import Derived.Test.YtafbhakmkbehiaaGreatDoorW18
open Go.Proofs.Tryz
set_option maxHeartbeats 4000000
set_option maxRecDepth 100000
namespace Go.Proofs.YtafbhakmkbehiaaGreatDoor
open Go.RowKit Go.Vx
variable(w:World){ops:Array Oper}{n:Int}{b kbd:List Nat}{kks:List Tr}{x:Operand}{Rr:Option (Crt×Nat×Nat)}{n0:Tr}
open TollMont
open TollEc (base)
theorem jB{c:Crt}(h0:0<=c.us)(hm:c.us<=15)(k8:∀x∈c.ky,x<256)(i8:∀x∈c.is,x<256)(s8:∀x∈c.su,x<256)(il:c.is.length<=1048576)(sl:c.su.length<=1048576):CBy 38 #[.agg #[.int .i64 c.se,.string (AB c.is),.string (AB c.su),.int .i64 c.fr,.int .i64 c.to,.string (AB c.ky),.bool c.ca,.int .i64 c.pa,.int .i64 c.us]] w (.bool (C2 c)):=by
 obtain⟨a,h_a⟩:∃p,wiB c.se 0 4611686018427387903=p:=⟨_,rfl⟩
 obtain⟨b,h_b⟩:∃p,decide (c.se>0)=p:=⟨_,rfl⟩
 obtain⟨d,h_d⟩:∃p,Db c.is=p:=⟨_,rfl⟩
 obtain⟨e,h_e⟩:∃p,Db c.su=p:=⟨_,rfl⟩
 obtain⟨f,h_f⟩:∃p,wiB c.fr 0 4611686018427387903=p:=⟨_,rfl⟩
 obtain⟨g,h_g⟩:∃p,wiB c.to 0 4611686018427387903=p:=⟨_,rfl⟩
 obtain⟨k,h_k⟩:∃p,kyB c.ky=p:=⟨_,rfl⟩
 obtain⟨m,h_m⟩:∃p,decide (c.pa>=0)=p:=⟨_,rfl⟩
 obtain⟨n,h_n⟩:∃p,decide (c.pa<=5)=p:=⟨_,rfl⟩
 obtain⟨z,h_z⟩:∃p,decide (c.pa=0)=p:=⟨_,rfl⟩
 obtain⟨v,j⟩:∃p,usB c.us=p:=⟨_,rfl⟩
 obtain⟨y,l⟩:∃p,c.ca=p:=⟨_,rfl⟩
 have q:=(df c.us).symm.trans j;rw[gP h0 hm,h_a,h_b,h_d,h_e,h_f,h_g,h_k,h_m,h_n,h_z,j,l]
 go_enter func38,ntmps38
 refine A4 ?_;iterate 9 refine AA ?_
 refine AX (by exact AK rfl gg rfl rfl (λw=>jR h0 hm _ _ w)) ?_;refine AX (by exact AK rfl gg rfl rfl (λw=>gY (by omega) _ _ w)) ?_;refine AX (by exact Ag rfl gg rfl rfl q) ?_;iterate 3 refine AA ?_
 have o:(a=false)\/(a=true/\b=false)\/(a=true/\b=true/\d=false)\/(a=true/\b=true/\d=true/\e=false)\/(a=true/\b=true/\d=true/\e=true/\f=false)\/(a=true/\b=true/\d=true/\e=true/\f=true/\g=false)\/(a=true/\b=true/\d=true/\e=true/\f=true/\g=true/\k=false)\/(a=true/\b=true/\d=true/\e=true/\f=true/\g=true/\k=true/\m=false)\/(a=true/\b=true/\d=true/\e=true/\f=true/\g=true/\k=true/\m=true/\n=false)\/(a=true/\b=true/\d=true/\e=true/\f=true/\g=true/\k=true/\m=true/\n=true/\y=false/\z=false)\/(a=true/\b=true/\d=true/\e=true/\f=true/\g=true/\k=true/\m=true/\n=true/\y=true)\/(a=true/\b=true/\d=true/\e=true/\f=true/\g=true/\k=true/\m=true/\n=true/\y=false/\z=true):=by
  cases a<;>cases b<;>cases d<;>cases e<;>cases f<;>cases g<;>cases k<;>cases m<;>cases n<;>cases y<;>cases z<;>simp
 rcases o with rfl|⟨rfl,rfl⟩|⟨rfl,rfl,rfl⟩|⟨rfl,rfl,rfl,rfl⟩|⟨rfl,rfl,rfl,rfl,rfl⟩|⟨rfl,rfl,rfl,rfl,rfl,rfl⟩|⟨rfl,rfl,rfl,rfl,rfl,rfl,rfl⟩|⟨rfl,rfl,rfl,rfl,rfl,rfl,rfl,rfl⟩|⟨rfl,rfl,rfl,rfl,rfl,rfl,rfl,rfl,rfl⟩|⟨rfl,rfl,rfl,rfl,rfl,rfl,rfl,rfl,rfl,rfl,rfl⟩|⟨rfl,rfl,rfl,rfl,rfl,rfl,rfl,rfl,rfl,rfl⟩|⟨rfl,rfl,rfl,rfl,rfl,rfl,rfl,rfl,rfl,rfl,rfl⟩
 .skip
  refine aT ?_;iterate 2 refine AA ?_
  refine jb ?_;iterate 3 refine AA ?_
  refine Dz ?_;iterate 3 refine AA ?_
  refine E6 ?_;iterate 3 refine AA ?_
  refine Ee ?_;iterate 3 refine AA ?_
  refine E2 ?_;iterate 3 refine AA ?_
  refine E1 ?_;iterate 3 refine AA ?_
  refine Ep ?_;iterate 3 refine AA ?_
  refine Eo ?_;iterate 3 refine AA ?_
  refine En ?_;iterate 6 refine AA ?_
  refine Ef ?_;iterate 3 refine AA ?_
  refine Em ?_;iterate 3 refine AA ?_
  refine Eg ?_;iterate 4 refine AA ?_
  refine D1 ?_;iterate 2 refine AA ?_
  refine AG ?_;refine AD (AH uA0 (AF rfl)) ?_;intro ρ i h;first|exact⟨rfl,h.1⟩|(cases v<;>exact⟨rfl,h.1⟩)
 .skip
  refine aT ?_;iterate 2 refine AA ?_
  refine jb ?_;iterate 3 refine AA ?_
  refine Dz ?_;iterate 3 refine AA ?_
  refine E6 ?_;iterate 3 refine AA ?_
  refine Ee ?_;iterate 3 refine AA ?_
  refine E2 ?_;iterate 3 refine AA ?_
  refine E1 ?_;iterate 3 refine AA ?_
  refine Ep ?_;iterate 3 refine AA ?_
  refine Eo ?_;iterate 3 refine AA ?_
  refine En ?_;iterate 6 refine AA ?_
  refine Ef ?_;iterate 3 refine AA ?_
  refine Em ?_;iterate 3 refine AA ?_
  refine Eg ?_;iterate 4 refine AA ?_
  refine D1 ?_;iterate 2 refine AA ?_
  refine AG ?_;refine AD (AH uA0 (AF rfl)) ?_;intro ρ i h;first|exact⟨rfl,h.1⟩|(cases v<;>exact⟨rfl,h.1⟩)
 .skip
  refine aT ?_;iterate 2 refine AA ?_
  refine jb ?_;iterate 3 refine AA ?_
  refine Dz ?_;iterate 3 refine AA ?_
  refine E6 ?_;iterate 3 refine AA ?_
  refine Ee ?_;iterate 3 refine AA ?_
  refine E2 ?_;iterate 3 refine AA ?_
  refine E1 ?_;iterate 3 refine AA ?_
  refine Ep ?_;iterate 3 refine AA ?_
  refine Eo ?_;iterate 3 refine AA ?_
  refine En ?_;iterate 6 refine AA ?_
  refine Ef ?_;iterate 3 refine AA ?_
  refine Em ?_;iterate 3 refine AA ?_
  refine Eg ?_;iterate 4 refine AA ?_
  refine D1 ?_;iterate 2 refine AA ?_
  refine AG ?_;refine AD (AH uA0 (AF rfl)) ?_;intro ρ i h;first|exact⟨rfl,h.1⟩|(cases v<;>exact⟨rfl,h.1⟩)
 .skip
  refine aT ?_;iterate 2 refine AA ?_
  refine jb ?_;iterate 3 refine AA ?_
  refine Dz ?_;iterate 3 refine AA ?_
  refine E6 ?_;iterate 3 refine AA ?_
  refine Ee ?_;iterate 3 refine AA ?_
  refine E2 ?_;iterate 3 refine AA ?_
  refine E1 ?_;iterate 3 refine AA ?_
  refine Ep ?_;iterate 3 refine AA ?_
  refine Eo ?_;iterate 3 refine AA ?_
  refine En ?_;iterate 6 refine AA ?_
  refine Ef ?_;iterate 3 refine AA ?_
  refine Em ?_;iterate 3 refine AA ?_
  refine Eg ?_;iterate 4 refine AA ?_
  refine D1 ?_;iterate 2 refine AA ?_
  refine AG ?_;refine AD (AH uA0 (AF rfl)) ?_;intro ρ i h;first|exact⟨rfl,h.1⟩|(cases v<;>exact⟨rfl,h.1⟩)
 .skip
  refine aT ?_;iterate 2 refine AA ?_
  refine jb ?_;iterate 3 refine AA ?_
  refine Dz ?_;iterate 3 refine AA ?_
  refine E6 ?_;iterate 3 refine AA ?_
  refine Ee ?_;iterate 3 refine AA ?_
  refine E2 ?_;iterate 3 refine AA ?_
  refine E1 ?_;iterate 3 refine AA ?_
  refine Ep ?_;iterate 3 refine AA ?_
  refine Eo ?_;iterate 3 refine AA ?_
  refine En ?_;iterate 6 refine AA ?_
  refine Ef ?_;iterate 3 refine AA ?_
  refine Em ?_;iterate 3 refine AA ?_
  refine Eg ?_;iterate 4 refine AA ?_
  refine D1 ?_;iterate 2 refine AA ?_
  refine AG ?_;refine AD (AH uA0 (AF rfl)) ?_;intro ρ i h;first|exact⟨rfl,h.1⟩|(cases v<;>exact⟨rfl,h.1⟩)
 .skip
  refine aT ?_;iterate 2 refine AA ?_
  refine jb ?_;iterate 3 refine AA ?_
  refine Dz ?_;iterate 3 refine AA ?_
  refine E6 ?_;iterate 3 refine AA ?_
  refine Ee ?_;iterate 3 refine AA ?_
  refine E2 ?_;iterate 3 refine AA ?_
  refine E1 ?_;iterate 3 refine AA ?_
  refine Ep ?_;iterate 3 refine AA ?_
  refine Eo ?_;iterate 3 refine AA ?_
  refine En ?_;iterate 6 refine AA ?_
  refine Ef ?_;iterate 3 refine AA ?_
  refine Em ?_;iterate 3 refine AA ?_
  refine Eg ?_;iterate 4 refine AA ?_
  refine D1 ?_;iterate 2 refine AA ?_
  refine AG ?_;refine AD (AH uA0 (AF rfl)) ?_;intro ρ i h;first|exact⟨rfl,h.1⟩|(cases v<;>exact⟨rfl,h.1⟩)
 .skip
  refine aT ?_;iterate 2 refine AA ?_
  refine jb ?_;iterate 3 refine AA ?_
  refine Dz ?_;iterate 3 refine AA ?_
  refine E6 ?_;iterate 3 refine AA ?_
  refine Ee ?_;iterate 3 refine AA ?_
  refine E2 ?_;iterate 3 refine AA ?_
  refine E1 ?_;iterate 3 refine AA ?_
  refine Ep ?_;iterate 3 refine AA ?_
  refine Eo ?_;iterate 3 refine AA ?_
  refine En ?_;iterate 6 refine AA ?_
  refine Ef ?_;iterate 3 refine AA ?_
  refine Em ?_;iterate 3 refine AA ?_
  refine Eg ?_;iterate 4 refine AA ?_
  refine D1 ?_;iterate 2 refine AA ?_
  refine AG ?_;refine AD (AH uA0 (AF rfl)) ?_;intro ρ i h;first|exact⟨rfl,h.1⟩|(cases v<;>exact⟨rfl,h.1⟩)
 .skip
  refine aT ?_;iterate 2 refine AA ?_
  refine jb ?_;iterate 3 refine AA ?_
  refine Dz ?_;iterate 3 refine AA ?_
  refine E6 ?_;iterate 3 refine AA ?_
  refine Ee ?_;iterate 3 refine AA ?_
  refine E2 ?_;iterate 3 refine AA ?_
  refine E1 ?_;iterate 3 refine AA ?_
  refine Ep ?_;iterate 3 refine AA ?_
  refine Eo ?_;iterate 3 refine AA ?_
  refine En ?_;iterate 6 refine AA ?_
  refine Ef ?_;iterate 3 refine AA ?_
  refine Em ?_;iterate 3 refine AA ?_
  refine Eg ?_;iterate 4 refine AA ?_
  refine D1 ?_;iterate 2 refine AA ?_
  refine AG ?_;refine AD (AH uA0 (AF rfl)) ?_;intro ρ i h;first|exact⟨rfl,h.1⟩|(cases v<;>exact⟨rfl,h.1⟩)
 .skip
  refine aT ?_;iterate 2 refine AA ?_
  refine jb ?_;iterate 3 refine AA ?_
  refine Dz ?_;iterate 3 refine AA ?_
  refine E6 ?_;iterate 3 refine AA ?_
  refine Ee ?_;iterate 3 refine AA ?_
  refine E2 ?_;iterate 3 refine AA ?_
  refine E1 ?_;iterate 3 refine AA ?_
  refine Ep ?_;iterate 3 refine AA ?_
  refine Eo ?_;iterate 3 refine AA ?_
  refine En ?_;iterate 6 refine AA ?_
  refine Ef ?_;iterate 3 refine AA ?_
  refine Em ?_;iterate 3 refine AA ?_
  refine Eg ?_;iterate 4 refine AA ?_
  refine D1 ?_;iterate 2 refine AA ?_
  refine AG ?_;refine AD (AH uA0 (AF rfl)) ?_;intro ρ i h;first|exact⟨rfl,h.1⟩|(cases v<;>exact⟨rfl,h.1⟩)
 .skip
  refine aT ?_;iterate 2 refine AA ?_
  refine jb ?_;iterate 3 refine AA ?_
  refine Dz ?_;iterate 3 refine AA ?_
  refine E6 ?_;iterate 3 refine AA ?_
  refine Ee ?_;iterate 3 refine AA ?_
  refine E2 ?_;iterate 3 refine AA ?_
  refine E1 ?_;iterate 3 refine AA ?_
  refine Ep ?_;iterate 3 refine AA ?_
  refine Eo ?_;iterate 3 refine AA ?_
  refine En ?_;iterate 6 refine AA ?_
  refine Ef ?_;iterate 3 refine AA ?_
  refine Em ?_;iterate 3 refine AA ?_
  refine Eg ?_;iterate 4 refine AA ?_
  refine D1 ?_;iterate 2 refine AA ?_
  refine AG ?_;refine AD (AH uA0 (AF rfl)) ?_;intro ρ i h;first|exact⟨rfl,h.1⟩|(cases v<;>exact⟨rfl,h.1⟩)
 .skip
  refine aT ?_;iterate 2 refine AA ?_
  refine jb ?_;iterate 3 refine AA ?_
  refine Dz ?_;iterate 3 refine AA ?_
  refine E6 ?_;iterate 3 refine AA ?_
  refine Ee ?_;iterate 3 refine AA ?_
  refine E2 ?_;iterate 3 refine AA ?_
  refine E1 ?_;iterate 3 refine AA ?_
  refine Ep ?_;iterate 3 refine AA ?_
  refine Eo ?_;iterate 3 refine AA ?_
  refine En ?_;iterate 6 refine AA ?_
  refine Ef ?_;iterate 3 refine AA ?_
  refine Em ?_;iterate 3 refine AA ?_
  refine Eg ?_;iterate 4 refine AA ?_
  refine D1 ?_;iterate 2 refine AA ?_
  refine AG ?_;refine AD (AH uA0 (AF rfl)) ?_;intro ρ i h;first|exact⟨rfl,h.1⟩|(cases v<;>exact⟨rfl,h.1⟩)
 .skip
  refine aT ?_;iterate 2 refine AA ?_
  refine jb ?_;iterate 3 refine AA ?_
  refine Dz ?_;iterate 3 refine AA ?_
  refine E6 ?_;iterate 3 refine AA ?_
  refine Ee ?_;iterate 3 refine AA ?_
  refine E2 ?_;iterate 3 refine AA ?_
  refine E1 ?_;iterate 3 refine AA ?_
  refine Ep ?_;iterate 3 refine AA ?_
  refine Eo ?_;iterate 3 refine AA ?_
  refine En ?_;iterate 6 refine AA ?_
  refine Ef ?_;iterate 3 refine AA ?_
  refine Em ?_;iterate 3 refine AA ?_
  refine Eg ?_;iterate 4 refine AA ?_
  refine D1 ?_;iterate 2 refine AA ?_
  refine AG ?_;refine AD (AH uA0 (AF rfl)) ?_;intro ρ i h;first|exact⟨rfl,h.1⟩|(cases v<;>exact⟨rfl,h.1⟩)
theorem jM{c:Crt}(hf:c.Fit)(hse:0<=c.se)(hfr:0<=c.fr)(hto:0<=c.to)(e:0<=c.pa)(g:c.ca=true):CDy 71 #[.agg #[.int .i64 c.se,.string (AB c.is),.string (AB c.su),.int .i64 c.fr,.int .i64 c.to,.string (AB c.ky),.bool c.ca,.int .i64 c.pa,.int .i64 c.us]] w (AU c.body):=by
 rw[g]
 go_enter func71,ntmps71
 refine A4 ?_;iterate 4 refine AA ?_
 iterate 3 refine aT ?_
 refine AX (by exact A6 rfl gg rfl (LP 1 (AB [255]))) ?_;refine AA ?_;refine I6 ?_;iterate 3 refine aT ?_
 refine AX (by exact Al (D:=AU (Bm [])) [] rfl rfl gg rfl (eo func32) (λρ S a hb d=>V4 a)) ?_;refine AA ?_;refine I6 ?_;iterate 4 refine aT ?_
 iterate 2 refine AA ?_
 iterate 3 refine aT ?_
 refine AX (by exact Ev.asD (D:=AU Ey) (id:=9) (BD rfl gg rfl rfl yS rfl yI rfl rfl) (λh=>by cases h) gg λw=>KZ 1 [255] w _) ?_;iterate 2 refine AA ?_
 refine AX (by exact Al (D:=AU (iT (c.pa))) [] rfl rfl gg rfl (eo func113) (λρ S a hb d=>Iz (n:=c.pa) a e (by have:=hf.pm;omega))) ?_;refine AX (by exact Dg (is:=[9,12]) (ks:=[_,_]) rfl rfl gg rfl rfl ⟨rfl,rfl,trivial⟩ rfl yV (by kernel_rfl) (by kernel_rfl) (by decide) (by decide) (by decide)) ?_;refine AX (by exact A0 (AU (.mk 48 [] [_,_])) [13] rfl rfl gg rfl (eo func32) (λρ S a hb d=>D9 (q:=13) d (by simp) rfl)) ?_;refine I6 ?_;iterate 3 refine aT ?_
 refine XB ?_;refine XE ?_;refine AX (by exact QA (t:=160) (q:=16) rfl rfl gg rfl rfl rfl) ?_;iterate 2 refine AA ?_
 refine XM ?_;refine SD ?_;refine XD ?_;refine Wz ?_;iterate 2 refine AA ?_
 refine AX (by exact Al (D:=AU (E0 c.is)) [] rfl rfl gg rfl (eo func114) (λρ S a hb d=>Oc (b:=c.is) a)) ?_;iterate 2 refine AA ?_
 refine XL ?_;iterate 2 refine AA ?_
 refine XK ?_;refine XS ?_;refine W7 ?_;iterate 2 refine AA ?_
 refine AX (by exact Al (D:=AU (E0 c.su)) [] rfl rfl gg rfl (eo func114) (λρ S a hb d=>Oc (b:=c.su) a)) ?_;refine Wh ?_;refine Wi ?_;refine XR ?_;refine W6 ?_;iterate 2 refine AA ?_
 refine AX (by exact AK (c:=.string (AB (0::c.ky))) rfl gg rfl rfl (λw=>Fu [0] (c.ky) (by have:=hf.kl;simp;omega) _ _ w)) ?_;refine AX (by exact LH (t:=3) (b:=0::c.ky) rfl rfl gg rfl rfl) ?_;refine XQ ?_;refine W5 ?_;refine W4 ?_;refine XO ?_;refine AA ?_;refine AX (by exact Al (D:=AU (C5 (Bm [Ey,iT c.pa]))) [14] rfl rfl gg rfl (eo func115) (λρ S a hb d=>bK (id:=14) d (by simp) rfl (QX true c.pa) (uA9 (UX true c.pa) (by decide)))) ?_;refine We ?_;refine XA ?_;refine W3 ?_;refine XN ?_;iterate 2 refine AA ?_
 refine AX (by exact AK rfl gg rfl rfl (λw=>Rw hf.u0 hf.um _ _ w)) ?_;refine XJ ?_;refine Wm ?_;refine Wc ?_;refine W9 ?_;refine W2 ?_;iterate 2 refine AA ?_
 refine AX (by exact AK rfl gg rfl rfl (λw=>R7 hf.u0 hf.um _ _ w)) ?_;refine Wj ?_;refine Wl ?_;refine XP ?_;refine W1 ?_;refine Xa ?_;refine W8 ?_;refine XC ?_;refine AX (by exact QA (t:=163) (q:=73) rfl rfl gg rfl rfl rfl) ?_;refine Wp ?_;refine XT ?_;refine I6 ?_;refine aT ?_;refine AG ?_;refine AD (AH results71 (Am rfl rfl yS rfl yI rfl)) ?_;intro ρ a i;exact⟨_,rfl,by rw[show c.body=_ from by unfold Crt.body Fh;rw[g]];exact Fw 76 i rfl,i.1⟩
theorem jO{c:Crt}(hf:c.Fit)(hse:0<=c.se)(hfr:0<=c.fr)(hto:0<=c.to)(_h:0<=c.pa)(e:c.ca=false):CDy 71 #[.agg #[.int .i64 c.se,.string (AB c.is),.string (AB c.su),.int .i64 c.fr,.int .i64 c.to,.string (AB c.ky),.bool c.ca,.int .i64 c.pa,.int .i64 c.us]] w (AU c.body):=by
 rw[e]
 go_enter func71,ntmps71
 refine A4 ?_;iterate 4 refine AA ?_
 iterate 3 refine aT ?_
 refine AX (by exact A6 rfl gg rfl (LP 1 (AB [255]))) ?_;refine AA ?_;refine I6 ?_;iterate 3 refine aT ?_
 refine AX (by exact Al (D:=AU (Bm [])) [] rfl rfl gg rfl (eo func32) (λρ S a hb d=>V4 a)) ?_;refine AA ?_;refine I6 ?_;iterate 4 refine aT ?_
 iterate 2 refine AA ?_
 iterate 5 refine aT ?_
 refine XB ?_;refine XE ?_;refine AX (by exact QA (t:=160) (q:=16) rfl rfl gg rfl rfl rfl) ?_;iterate 2 refine AA ?_
 refine XM ?_;refine SD ?_;refine XD ?_;refine Wz ?_;iterate 2 refine AA ?_
 refine AX (by exact Al (D:=AU (E0 c.is)) [] rfl rfl gg rfl (eo func114) (λρ S a hb d=>Oc (b:=c.is) a)) ?_;iterate 2 refine AA ?_
 refine XL ?_;iterate 2 refine AA ?_
 refine XK ?_;refine XS ?_;refine W7 ?_;iterate 2 refine AA ?_
 refine AX (by exact Al (D:=AU (E0 c.su)) [] rfl rfl gg rfl (eo func114) (λρ S a hb d=>Oc (b:=c.su) a)) ?_;refine Wh ?_;refine Wi ?_;refine XR ?_;refine W6 ?_;iterate 2 refine AA ?_
 refine AX (by exact AK (c:=.string (AB (0::c.ky))) rfl gg rfl rfl (λw=>Fu [0] (c.ky) (by have:=hf.kl;simp;omega) _ _ w)) ?_;refine AX (by exact LH (t:=3) (b:=0::c.ky) rfl rfl gg rfl rfl) ?_;refine XQ ?_;refine W5 ?_;refine W4 ?_;refine XO ?_;refine AA ?_;refine AX (by exact Al (D:=AU (C5 (Bm []))) [6] rfl rfl gg rfl (eo func115) (λρ S a hb d=>bK (id:=6) d (by simp) rfl (QX false c.pa) (uA9 (UX false c.pa) (by decide)))) ?_;refine We ?_;refine XA ?_;refine W3 ?_;refine XN ?_;iterate 2 refine AA ?_
 refine AX (by exact AK rfl gg rfl rfl (λw=>Rw hf.u0 hf.um _ _ w)) ?_;refine XJ ?_;refine Wm ?_;refine Wc ?_;refine W9 ?_;refine W2 ?_;iterate 2 refine AA ?_
 refine AX (by exact AK rfl gg rfl rfl (λw=>R7 hf.u0 hf.um _ _ w)) ?_;refine Wj ?_;refine Wl ?_;refine XP ?_;refine W1 ?_;refine Xa ?_;refine W8 ?_;refine XC ?_;refine AX (by exact QA (t:=163) (q:=73) rfl rfl gg rfl rfl rfl) ?_;refine Wp ?_;refine XT ?_;refine I6 ?_;refine aT ?_;refine AG ?_;refine AD (AH results71 (Am rfl rfl yS rfl yI rfl)) ?_;intro ρ a g;exact⟨_,rfl,by rw[show c.body=_ from by unfold Crt.body Fh;rw[e]];exact Fw 76 g rfl,g.1⟩
theorem jN{c:Crt}(i:c.Fit)(f:0<=c.se)(d:0<=c.fr)(g:0<=c.to)(e:0<=c.pa):CDy 71 #[.agg #[.int .i64 c.se,.string (AB c.is),.string (AB c.su),.int .i64 c.fr,.int .i64 c.to,.string (AB c.ky),.bool c.ca,.int .i64 c.pa,.int .i64 c.us]] w (AU c.body):=by
 cases h:c.ca with
 |true=>have a:=jM w i f d g e h;rw[h]at a;exact a
 |false=>have a:=jO w i f d g e h;rw[h]at a;exact a
theorem it{c:Crt}(e:c.Fit)(i:0<=c.se)(g:0<=c.fr)(j:0<=c.to)(h:0<=c.pa){r t:Nat}:CBy 39 #[.agg #[.int .i64 c.se,.string (AB c.is),.string (AB c.su),.int .i64 c.fr,.int .i64 c.to,.string (AB c.ky),.bool c.ca,.int .i64 c.pa,.int .i64 c.us],PT r t] w (.string (AB (wrT (c.whole r t)).1)):=by
 go_enter func39,ntmps39
 refine A4 ?_;iterate 9 refine AA ?_
 refine AX (by exact Al (D:=AU c.body) [] rfl rfl gg rfl (eo func71) (λρ S d hb a=>jN d e i g j h)) ?_;refine SD ?_;refine AX (by exact Dg (is:=[10]) (ks:=[_]) rfl rfl gg rfl rfl ⟨rfl,trivial⟩ rfl yV (by kernel_rfl) (by kernel_rfl) (by decide) (by decide) (by decide)) ?_;refine AX (by exact A0 (AU (.mk 48 [] [_])) [11] rfl rfl gg rfl (eo func32) (λρ S d hb a=>D9 (q:=11) a (by simp) rfl)) ?_;refine AA ?_;refine AX (by exact Ad (v:=.string (AB (wrT (BH r t)).1)) rfl gg rfl (eo func11) (λd l=>R4 d)) ?_;refine AX (by exact AK (c:=.string (AB (0::(wrT (BH r t)).1))) rfl gg rfl rfl (λw=>Fu [0] ((wrT (BH r t)).1) (by have:=GN (BH r t);simp;omega) _ _ w)) ?_;refine AX (by exact LH (t:=3) (b:=0::(wrT (BH r t)).1) rfl rfl gg rfl rfl) ?_;refine AX (by exact Dg (is:=[9,12,16]) (ks:=[_,_,_]) rfl rfl gg rfl rfl ⟨rfl,rfl,rfl,trivial⟩ rfl yV (by kernel_rfl) (by kernel_rfl) (by decide) (by decide) (by decide)) ?_;refine AX (by exact A0 (AU (.mk 48 [] [_,_,_])) [17] rfl rfl gg rfl (eo func32) (λρ S d hb a=>D9 (q:=17) a (by simp) rfl)) ?_;refine AX (by exact Aj (v:=.tuple #[.string (AB (wrT (c.whole r t)).1),.int .i64 (wrT (c.whole r t)).2]) [18] rfl gg rfl (eo func31) (λρ S d hb a=>bG (t:=c.whole r t) a (by simp) rfl (Lb e r t) (by have:=U8 e r t;omega))) ?_;iterate 11 refine AA ?_
 exact AG (AD (AH results39 (AF rfl)) λ_ _ k=>⟨rfl,k.1⟩)
theorem kL:∀q:List Nat,AC q noT=noT
 | []=>rfl
 |_::_=>rfl
theorem PF:∀(p q:List Nat) (t:Tr),AC (p++q) t=AC q (AC p t)
 | [],_,_=>rfl
 |i::is,q,.mk _ _ ks=>by
  rw[List.cons_append,AC,AC];cases ks[i]? with
  |some k=>exact PF is q k
  |none=>exact(kL q).symm
theorem mA(n:Tr):Ax (Bt (AC [7,0,1,2] (AC [0] n)))=CX n:=by rw[CX,JF,<-PF [7,0] [1,2]];rfl
theorem nK(n:Tr):Ax (Bt (AC [7,0,2,1] (AC [0] n)))=Cl n:=by rw[Cl,JF,<-PF [7,0] [2,1]];rfl
theorem rQ(n:Tr):Bt (AC [7,0,0,2] (AC [0] n))=Bt (AC [0,2] (AC [7,0] (AC [0] n))):=by rw[<-PF [7,0] [0,2]];rfl
def RZ:Value:=.agg #[.int .i64 0,.string (AB []),.string (AB []),.int .i64 0,.int .i64 0,.string (AB []),.bool false,.int .i64 0,.int .i64 0]
def RVV(c:Crt):Value:=.agg #[.int .i64 c.se,.string (AB c.is),.string (AB c.su),.int .i64 c.fr,.int .i64 c.to,.string (AB c.ky),.bool c.ca,.int .i64 c.pa,.int .i64 c.us]
def Gd:Option (Crt×Nat×Nat)->Value
 |none=>.tuple #[RZ,ZV,.int .i64 2]
 |some (c,r,t)=>.tuple #[RVV c,PT r t,.int .i64 0]
theorem qc(a c d:Int)(b e k:ByteArray):prog.built 38 [(0,.int .i64 a),(1,.string b),(3,.int .i64 c),(4,.int .i64 d),(2,.string e),(5,.string k)]=some #[.int .i64 a,.string b,.string e,.int .i64 c,.int .i64 d,.string k,.bool false,.int .i64 0,.int .i64 0]:=by kernel_rfl
theorem qb:prog.built 38 []=some #[.int .i64 0,.string (AB []),.string (AB []),.int .i64 0,.int .i64 0,.string (AB []),.bool false,.int .i64 0,.int .i64 0]:=by kernel_rfl
theorem QD{l:World}{o:Oper}{s:VS}{id:Nat}{t:Tr}(j:o.op=.field 71 x 1)(a:AQ ops o s)(k:AE s x=.d id)(i:s.mem id=some (.dat (AU t))):Ev prog ops l o s ⟨.v (.string (AB (Az t))),[],[],[],[id]⟩:=
 Ev.run _ _ a λρ S w _ h=>by
  have e:=AI s ρ x;rw[k]at e;obtain⟨c,f,g⟩:=C9 (id:=id) h (by simp) i;obtain⟨p,rfl⟩:=L0 g;simp[execOp,j,e,SV.c,f,Instr.field,yU yS,Bp yF,asAgg,part,Ba]
theorem lW(a:0<=n)(c:n<=3):BOy .mul 3 (.int .i64 4) (.int .i64 n) (.int .i64 (4*n)):=by
 intro p q w
 have:n=0\/n=1\/n=2\/n=3:=by omega
 rcases this with rfl|rfl|rfl|rfl<;>(go_simp;rfl)
theorem rj{m:Int}(d:0<=n)(e:n<=3)(f:0<=m)(g:m<=3):BOy .add 3 (.int .i64 m) (.int .i64 (4*n)) (.int .i64 (n*4+m)):=by
 intro p q w
 have c:n=0\/n=1\/n=2\/n=3:=by omega
 have a:m=0\/m=1\/m=2\/m=3:=by omega
 rcases c with rfl|rfl|rfl|rfl<;>rcases a with rfl|rfl|rfl|rfl<;>(go_simp;rfl)
theorem WH{c:Crt}(h:C2 c=true):0<=c.se/\0<=c.fr/\0<=c.to/\0<=c.pa:=by
 unfold C2 at h;simp only[yW,Cv]at h;obtain⟨_,e,a,f,_,_,d,_⟩:=h;omega
theorem nx{c:Crt}{b:List Nat}(h:c.ky=[]):∀o,GF c b o=none
 |none=>rfl
 |some (r,t)=>by
  have e:C2 c=false:=by unfold C2;rw[h];rfl
  rw[GF,e];rfl
theorem fV:sgT []=none:=by decide+kernel
theorem nj{n:Tr}(h:Az (AC [6,1] (AC [0] n))=[]\/Az (AC [2] n)=[]):Gz n b=none:=by
 have e:GF (GJ n) b (sgT (BO (AC [2] n)))=none:=by
  rcases h with h|h
  .exact nx (by show BO _=[];rw[BO,h];rfl) _
  .rw[BO,h];show GF (GJ n) b (sgT [])=none;rw[fV];rfl
 rw[Gz,e];cases !(wiB (CX n) 0 3 && wiB (Cl n) 0 3)<;>rfl
section
variable{w:World}{base:Nat}{ρ:Nat->Nm}{S:Nat->Nat->Prop}{m:Mem}{rd:List Nat}{t:Tr}
theorem LM(i:Nat)(a:t.ok)(g:RelOn base ρ S w (restr rd m))(h:i∈rd)(f:m i=some (.dat (AU t))):CBy 37 (SV.cs ρ [.d i]).toArray w (.int .i64 (Ax t)):=by
 obtain⟨c,e,d1⟩:=C9 g h f;simp only[SV.cs,SV.c,e];exact d7 w a d1
theorem UH(i:Nat)(a:t.ok)(g:RelOn base ρ S w (restr rd m))(h:i∈rd)(f:m i=some (.dat (AU t))):CDy 36 (SV.cs ρ [.d i]).toArray w (AU (Bt t)):=by
 obtain⟨c,e,d1⟩:=C9 g h f;simp only[SV.cs,SV.c,e];exact dh w a d1
end
theorem fu(y:∀x∈b,x<256)(j:b.length<=1048576)(r:decide ((rdT b).2≠0)=true->Rr=none)(g:∀n0 E,(rdT b).1=n0->(rdT b).2=E->decide (E≠0)=false->n0.ok-> ∀f:Nat->Value,VOk prog w ⟨(.v (.string (AB b))::.v (f 1)::.p 2 0::.p 3 0::.v (f 4)::.p 5 0::.v (f 6)::.v (f 7)::.p 8 0::.v (.string (AB (Az (AC [6,1] (AC [0] n0)))))::.v (.string (AB (Az (AC [2] n0))))::fv f 126 11 []),AJ [(8,.cells [.fn (AN 0) (.d 28),.fn (AN 1) (.d 28),.fn (AN 2) (.d 28)] 71),(28,.dat (AU (AC [0] n0))),(5,.cells (zs 64) 22),(3,.cells (zs 64) 22),(2,.cells [.v (.int .i64 0),.v (.string (ByteArray.mk #[])),.v (.string (ByteArray.mk #[])),.v (.int .i64 0),.v (.int .i64 0),.v (.string (ByteArray.mk #[])),.v (.bool false),.v (.int .i64 0),.v (.int .i64 0)] 38)]⟩ (Cm 6 (Ct f13)) (QB prog f13 w (λe a=>e=.returned (Gd Rr)/\Bw w a))):Calls prog 13 #[.string (AB b)] w (λe a=>e=.returned (Gd Rr)/\Bw w a):=by
 try simp only[fv,zs,Nat.reduceAdd]
 obtain⟨n0,q⟩:∃n0,(rdT b).1=n0:=⟨_,rfl⟩
 obtain⟨E,o⟩:∃E,(rdT b).2=E:=⟨_,rfl⟩
 have k:=I3 y j;rw[q]at k
 have s:∀a,Bw w a->Calls prog 27 #[.string (AB b)] a λe z=> ∃u,e=.returned (.tuple #[u,.int .i64 E])/\Ae a z u (AU n0)/\Bw a z:=λa _=>by
  have:=R5 a y j;rw[q,o]at this;exact this
 obtain⟨p,c⟩:∃p,decide (E≠0)=p:=⟨_,rfl⟩
 go_enter func13,ntmps13
 refine A4 ?_;iterate 2 refine aT ?_
 iterate 11 refine AA ?_
 refine AX (by exact DL (D:=AU n0) (ys:=[.int .i64 E]) [] rfl rfl gg rfl (eo func27) (λρ S a hb h=>s a hb)) ?_;iterate 4 refine AA ?_
 refine SG ?_;iterate 6 refine AA ?_
 refine AX (by exact BB rfl gg rfl rfl c) ?_;refine aT ?_;cases p
 .iterate 4 refine aT ?_
  refine AA ?_;refine AX (by exact BL rfl rfl gg rfl (e:=3) (l:=CE [0]) rfl (by decide) (λ_=>by kernel_rfl)) ?_;refine AX (by exact A0 (AU (AC [0] n0)) [19,27] rfl rfl gg rfl (eo func35) (λρ S a hb h=>Fb 19 27 [0] h (by simp) (by simp) rfl rfl)) ?_;refine AA ?_;refine SG ?_;iterate 3 refine aT ?_
  refine AA ?_;refine AX (by exact BL rfl rfl gg rfl (e:=3) (l:=CE [6,1]) rfl (by decide) (λ_=>by kernel_rfl)) ?_;refine AX (by exact A0 (AU (AC [6,1] (AC [0] n0))) [28,30] rfl rfl gg rfl (eo func35) (λρ S a hb h=>Fb 28 30 [6,1] h (by simp) (by simp) rfl rfl)) ?_;refine AX (by exact QD rfl gg rfl rfl) ?_;refine AA ?_;refine SR ?_;refine AX (by exact A0 (AU (AC [2] n0)) [19,34] rfl rfl gg rfl (eo func35) (λρ S a hb h=>Fb 19 34 [2] h (by simp) (by simp) rfl rfl)) ?_;refine AX (by exact QD rfl gg rfl rfl) ?_;iterate 3 refine AA ?_
  refine Ea (λi=>i==0||i==2||i==3||i==5||i==8||i==9||i==10) [6,19,27,30,31,34,35] (λf=>by simp[B0];exact rfl) (by simp[BQ];exact rfl) λf=> ?_
  exact g n0 E q o c k f
 .refine aT ?_
  have B:=r (by rw[o];exact c);subst B;iterate 2 refine aT ?_
  refine KQ ?_;iterate 5 refine AA ?_
  exact AG (AD (BX results13 (Am rfl rfl zY rfl z9 rfl) (Ac rfl rfl y9 rfl zI rfl rfl) (AF rfl)) λ_ _ A=>⟨rfl,A.1⟩)
theorem ft(c:n0.ok)(A:(Az (AC [6,1] (AC [0] n0))=[]\/Az (AC [2] n0)=[])->Rr=none)(r:1<=(Az (AC [2] n0)).length-> ∀h kbd kks,Bt (AC [0,2] (AC [7,0] (AC [0] n0)))=Tr.mk h kbd kks-> ∀f:Nat->Value,VOk prog w ⟨(.v (.string (AB b))::.v (f 1)::.p 2 0::.p 3 0::.v (f 4)::.p 5 0::.v (f 6)::.v (f 7)::.v (f 8)::.v (f 9)::.v (.string (AB (Az (AC [2] n0))))::.p 11 0::.v (.int .i64 (CX n0))::.v (.int .i64 (Cl n0))::.p 14 0::fv f 122 15 []),AJ [(14,.cells [.v (.int .i64 (Ax (AC [1] (AC [0] n0)))),.v (.string (AB (Az (AC [3,0,1] (AC [0] n0))))),.v (.string (AB (Az (AC [5,0,1] (AC [0] n0))))),.v (.int .i64 (Ax (AC [4,0] (AC [0] n0)))),.v (.int .i64 (Ax (AC [4,1] (AC [0] n0)))),.v (.string (AB (BO (AC [6,1] (AC [0] n0))))),.v (.bool false),.v (.int .i64 0),.v (.int .i64 0)] 38),(11,.cells [.fn (AN 0) (.d 48),.fn (AN 1) (.d 48),.fn (AN 2) (.d 48)] 71),(48,.dat (AU (.mk h kbd kks))),(5,.cells (zs 64) 22),(3,.cells (zs 64) 22),(2,.cells [.v (.int .i64 0),.v (.string (ByteArray.mk #[])),.v (.string (ByteArray.mk #[])),.v (.int .i64 0),.v (.int .i64 0),.v (.string (ByteArray.mk #[])),.v (.bool false),.v (.int .i64 0),.v (.int .i64 0)] 38)]⟩ (Cm 10 (Ct f13)) (QB prog f13 w (λe g=>e=.returned (Gd Rr)/\Bw w g)))(f:Nat->Value):VOk prog w ⟨(.v (.string (AB b))::.v (f 1)::.p 2 0::.p 3 0::.v (f 4)::.p 5 0::.v (f 6)::.v (f 7)::.p 8 0::.v (.string (AB (Az (AC [6,1] (AC [0] n0)))))::.v (.string (AB (Az (AC [2] n0))))::fv f 126 11 []),AJ [(8,.cells [.fn (AN 0) (.d 28),.fn (AN 1) (.d 28),.fn (AN 2) (.d 28)] 71),(28,.dat (AU (AC [0] n0))),(5,.cells (zs 64) 22),(3,.cells (zs 64) 22),(2,.cells [.v (.int .i64 0),.v (.string (ByteArray.mk #[])),.v (.string (ByteArray.mk #[])),.v (.int .i64 0),.v (.int .i64 0),.v (.string (ByteArray.mk #[])),.v (.bool false),.v (.int .i64 0),.v (.int .i64 0)] 38)]⟩ (Cm 6 (Ct f13)) (QB prog f13 w (λe g=>e=.returned (Gd Rr)/\Bw w g)):=by
 try simp only[fv,zs,Nat.reduceAdd]
 obtain⟨h,kbd,kks,F⟩:∃E y C,Bt (AC [7,0,0,2] (AC [0] n0))=Tr.mk E y C:=by cases Bt (AC [7,0,0,2] (AC [0] n0))with|mk E y C=>exact⟨E,y,C,rfl⟩
 have s:=(EY (Af [6,1] (Af [0] c))).1;have u:=(EY (Af [2] c)).1;obtain⟨p,j⟩:∃p,decide (Az (AC [6,1] (AC [0] n0))=[])=p:=⟨_,rfl⟩
 obtain⟨q,o⟩:∃p,decide (Az (AC [2] n0)=[])=p:=⟨_,rfl⟩
 iterate 2 refine aT ?_
 have h3:(p=false/\q=false)\/(p=true\/(p=false/\q=true)):=by cases p<;>cases q<;>simp
 rcases h3 with⟨rfl,rfl⟩|h3
 .have z:1<=(Az (AC [6,1] (AC [0] n0))).length:=List.length_pos_iff.2 (yC j)
  have B:1<=(Az (AC [2] n0)).length:=List.length_pos_iff.2 (yC o);iterate 2 refine AA ?_
  refine AX (by exact AK rfl gg rfl rfl (λw=>E4 j s (by simp) _ _ w)) ?_;iterate 2 refine AA ?_
  refine AX (by first|exact Ev.skip (λ_=>rfl)|exact AK rfl (λ_=>rfl) rfl rfl (λw=>E4 o u (by simp) _ _ w)) ?_;refine k_9 ?_;iterate 5 refine aT ?_
  refine AA ?_;refine AX (by exact BL rfl rfl gg rfl (e:=3) (l:=CE [7,0,0,2]) rfl (by decide) (λ_=>by kernel_rfl)) ?_;refine AX (by exact A0 (AU (AC [7,0,0,2] (AC [0] n0))) [28,46] rfl rfl gg rfl (eo func35) (λρ S g hb a=>Fb 28 46 [7,0,0,2] a (by simp) (by simp) rfl rfl)) ?_;refine AX (by exact Al (D:=AU (.mk h kbd kks)) [47] rfl rfl gg rfl (eo func36) (λρ S g hb a=>F▸UH 47 (Af _ (Af _ c)) a (by simp) rfl)) ?_;refine AA ?_;refine SG ?_;iterate 3 refine aT ?_
  refine AA ?_;refine AX (by exact BL rfl rfl gg rfl (e:=3) (l:=CE [7,0,1,2]) rfl (by decide) (λ_=>by kernel_rfl)) ?_;refine AX (by exact A0 (AU (AC [7,0,1,2] (AC [0] n0))) [28,50] rfl rfl gg rfl (eo func35) (λρ S g hb a=>Fb 28 50 [7,0,1,2] a (by simp) (by simp) rfl rfl)) ?_;refine AX (by exact Al (D:=AU (Bt (AC [7,0,1,2] (AC [0] n0)))) [51] rfl rfl gg rfl (eo func36) (λρ S g hb a=>UH 51 (Af _ (Af _ c)) a (by simp) rfl)) ?_;refine AX (by exact Aj (v:=.int .i64 (CX n0)) [52] rfl gg rfl (eo func37) (λρ S g hb a=>mA n0▸LM 52 (K9 (Af _ (Af _ c))) a (by simp) rfl)) ?_;refine AA ?_;refine AX (by exact BL rfl rfl gg rfl (e:=3) (l:=CE [7,0,2,1]) rfl (by decide) (λ_=>by kernel_rfl)) ?_;refine AX (by exact A0 (AU (AC [7,0,2,1] (AC [0] n0))) [28,55] rfl rfl gg rfl (eo func35) (λρ S g hb a=>Fb 28 55 [7,0,2,1] a (by simp) (by simp) rfl rfl)) ?_;refine AX (by exact Al (D:=AU (Bt (AC [7,0,2,1] (AC [0] n0)))) [56] rfl rfl gg rfl (eo func36) (λρ S g hb a=>UH 56 (Af _ (Af _ c)) a (by simp) rfl)) ?_;refine AX (by exact Aj (v:=.int .i64 (Cl n0)) [57] rfl gg rfl (eo func37) (λρ S g hb a=>nK n0▸LM 57 (K9 (Af _ (Af _ c))) a (by simp) rfl)) ?_;iterate 6 refine AA ?_
  refine On ?_;refine AX (by exact A0 (AU (AC [1] (AC [0] n0))) [28,60] rfl rfl gg rfl (eo func35) (λρ S g hb a=>Fb 28 60 [1] a (by simp) (by simp) rfl rfl)) ?_;refine AX (by exact Aj (v:=.int .i64 (Ax (AC [1] (AC [0] n0)))) [61] rfl gg rfl (eo func37) (λρ S g hb a=>LM 61 (Af _ (Af _ c)) a (by simp) rfl)) ?_;refine AA ?_;refine AX (by exact BL rfl rfl gg rfl (e:=3) (l:=CE [3,0,1]) rfl (by decide) (λ_=>by kernel_rfl)) ?_;refine AX (by exact A0 (AU (AC [3,0,1] (AC [0] n0))) [28,64] rfl rfl gg rfl (eo func35) (λρ S g hb a=>Fb 28 64 [3,0,1] a (by simp) (by simp) rfl rfl)) ?_;refine AX (by exact QD rfl gg rfl rfl) ?_;refine AA ?_;refine AX (by exact BL rfl rfl gg rfl (e:=3) (l:=CE [4,0]) rfl (by decide) (λ_=>by kernel_rfl)) ?_;refine AX (by exact A0 (AU (AC [4,0] (AC [0] n0))) [28,68] rfl rfl gg rfl (eo func35) (λρ S g hb a=>Fb 28 68 [4,0] a (by simp) (by simp) rfl rfl)) ?_;refine AX (by exact Aj (v:=.int .i64 (Ax (AC [4,0] (AC [0] n0)))) [69] rfl gg rfl (eo func37) (λρ S g hb a=>LM 69 (Af _ (Af _ c)) a (by simp) rfl)) ?_;refine AA ?_;refine AX (by exact BL rfl rfl gg rfl (e:=3) (l:=CE [4,1]) rfl (by decide) (λ_=>by kernel_rfl)) ?_;refine AX (by exact A0 (AU (AC [4,1] (AC [0] n0))) [28,72] rfl rfl gg rfl (eo func35) (λρ S g hb a=>Fb 28 72 [4,1] a (by simp) (by simp) rfl rfl)) ?_;refine AX (by exact Aj (v:=.int .i64 (Ax (AC [4,1] (AC [0] n0)))) [73] rfl gg rfl (eo func37) (λρ S g hb a=>LM 73 (Af _ (Af _ c)) a (by simp) rfl)) ?_;refine AA ?_;refine AX (by exact BL rfl rfl gg rfl (e:=3) (l:=CE [5,0,1]) rfl (by decide) (λ_=>by kernel_rfl)) ?_;refine AX (by exact A0 (AU (AC [5,0,1] (AC [0] n0))) [28,76] rfl rfl gg rfl (eo func35) (λρ S g hb a=>Fb 28 76 [5,0,1] a (by simp) (by simp) rfl rfl)) ?_;refine AX (by exact QD rfl gg rfl rfl) ?_;refine AA ?_;refine AX (by exact IT (k:=1) (b':=BO (AC [6,1] (AC [0] n0))) rfl gg rfl rfl yF z rfl) ?_;refine AX (by exact A6 rfl gg rfl (qc _ _ _ _ _ _)) ?_;iterate 2 refine AA ?_
  refine aT ?_;refine Ea (λi=>i==0||i==2||i==3||i==5||i==10||i==11||i==12||i==13||i==14) [8,28,46,47,50,51,52,55,56,57,60,61,64,65,68,69,72,73,76,77] (λf=>by simp[B0];exact rfl) (by simp[BQ];exact rfl) λf=> ?_
  exact r B h kbd kks ((rQ n0).symm.trans F) f
 .have H:Rr=none:=A (by
   rcases h3 with rfl|⟨rfl,rfl⟩
   .exact .inl (yA j)
   .exact .inr (yA o))
  subst H;rcases h3 with rfl|⟨rfl,rfl⟩<;>
  (
   iterate 2 refine AA ?_
   refine AX (by exact AK rfl gg rfl rfl (λw=>E4 j s (by simp) _ _ w)) ?_;iterate 2 refine AA ?_
   refine AX (by first|exact Ev.skip (λ_=>rfl)|exact AK rfl (λ_=>rfl) rfl rfl (λw=>E4 o u (by simp) _ _ w)) ?_;refine k_9 ?_;iterate 4 refine aT ?_
   refine KQ ?_;iterate 5 refine AA ?_
   exact AG (AD (BX results13 (Am rfl rfl zY rfl z9 rfl) (Ac rfl rfl y9 rfl zI rfl rfl) (AF rfl)) λ_ _ G=>⟨rfl,G.1⟩)
  )
theorem fq{h:Int}(r:n0.ok)(j:Bt (AC [0,2] (AC [7,0] (AC [0] n0)))=Tr.mk h kbd kks)(a:∀g s,GJ n0=Jj n0 g s-> ∀f:Nat->Value,VOk prog w ⟨(.v (.string (AB b))::.v (f 1)::.p 2 0::.p 3 0::.v (f 4)::.p 5 0::.v (f 6)::.v (f 7)::.v (f 8)::.v (f 9)::.v (.string (AB (Az (AC [2] n0))))::.v (f 11)::.v (.int .i64 (CX n0))::.v (.int .i64 (Cl n0))::.p 14 0::fv f 122 15 []),AJ [(14,.cells [.v (.int .i64 (Ax (AC [1] (AC [0] n0)))),.v (.string (AB (Az (AC [3,0,1] (AC [0] n0))))),.v (.string (AB (Az (AC [5,0,1] (AC [0] n0))))),.v (.int .i64 (Ax (AC [4,0] (AC [0] n0)))),.v (.int .i64 (Ax (AC [4,1] (AC [0] n0)))),.v (.string (AB (BO (AC [6,1] (AC [0] n0))))),.v (.bool g),.v (.int .i64 s),.v (.int .i64 0)] 38),(5,.cells (zs 64) 22),(3,.cells (zs 64) 22),(2,.cells [.v (.int .i64 0),.v (.string (ByteArray.mk #[])),.v (.string (ByteArray.mk #[])),.v (.int .i64 0),.v (.int .i64 0),.v (.string (ByteArray.mk #[])),.v (.bool false),.v (.int .i64 0),.v (.int .i64 0)] 38)]⟩ (Cm 11 (Ct f13)) (QB prog f13 w (λe o=>e=.returned (Gd Rr)/\Bw w o)))(f:Nat->Value):VOk prog w ⟨(.v (.string (AB b))::.v (f 1)::.p 2 0::.p 3 0::.v (f 4)::.p 5 0::.v (f 6)::.v (f 7)::.v (f 8)::.v (f 9)::.v (.string (AB (Az (AC [2] n0))))::.p 11 0::.v (.int .i64 (CX n0))::.v (.int .i64 (Cl n0))::.p 14 0::fv f 122 15 []),AJ [(14,.cells [.v (.int .i64 (Ax (AC [1] (AC [0] n0)))),.v (.string (AB (Az (AC [3,0,1] (AC [0] n0))))),.v (.string (AB (Az (AC [5,0,1] (AC [0] n0))))),.v (.int .i64 (Ax (AC [4,0] (AC [0] n0)))),.v (.int .i64 (Ax (AC [4,1] (AC [0] n0)))),.v (.string (AB (BO (AC [6,1] (AC [0] n0))))),.v (.bool false),.v (.int .i64 0),.v (.int .i64 0)] 38),(11,.cells [.fn (AN 0) (.d 48),.fn (AN 1) (.d 48),.fn (AN 2) (.d 48)] 71),(48,.dat (AU (.mk h kbd kks))),(5,.cells (zs 64) 22),(3,.cells (zs 64) 22),(2,.cells [.v (.int .i64 0),.v (.string (ByteArray.mk #[])),.v (.string (ByteArray.mk #[])),.v (.int .i64 0),.v (.int .i64 0),.v (.string (ByteArray.mk #[])),.v (.bool false),.v (.int .i64 0),.v (.int .i64 0)] 38)]⟩ (Cm 10 (Ct f13)) (QB prog f13 w (λe o=>e=.returned (Gd Rr)/\Bw w o)):=by
 try simp only[fv,zs,Nat.reduceAdd]
 have k:(Tr.mk h kbd kks).ok:=j▸K9 (Af _ (Af _ (Af _ r)));obtain⟨g,c⟩:∃p,decide (((kks.length:Nat):Int)>0)=p:=⟨_,rfl⟩
 iterate 3 refine aT ?_
 iterate 2 refine AA ?_
 refine AX (by exact Jg rfl gg rfl yV (Mh rfl)) ?_;refine AX (by exact BV rfl gg rfl rfl c) ?_;refine aT ?_;cases g
 .iterate 2 refine aT ?_
  refine Ea (λi=>i==0||i==2||i==3||i==5||i==10||i==12||i==13||i==14) [11,48,88,89] (λf=>by simp[B0];exact rfl) (by simp[BQ];exact rfl) λf=> ?_
  first|exact a _ _ (QG j c) f|exact a _ _ (QH j c) f
 .iterate 3 refine aT ?_
  refine AA ?_;refine AX (by exact BA rfl gg rfl rfl rfl sizeOf4 rfl (by simp) rfl) ?_;iterate 2 refine aT ?_
  refine AA ?_;refine On ?_;refine AX (by exact A0 (AU (AC [1] (.mk h kbd kks))) [48,88] rfl rfl gg rfl (eo func35) (λρ S o hb q=>Fb 48 88 [1] q (by simp) (by simp) rfl rfl)) ?_;refine AX (by exact Aj (v:=.int .i64 (Ax (AC [1] (.mk h kbd kks)))) [89] rfl gg rfl (eo func37) (λρ S o hb q=>LM 89 (Af _ k) q (by simp) rfl)) ?_;iterate 2 refine AA ?_
  refine aT ?_;refine Ea (λi=>i==0||i==2||i==3||i==5||i==10||i==12||i==13||i==14) [11,48,88,89] (λf=>by simp[B0];exact rfl) (by simp[BQ];exact rfl) λf=> ?_
  first|exact a _ _ (QG j c) f|exact a _ _ (QH j c) f
theorem fp{g:Bool}{y:Int}(r:(wiB (CX n0) 0 3 && wiB (Cl n0) 0 3)=false->Rr=none)(l:(0<=CX n0/\CX n0<=3)->(0<=Cl n0/\Cl n0<=3)-> ∀c,c=Jj n0 g y-> ∀f:Nat->Value,VOk prog w ⟨(.v (.string (AB b))::.v (f 1)::.p 2 0::.p 3 0::.v (f 4)::.p 5 0::.v (f 6)::.v (f 7)::.v (f 8)::.v (f 9)::.v (.string (AB (Az (AC [2] n0))))::.v (f 11)::.v (f 12)::.v (f 13)::.p 14 0::fv f 122 15 []),AJ [(14,.cells [.v (.int .i64 c.se),.v (.string (AB c.is)),.v (.string (AB c.su)),.v (.int .i64 c.fr),.v (.int .i64 c.to),.v (.string (AB c.ky)),.v (.bool c.ca),.v (.int .i64 c.pa),.v (.int .i64 c.us)] 38),(5,.cells (zs 64) 22),(3,.cells (zs 64) 22),(2,.cells [.v (.int .i64 0),.v (.string (ByteArray.mk #[])),.v (.string (ByteArray.mk #[])),.v (.int .i64 0),.v (.int .i64 0),.v (.string (ByteArray.mk #[])),.v (.bool false),.v (.int .i64 0),.v (.int .i64 0)] 38)]⟩ (Cm 13 (Ct f13)) (QB prog f13 w (λe u=>e=.returned (Gd Rr)/\Bw w u)))(f:Nat->Value):VOk prog w ⟨(.v (.string (AB b))::.v (f 1)::.p 2 0::.p 3 0::.v (f 4)::.p 5 0::.v (f 6)::.v (f 7)::.v (f 8)::.v (f 9)::.v (.string (AB (Az (AC [2] n0))))::.v (f 11)::.v (.int .i64 (CX n0))::.v (.int .i64 (Cl n0))::.p 14 0::fv f 122 15 []),AJ [(14,.cells [.v (.int .i64 (Ax (AC [1] (AC [0] n0)))),.v (.string (AB (Az (AC [3,0,1] (AC [0] n0))))),.v (.string (AB (Az (AC [5,0,1] (AC [0] n0))))),.v (.int .i64 (Ax (AC [4,0] (AC [0] n0)))),.v (.int .i64 (Ax (AC [4,1] (AC [0] n0)))),.v (.string (AB (BO (AC [6,1] (AC [0] n0))))),.v (.bool g),.v (.int .i64 y),.v (.int .i64 0)] 38),(5,.cells (zs 64) 22),(3,.cells (zs 64) 22),(2,.cells [.v (.int .i64 0),.v (.string (ByteArray.mk #[])),.v (.string (ByteArray.mk #[])),.v (.int .i64 0),.v (.int .i64 0),.v (.string (ByteArray.mk #[])),.v (.bool false),.v (.int .i64 0),.v (.int .i64 0)] 38)]⟩ (Cm 11 (Ct f13)) (QB prog f13 w (λe u=>e=.returned (Gd Rr)/\Bw w u)):=by
 try simp only[fv,zs,Nat.reduceAdd]
 obtain⟨a,h⟩:∃p,decide (CX n0<0)=p:=⟨_,rfl⟩
 obtain⟨o,h_b⟩:∃p,decide (CX n0>3)=p:=⟨_,rfl⟩
 obtain⟨d,j⟩:∃p,decide (Cl n0<0)=p:=⟨_,rfl⟩
 obtain⟨e,k⟩:∃p,decide (Cl n0>3)=p:=⟨_,rfl⟩
 iterate 2 refine aT ?_
 have h3:(a=false/\o=false/\d=false/\e=false)\/(a=true\/(a=false/\o=true)\/(a=false/\o=false/\d=true)\/(a=false/\o=false/\d=false/\e=true)):=by cases a<;>cases o<;>cases d<;>cases e<;>simp
 rcases h3 with⟨rfl,rfl,rfl,rfl⟩|h3
 .have s:0<=CX n0/\CX n0<=3:=by have:=yC h;have:=yC h_b;omega
  have q:0<=Cl n0/\Cl n0<=3:=by have:=yC j;have:=yC k;omega
  iterate 2 refine AA ?_
  refine AX (by exact BM rfl gg rfl rfl h) ?_;iterate 2 refine AA ?_
  refine Dz ?_;iterate 2 refine AA ?_
  refine AX (by first|exact Ev.skip (λ_=>rfl)|exact BM rfl (λ_=>rfl) rfl rfl j) ?_;refine k_9 ?_;iterate 2 refine AA ?_
  refine AX (by first|exact Ev.skip (λ_=>rfl)|exact BV rfl (λ_=>rfl) rfl rfl k) ?_;refine k_9 ?_;iterate 7 refine AA ?_
  refine AX (by exact AK rfl gg rfl rfl (λw=>lW q.1 q.2 _ _ w)) ?_;refine AX (by exact AK rfl gg rfl rfl (λw=>rj q.1 q.2 s.1 s.2 _ _ w)) ?_;iterate 2 refine AA ?_
  refine aT ?_;refine Ea (λi=>i==0||i==2||i==3||i==5||i==10||i==14) [] (λf=>by simp[B0];exact rfl) (by simp[BQ];exact rfl) λf=> ?_
  exact l s q _ rfl f
 .have A:Rr=none:=r (by
   rw[Bool.and_eq_false_iff];rcases h3 with rfl|⟨rfl,rfl⟩|⟨rfl,rfl,rfl⟩|⟨rfl,rfl,rfl,rfl⟩
   .exact .inl (Bool.eq_false_iff.2 λc=>by have:=Cv.1 c;have:=yA h;omega)
   .exact .inl (Bool.eq_false_iff.2 λc=>by have:=Cv.1 c;have:=yA h_b;omega)
   .exact .inr (Bool.eq_false_iff.2 λc=>by have:=Cv.1 c;have:=yA j;omega)
   .exact .inr (Bool.eq_false_iff.2 λc=>by have:=Cv.1 c;have:=yA k;omega))
  subst A;rcases h3 with rfl|⟨rfl,rfl⟩|⟨rfl,rfl,rfl⟩|⟨rfl,rfl,rfl,rfl⟩<;>
  (
   iterate 2 refine AA ?_
   refine AX (by exact BM rfl gg rfl rfl h) ?_;iterate 2 refine AA ?_
   refine Dz ?_;iterate 2 refine AA ?_
   refine AX (by first|exact Ev.skip (λ_=>rfl)|exact BM rfl (λ_=>rfl) rfl rfl j) ?_;refine k_9 ?_;iterate 2 refine AA ?_
   refine AX (by first|exact Ev.skip (λ_=>rfl)|exact BV rfl (λ_=>rfl) rfl rfl k) ?_;refine k_9 ?_;iterate 4 refine aT ?_
   refine KQ ?_;iterate 5 refine AA ?_
   exact AG (AD (BX results13 (Am rfl rfl zY rfl z9 rfl) (Ac rfl rfl y9 rfl zI rfl rfl) (AF rfl)) λ_ _ z=>⟨rfl,z.1⟩)
  )
theorem fo{c:Crt}(h8:∀x∈b,x<256)(j:n0.ok)(i:1<=(Az (AC [2] n0)).length)(u0:0<=c.us)(um:c.us<=15)(i8:∀x∈c.is,x<256)(il:c.is.length<=1048576)(s8:∀x∈c.su,x<256)(sl:c.su.length<=1048576)(k8:∀x∈c.ky,x<256)(d:Rr=GF c b (sgT (BO (AC [2] n0))))(f:Nat->Value):VOk prog w ⟨(.v (.string (AB b))::.v (f 1)::.p 2 0::.p 3 0::.v (f 4)::.p 5 0::.v (f 6)::.v (f 7)::.v (f 8)::.v (f 9)::.v (.string (AB (Az (AC [2] n0))))::.v (f 11)::.v (f 12)::.v (f 13)::.p 14 0::fv f 122 15 []),AJ [(14,.cells [.v (.int .i64 c.se),.v (.string (AB c.is)),.v (.string (AB c.su)),.v (.int .i64 c.fr),.v (.int .i64 c.to),.v (.string (AB c.ky)),.v (.bool c.ca),.v (.int .i64 c.pa),.v (.int .i64 c.us)] 38),(5,.cells (zs 64) 22),(3,.cells (zs 64) 22),(2,.cells [.v (.int .i64 0),.v (.string (ByteArray.mk #[])),.v (.string (ByteArray.mk #[])),.v (.int .i64 0),.v (.int .i64 0),.v (.string (ByteArray.mk #[])),.v (.bool false),.v (.int .i64 0),.v (.int .i64 0)] 38)]⟩ (Cm 13 (Ct f13)) (QB prog f13 w (λe o=>e=.returned (Gd Rr)/\Bw w o)):=by
 try simp only[fv,zs,Nat.reduceAdd]
 have hsg:=Af [2] j;refine aT ?_;rcases h_s:sgT (BO (AC [2] n0))with _|⟨r,t⟩<;>rw[h_s]at d
 .subst d
  iterate 2 refine AA ?_
  refine AX (by exact IT (k:=1) (b':=BO (AC [2] n0)) rfl gg rfl rfl yF i rfl) ?_;refine Wv ?_;iterate 11 refine AA ?_
  refine k_9 ?_;iterate 2 refine AA ?_
  refine Oz ?_;refine Bz ?_;iterate 3 refine AA ?_
  refine O1 ?_;refine AA ?_;refine Ot ?_;refine k_9 ?_;iterate 4 refine aT ?_
  refine KQ ?_;iterate 5 refine AA ?_
  exact AG (AD (BX results13 (Am rfl rfl zY rfl z9 rfl) (Ac rfl rfl y9 rfl zI rfl rfl) (AF rfl)) λ_ _ g=>⟨rfl,g.1⟩)
 .skip
  iterate 2 refine AA ?_
  refine AX (by exact IT (k:=1) (b':=BO (AC [2] n0)) rfl gg rfl rfl yF i rfl) ?_;refine Wv ?_;iterate 9 refine AA ?_
  obtain⟨z,h_r⟩:∃z,C2 c=z:=⟨_,rfl⟩
  obtain⟨y,h_y⟩:∃y,decide ((wrT (c.whole r t)).1≠b)=y:=⟨_,rfl⟩
  have h:decide ((wrT (c.whole r t)).1=b)= !y:=by rw[<-h_y];simp
  rw[GF,h_r,h]at d;have l:z=false\/(z=true/\y=true)\/(z=true/\y=false):=by cases z<;>cases y<;>simp
  rcases l with rfl|⟨rfl,rfl⟩|⟨rfl,rfl⟩
  .simp only[IN,cond_true]at d
   subst d;iterate 2 refine AA ?_
   refine k_9 ?_;iterate 2 refine AA ?_
   refine Oz ?_;refine Bz ?_;iterate 3 refine AA ?_
   refine O1 ?_;refine AA ?_;refine Ot ?_;refine k_9 ?_;iterate 4 refine aT ?_
   refine KQ ?_;iterate 5 refine AA ?_
   exact AG (AD (BX results13 (Am rfl rfl zY rfl z9 rfl) (Ac rfl rfl y9 rfl zI rfl rfl) (AF rfl)) λ_ _ g=>⟨rfl,g.1⟩)
  .simp only[z5,IN,cond_false,cond_true]at d
   subst d;have hF:=KD i8 s8 k8 h_r;have hP:=WH h_r;iterate 2 refine AA ?_
   refine k_9 ?_;iterate 2 refine AA ?_
   refine Oz ?_;refine Bz ?_;iterate 3 refine AA ?_
   refine O1 ?_;refine AA ?_;refine Ot ?_;refine k_9 ?_;iterate 4 refine aT ?_
   refine KQ ?_;iterate 5 refine AA ?_
   exact AG (AD (BX results13 (Am rfl rfl zY rfl z9 rfl) (Ac rfl rfl y9 rfl zI rfl rfl) (AF rfl)) λ_ _ g=>⟨rfl,g.1⟩)
  .simp only[z5,IN,cond_false]at d
   subst d;have hF:=KD i8 s8 k8 h_r;have hP:=WH h_r;iterate 2 refine AA ?_
   refine k_9 ?_;iterate 2 refine AA ?_
   refine Oz ?_;refine Bz ?_;iterate 3 refine AA ?_
   refine O1 ?_;refine AA ?_;refine Ot ?_;refine k_9 ?_;iterate 5 refine aT ?_
   iterate 6 refine AA ?_
   exact AG (AD (BX results13 (Am rfl rfl zY rfl z9 rfl) (Ac rfl rfl y9 rfl zI rfl rfl) (AF rfl)) λ_ _ g=>⟨rfl,g.1⟩)
theorem Wb(o:∀x∈b,x<256)(k:b.length<=1048576):CBy 13 #[.string (AB b)] w (Gd (rdC b)):=by
 refine fu w o k (λh=>by rw[rdC,h];rfl) λn0 E v s j a f=> ?_
 have i:rdC b=Gz n0 b:=by rw[rdC,v,s,j];rfl
 refine ft w a (λh=>by rw[i,nj h]) (λl z kbd kks u f=> ?_) f;refine fq w a u (λg A r f=> ?_) f;refine fp w (λh=>by rw[i,Gz,h];rfl) (λp q c y f=> ?_) f;subst y;have d:=EY (Af [3,0,1] (Af [0] a));have e:=EY (Af [5,0,1] (Af [0] a));exact fo w o a l (by show 0<=Cl n0*4+CX n0;omega) (by show Cl n0*4+CX n0<=15;omega) d.1 d.2 e.1 e.2 (Hv (Af [6,1] (Af [0] a))) (by rw[i,Gz,Cv.2 p,Cv.2 q,r];rfl) f
theorem qa(a c d u v:Int)(b e k:ByteArray)(g:Bool):prog.built 38 [(0,.int .i64 a),(1,.string b),(2,.string e),(3,.int .i64 c),(4,.int .i64 d),(5,.string k),(6,.bool g),(7,.int .i64 u),(8,.int .i64 v)]=some #[.int .i64 a,.string b,.string e,.int .i64 c,.int .i64 d,.string k,.bool g,.int .i64 u,.int .i64 v]:=by kernel_rfl
theorem eqR(a b d u v:Int)(x y z:ByteArray)(g:Bool):BOy .eql 38 (.agg #[.int .i64 a,.string x,.string y,.int .i64 b,.int .i64 d,.string z,.bool g,.int .i64 u,.int .i64 v]) (.agg #[.int .i64 a,.string x,.string y,.int .i64 b,.int .i64 d,.string z,.bool g,.int .i64 u,.int .i64 v]) (.bool true):=by
 intro p q w
 go_simp
 try simp
end Go.Proofs.YtafbhakmkbehiaaGreatDoor
