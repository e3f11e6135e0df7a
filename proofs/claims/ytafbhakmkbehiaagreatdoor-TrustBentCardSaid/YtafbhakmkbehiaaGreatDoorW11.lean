import Derived.Laws.BitsAllLaws
import Derived.Test.YtafbhakmkbehiaaGreatDoorW9
import Derived.Test.YtafbhakmkbehiaaGreatDoorW10
open Go.Proofs.Tryz
set_option maxHeartbeats 4000000
set_option maxRecDepth 100000
namespace Go.Proofs.YtafbhakmkbehiaaGreatDoor
section
open Go.RowKit Go.Toll
variable(w:World){n x y:Nat}
open TollMont
open TollEc (F pp cb Pt Au add base nn)
theorem nPV(p:Pt):Value.cells (PV p)=#[.int .u8 (byt (xv p) 0:Nat),.int .u8 (byt (xv p) 1:Nat),.int .u8 (byt (xv p) 2:Nat),.int .u8 (byt (xv p) 3:Nat),.int .u8 (byt (xv p) 4:Nat),.int .u8 (byt (xv p) 5:Nat),.int .u8 (byt (xv p) 6:Nat),.int .u8 (byt (xv p) 7:Nat),.int .u8 (byt (xv p) 8:Nat),.int .u8 (byt (xv p) 9:Nat),.int .u8 (byt (xv p) 10:Nat),.int .u8 (byt (xv p) 11:Nat),.int .u8 (byt (xv p) 12:Nat),.int .u8 (byt (xv p) 13:Nat),.int .u8 (byt (xv p) 14:Nat),.int .u8 (byt (xv p) 15:Nat),.int .u8 (byt (xv p) 16:Nat),.int .u8 (byt (xv p) 17:Nat),.int .u8 (byt (xv p) 18:Nat),.int .u8 (byt (xv p) 19:Nat),.int .u8 (byt (xv p) 20:Nat),.int .u8 (byt (xv p) 21:Nat),.int .u8 (byt (xv p) 22:Nat),.int .u8 (byt (xv p) 23:Nat),.int .u8 (byt (xv p) 24:Nat),.int .u8 (byt (xv p) 25:Nat),.int .u8 (byt (xv p) 26:Nat),.int .u8 (byt (xv p) 27:Nat),.int .u8 (byt (xv p) 28:Nat),.int .u8 (byt (xv p) 29:Nat),.int .u8 (byt (xv p) 30:Nat),.int .u8 (byt (xv p) 31:Nat),.int .u8 (byt (yv p) 0:Nat),.int .u8 (byt (yv p) 1:Nat),.int .u8 (byt (yv p) 2:Nat),.int .u8 (byt (yv p) 3:Nat),.int .u8 (byt (yv p) 4:Nat),.int .u8 (byt (yv p) 5:Nat),.int .u8 (byt (yv p) 6:Nat),.int .u8 (byt (yv p) 7:Nat),.int .u8 (byt (yv p) 8:Nat),.int .u8 (byt (yv p) 9:Nat),.int .u8 (byt (yv p) 10:Nat),.int .u8 (byt (yv p) 11:Nat),.int .u8 (byt (yv p) 12:Nat),.int .u8 (byt (yv p) 13:Nat),.int .u8 (byt (yv p) 14:Nat),.int .u8 (byt (yv p) 15:Nat),.int .u8 (byt (yv p) 16:Nat),.int .u8 (byt (yv p) 17:Nat),.int .u8 (byt (yv p) 18:Nat),.int .u8 (byt (yv p) 19:Nat),.int .u8 (byt (yv p) 20:Nat),.int .u8 (byt (yv p) 21:Nat),.int .u8 (byt (yv p) 22:Nat),.int .u8 (byt (yv p) 23:Nat),.int .u8 (byt (yv p) 24:Nat),.int .u8 (byt (yv p) 25:Nat),.int .u8 (byt (yv p) 26:Nat),.int .u8 (byt (yv p) 27:Nat),.int .u8 (byt (yv p) 28:Nat),.int .u8 (byt (yv p) 29:Nat),.int .u8 (byt (yv p) 30:Nat),.int .u8 (byt (yv p) 31:Nat)]:=rfl
theorem nm3:type_of%nm2/\type_of%nPV:=⟨nm2,nPV⟩
theorem sw{f g:Nat}(l:x<R)(m:y<R)(c:f<R)(e:g<R){s:Pt}(h:add (toP x y) (toP f g)=s)(w:World)(j:Laid w):CGy 84 #[PT x y,PT f g] w (PV s):=by
 have:=ss l m c e w j;rw[TollEc.jadd_rep _ _ (by rw[KY];exact N4 _ _) (by rw[KY];exact N4 _ _),KY,KY,h]at this;exact this
theorem s9{p q s:Pt}(h:add p q=s)(e:p.on)(f:q.on)(w:World)(c:Laid w):CGy 84 #[PV p,PV q] w (PV s):=
 sw (Hd p) (Nz p) (Hd q) (Nz q) (by rw[Q7 e,Q7 f];exact h) w c
theorem cj(c:n<R)(f:x<R)(g:y<R){s:Pt}(h:Au n (toP x y)=s)(w:World)(e:Laid w):CGy 85 #[B32 n,PT x y] w (PV s):=by
 have:=sF c f g w e;rw[TollEc.ladder_all n (show n<2^256 from c) _ (by rw[KY];exact N4 _ _),KY,h]at this;exact this
theorem Ui{p s:Pt}(e:n<R)(h:Au n p=s)(f:p.on)(w:World)(c:Laid w):CGy 85 #[B32 n,PV p] w (PV s):=
 cj e (Hd p) (Nz p) (by rw[Q7 f];exact h) w c
theorem rP(c:Laid w):CGy 87 #[] w (PV base):=rO w c
theorem mdn:Md nn:=⟨by decide,by decide,by decide⟩
theorem o4:BOy .eql 141 (PV .inf) (Gf) (.bool true):=λa b w=>o1 rfl rfl a b w
theorem jk{p:Pt}(h:p.on):(xv p=0/\yv p=0)↔p=.inf:=by
 cases p with
 |inf=>exact⟨λ_=>rfl,λ_=>⟨rfl,rfl⟩⟩
 |aff x y=>
  refine⟨λ⟨a,b⟩=> ?_,λc=>by cases c⟩;have e:x=⟨0,by decide⟩:=Fin.ext a;have f:y=⟨0,by decide⟩:=Fin.ext b;subst e f;exact absurd (PH.2 h) (by decide+kernel)
theorem ah{p:Pt}(e:p.on)(h:p≠ .inf):BOy .eql 141 (PV p) (Gf) (.bool false):=λa b w=>
 o0 (Hd p) (Nz p) (λc=>h ((jk e).1 c)) a b w
theorem mE:lim (TollEc.bx.val) 0=17627433388654248598/\lim (TollEc.bx.val) 1=8575836109218198432/\lim (TollEc.bx.val) 2=17923454489921339634/\lim (TollEc.bx.val) 3=7716867327612699207:=by decide+kernel
theorem mD:lim (TollEc.bY.val) 0=14678990851816772085/\lim (TollEc.bY.val) 1=3156516839386865358/\lim (TollEc.bY.val) 2=10297457778147434006/\lim (TollEc.bY.val) 3=5756518291402817435:=by decide+kernel
theorem mC:lim (nn) 0=17562291160714782033/\lim (nn) 1=13611842547513532036/\lim (nn) 2=18446744073709551615/\lim (nn) 3=18446744069414584320:=by decide+kernel
theorem qR:prog.built 146 [(0,.int .u64 18446744073709551615),(1,.int .u64 4294967295),(2,.int .u64 0),(3,.int .u64 18446744069414584321)]=some #[.int .u64 18446744073709551615,.int .u64 4294967295,.int .u64 0,.int .u64 18446744069414584321]:=by kernel_rfl
theorem Yq:lim (pp) 0=18446744073709551615/\lim (pp) 1=4294967295/\lim (pp) 2=0/\lim (pp) 3=18446744069414584321:=by decide+kernel
theorem pV:CGy 161 #[] w (.agg #[.int .u64 18446744073709551615,.int .u64 4294967295,.int .u64 0,.int .u64 18446744069414584321]):=by
 go_enter func161,ntmps161
 refine Io ?_
 refine Iq ?_;iterate 3 refine iN ?_
 refine DU (by exact A6 rfl gg rfl qR) ?_;refine Ir ?_;refine Dn ?_;refine AD (AH results161 (Ac rfl rfl underlying146 rfl sizeOf146 rfl rfl)) ?_;intro e c;exact⟨rfl,c⟩
theorem c_P:CGy 161 #[] w (N (pp)):=by
 have h:=pV w;obtain⟨c,f,g,j⟩:=Yq;have e:(.agg #[.int .u64 18446744073709551615,.int .u64 4294967295,.int .u64 0,.int .u64 18446744069414584321]:Value)=N (pp):=by unfold N;rw[c,f,g,j];rfl
 rw[e]at h;exact h
theorem qQ:prog.built 146 [(0,.int .u64 4309448131093880907),(1,.int .u64 7285987128567378166),(2,.int .u64 12964664127075681980),(3,.int .u64 6540974713487397863)]=some #[.int .u64 4309448131093880907,.int .u64 7285987128567378166,.int .u64 12964664127075681980,.int .u64 6540974713487397863]:=by kernel_rfl
theorem Yp:lim (cb.val) 0=4309448131093880907/\lim (cb.val) 1=7285987128567378166/\lim (cb.val) 2=12964664127075681980/\lim (cb.val) 3=6540974713487397863:=by decide+kernel
theorem pU:CGy 166 #[] w (.agg #[.int .u64 4309448131093880907,.int .u64 7285987128567378166,.int .u64 12964664127075681980,.int .u64 6540974713487397863]):=by
 go_enter func166,ntmps166
 refine Io ?_
 refine Iq ?_;iterate 3 refine iN ?_
 refine DU (by exact A6 rfl gg rfl qQ) ?_;refine Ir ?_;refine Dn ?_;refine AD (AH results166 (Ac rfl rfl underlying146 rfl sizeOf146 rfl rfl)) ?_;intro e c;exact⟨rfl,c⟩
theorem c_B:CGy 166 #[] w (N (cb.val)):=by
 have h:=pU w;obtain⟨c,f,g,j⟩:=Yp;have e:(.agg #[.int .u64 4309448131093880907,.int .u64 7285987128567378166,.int .u64 12964664127075681980,.int .u64 6540974713487397863]:Value)=N (cb.val):=by unfold N;rw[c,f,g,j];rfl
 rw[e]at h;exact h
theorem qi:prog.built 146 [(0,.int .u64 3)]=some #[.int .u64 3,.int .u64 0,.int .u64 0,.int .u64 0]:=by kernel_rfl
theorem V8(n:Nat)(c:n<R)(w:World):CGy 112 #[B32 n] w (N n):=by
 have h:=gD (An (lim n 3) 56) (An (lim n 3) 48) (An (lim n 3) 40) (An (lim n 3) 32) (An (lim n 3) 24) (An (lim n 3) 16) (An (lim n 3) 8) (An (lim n 3) 0) (An (lim n 2) 56) (An (lim n 2) 48) (An (lim n 2) 40) (An (lim n 2) 32) (An (lim n 2) 24) (An (lim n 2) 16) (An (lim n 2) 8) (An (lim n 2) 0) (An (lim n 1) 56) (An (lim n 1) 48) (An (lim n 1) 40) (An (lim n 1) 32) (An (lim n 1) 24) (An (lim n 1) 16) (An (lim n 1) 8) (An (lim n 1) 0) (An (lim n 0) 56) (An (lim n 0) 48) (An (lim n 0) 40) (An (lim n 0) 32) (An (lim n 0) 24) (An (lim n 0) 16) (An (lim n 0) 8) (An (lim n 0) 0) w
 have e:F1 (lwF (AS (lim n 3) 56)) (lwF (AS (lim n 3) 48)) (lwF (AS (lim n 3) 40)) (lwF (AS (lim n 3) 32)) (lwF (AS (lim n 3) 24)) (lwF (AS (lim n 3) 16)) (lwF (AS (lim n 3) 8)) (lwF (AS (lim n 3) 0)) (lwF (AS (lim n 2) 56)) (lwF (AS (lim n 2) 48)) (lwF (AS (lim n 2) 40)) (lwF (AS (lim n 2) 32)) (lwF (AS (lim n 2) 24)) (lwF (AS (lim n 2) 16)) (lwF (AS (lim n 2) 8)) (lwF (AS (lim n 2) 0)) (lwF (AS (lim n 1) 56)) (lwF (AS (lim n 1) 48)) (lwF (AS (lim n 1) 40)) (lwF (AS (lim n 1) 32)) (lwF (AS (lim n 1) 24)) (lwF (AS (lim n 1) 16)) (lwF (AS (lim n 1) 8)) (lwF (AS (lim n 1) 0)) (lwF (AS (lim n 0) 56)) (lwF (AS (lim n 0) 48)) (lwF (AS (lim n 0) 40)) (lwF (AS (lim n 0) 32)) (lwF (AS (lim n 0) 24)) (lwF (AS (lim n 0) 16)) (lwF (AS (lim n 0) 8)) (lwF (AS (lim n 0) 0))=n:=by
  unfold F1;rw[He _ (AZ n 0),He _ (AZ n 1),He _ (AZ n 2),He _ (AZ n 3),Nat.mul_zero,Nat.add_zero];exact(Ek c).symm
 rw[e]at h;exact h
theorem gH(x y:F)(w:World):CGy 163 #[NF x,NF y,N pp] w (NF (x*y)):=gF mdp (B7 x) (B7 y) w
theorem ib(x y:F)(w:World):CGy 164 #[NF x,NF y,N pp] w (NF (x+y)):=jP mdp (B7 x) (B7 y) w
theorem fj(x y:F)(w:World):CGy 165 #[NF x,NF y,N pp] w (NF (x-y)):=by
 have:=i7 mdp (B7 x) (B7 y) w;rw[<-Vi]at this;exact this
theorem fi(x:F)(w:World):CGy 165 #[NF x,.agg #[.int .u64 3,.int .u64 0,.int .u64 0,.int .u64 0],N pp] w (NF (x-3)):=by
 have:=fj x 3 w;rw[dB]at this;exact this
theorem o5(x y:F):BOy .eql 146 (NF x) (NF y) (.bool (decide (x=y))):=by
 intro p q w
 have:=NX 146 (.inr rfl) (lv x 0) (lv x 1) (lv x 2) (lv x 3) (lv y 0) (lv y 1) (lv y 2) (lv y 3) p q w;have e:decide (lv x 0=lv y 0/\lv x 1=lv y 1/\lv x 2=lv y 2/\lv x 3=lv y 3)=decide (x=y):=zM.2 ⟨λ⟨a,b,c,d⟩=>Fin.ext (JI (B7 x) (B7 y) a b c d),λh=>by rw[h];exact⟨rfl,rfl,rfl,rfl⟩⟩;rw[e]at this;exact this
theorem Rv(c:n<R)(h:n<pp)(w:World):CGy 162 #[N n,N pp] w (.bool true):=by
 have:=Of n pp c (by decide) w;rw[yE h]at this;exact this
theorem WA(c:n<R)(h: ¬n<pp)(w:World):CGy 162 #[N n,N pp] w (.bool false):=by
 have:=Of n pp c (by decide) w;rw[yB h]at this;exact this
theorem jJ(l:x<R)(_hy:y<R)(w:World)(h: ¬x<pp):CGy 111 #[N x,N y] w (.bool false):=by
 go_enter func111,ntmps111
 refine Dl ?_;iterate 8 refine GW ?_
 refine RA ?_;refine Iq ?_;refine Ir ?_;iterate 4 refine iN ?_
 iterate 2 refine HG ?_
 refine DU (by exact AM (v:=.bool false) rfl gg rfl (eo func162) (λe j=>WA l h e)) ?_;iterate 2 refine GW ?_
 iterate 2 refine RU ?_
 refine DU (by first|exact Ev.skip (λ_=>rfl)|refine D6 (λ_=>rfl) (λρ w=>by simp only[VS.act,SV.c,List.map_cons,List.map_nil];go_simp;exact rfl) (λ_ _=>rfl)) ?_;refine DU (by first|exact Ev.skip (λ_=>rfl)|exact D7 rfl (λ_=>rfl) rfl) ?_;iterate 7 refine GW ?_
 refine AG ?_;refine AD (AH results111 (AF rfl)) ?_;intro e g;exact⟨rfl,g⟩
theorem jI(l:x<R)(m:y<R)(w:World)(h:x<pp)(g: ¬y<pp):CGy 111 #[N x,N y] w (.bool false):=by
 go_enter func111,ntmps111
 refine Dl ?_;iterate 8 refine GW ?_
 refine RA ?_;refine Iq ?_;refine Ir ?_;iterate 4 refine iN ?_
 iterate 2 refine HG ?_
 refine DU (by exact AM (v:=.bool true) rfl gg rfl (eo func162) (λc e=>Rv l h c)) ?_;iterate 2 refine GW ?_
 iterate 2 refine RU ?_
 refine DU (by first|exact Ev.skip (λ_=>rfl)|exact AM (v:=.bool false) rfl (λ_=>rfl) rfl (eo func162) (λc e=>WA m g c)) ?_;refine DU (by first|exact Ev.skip (λ_=>rfl)|exact D7 rfl (λ_=>rfl) rfl) ?_;iterate 7 refine GW ?_
 refine AG ?_;refine AD (AH results111 (AF rfl)) ?_;intro c j;exact⟨rfl,j⟩
theorem jL(x y:F)(w:World):CGy 111 #[NF x,NF y] w (.bool (onF x y)):=by
 go_enter func111,ntmps111
 refine Dl ?_;iterate 8 refine GW ?_
 refine RA ?_;refine Iq ?_;refine Ir ?_;iterate 4 refine iN ?_
 iterate 2 refine HG ?_
 refine DU (by exact AM (v:=.bool true) rfl gg rfl (eo func162) (λc e=>Rv (B7 x) x.isLt c)) ?_;iterate 2 refine GW ?_
 iterate 2 refine RU ?_
 refine DU (by first|exact Ev.skip (λ_=>rfl)|exact AM (v:=.bool true) rfl (λ_=>rfl) rfl (eo func162) (λc e=>Rv (B7 y) y.isLt c)) ?_;refine DU (by first|exact Ev.skip (λ_=>rfl)|exact D7 rfl (λ_=>rfl) rfl) ?_;iterate 6 refine GW ?_
 iterate 3 refine HG ?_
 refine RB ?_;refine Iq ?_;refine Ir ?_;iterate 3 refine iN ?_
 iterate 3 refine HG ?_
 refine RB ?_;refine DU (by exact A6 rfl gg rfl qi) ?_;refine HG ?_;refine DU (by exact AM rfl gg rfl (eo func165) (λc e=>fi _ c)) ?_;iterate 2 refine HG ?_
 refine RB ?_;refine DU (by exact AM rfl gg rfl (eo func166) (λc e=>c_B c)) ?_;refine HG ?_;refine DU (by exact AM rfl gg rfl (eo func164) (λc e=>ib _ cb c)) ?_;refine Iq ?_;refine Ir ?_;iterate 3 refine iN ?_
 iterate 2 refine HG ?_
 refine DU (by exact AK rfl gg rfl rfl (λw=>o5 _ _ _ _ w)) ?_;iterate 2 refine GW ?_
 refine AG ?_;refine AD (AH results111 (AF rfl)) ?_;intro c g;exact⟨rfl,g⟩
theorem jK(g:x<R)(h:y<R)(w:World):CGy 111 #[N x,N y] w (.bool (onB x y)):=by
 by_cases e:x<pp
 .by_cases f:y<pp
  .rw[show onB x y=onF ⟨x,e⟩ ⟨y,f⟩ from dif_pos ⟨e,f⟩];exact jL ⟨x,e⟩ ⟨y,f⟩ w
  .rw[show onB x y=false from dif_neg (λc=>f c.2)];exact jI g h w e f
 .rw[show onB x y=false from dif_neg (λc=>e c.1)];exact jJ g h w e
end
section
open Go.RowKit Go.Vx
variable(w:World){cap:Array Value}{fid:FuncId}{t:Int}{b bs r rd:List Nat}{xs:List Value}{a b0 d i k n x y:Nat}{p:Nat->Bool}{ρ:Nat->Nm}{S:Nat->Prop}{α:Type}{bv kv v:Value}
open TollMont
open TollEc (F pp cb Pt Au add base nn)
theorem nmx:type_of%Go.Vx.nm/\type_of%nNF/\type_of%nTF/\type_of%PN/\type_of%nPT/\type_of%nFV/\type_of%nN/\type_of%nPV:=⟨Go.Vx.nm,nNF,nTF,PN,nPT,nFV,nN,nPV⟩
def l32(n:Nat):List Value:=[.int .u8 (byt n 0:Nat),.int .u8 (byt n 1:Nat),.int .u8 (byt n 2:Nat),.int .u8 (byt n 3:Nat),.int .u8 (byt n 4:Nat),.int .u8 (byt n 5:Nat),.int .u8 (byt n 6:Nat),.int .u8 (byt n 7:Nat),.int .u8 (byt n 8:Nat),.int .u8 (byt n 9:Nat),.int .u8 (byt n 10:Nat),.int .u8 (byt n 11:Nat),.int .u8 (byt n 12:Nat),.int .u8 (byt n 13:Nat),.int .u8 (byt n 14:Nat),.int .u8 (byt n 15:Nat),.int .u8 (byt n 16:Nat),.int .u8 (byt n 17:Nat),.int .u8 (byt n 18:Nat),.int .u8 (byt n 19:Nat),.int .u8 (byt n 20:Nat),.int .u8 (byt n 21:Nat),.int .u8 (byt n 22:Nat),.int .u8 (byt n 23:Nat),.int .u8 (byt n 24:Nat),.int .u8 (byt n 25:Nat),.int .u8 (byt n 26:Nat),.int .u8 (byt n 27:Nat),.int .u8 (byt n 28:Nat),.int .u8 (byt n 29:Nat),.int .u8 (byt n 30:Nat),.int .u8 (byt n 31:Nat)]
def wb(x y:Nat):List Value:=.int .u8 4::(l32 x++l32 y)
theorem Laid.bw{w f:World}(h:Laid w)(e:Bw w f):Laid f:=⟨λj v c=>e.cell (h.bx j v c),λj v c=>e.cell (h.bY j v c),λj v c=>e.cell (h.nn j v c),λj v c=>e.cell (h.pp j v c),λj v c=>e.cell (h.cb j v c)⟩
theorem i5:DT prog 5 1 1:=by unfold DT;kernel_rfl
theorem VG:∀l:List Value,unV (l.map SV.v)=some l
 | []=>rfl
 |x::l=>by simp only[List.map_cons,unV,VG l]
theorem Qb{j w:World}{S:Nat->Nat->Prop}{m:Mem}{e:Nat}(f:RelOn j.heap.size ρ S w (restr rd m))(c:e∈rd)(h:m e=some (.cells ((Ck n).map .v) 199)):At w (ρ e).g n:=
 Rx f c h 0 (Ck n) (by rw[List.drop_zero];show unV (((Ck n).map SV.v).take (Ck n).length)=_;rw[zT (by simp)];exact VG _)
theorem dN(o:x<R)(q:y<R)(w:World)(hL:Laid w)(h:onB x y=true):CRy 103 #[PT x y] w (65) (wb x y):=by
 go_enter func103,ntmps103
 refine A4 ?_;iterate 8 refine AA ?_
 refine Pz ?_;refine AA ?_;refine AX (by exact Aj (v:=.bool true) [3] rfl gg rfl (eo func123) (λρ S g m j=>(h▸MM o q g (Qb j (by simp) rfl) (hL.bw m)).mono λ_ _ h=>⟨h.1,h.2.b⟩)) ?_;iterate 6 refine AA ?_
 refine AX (by exact BL rfl rfl gg rfl (e:=5) (l:=[.int .u8 4]) rfl (by decide) (λ_=>by kernel_rfl)) ?_;refine AX (by first|exact BG rfl gg rfl DQ rfl yR|exact BF rfl gg rfl DQ rfl yR) ?_;refine F9 ?_;refine AX (by exact Di rfl rfl gg rfl rfl rfl (Hw (l:=l32 x) rfl rfl rfl (by decide)) x7 i5 (by decide) rfl rfl (by decide) (by decide) rfl) ?_;refine AX (by first|exact BG rfl gg rfl DQ rfl yR|exact BF rfl gg rfl DQ rfl yR) ?_;refine F9 ?_;refine AX (by exact Di rfl rfl gg rfl rfl rfl (Hw (l:=l32 y) rfl rfl rfl (by decide)) x7 i5 (by decide) rfl rfl (by decide) (by decide) rfl) ?_;iterate 2 refine AA ?_
 refine AG ?_;refine AD (AH results103 (AF rfl)) ?_;intro ρ g c;exact⟨_,rfl,B8 c rfl,c.1⟩
theorem dP(l:x<R)(m:y<R)(w:World)(hL:Laid w)(h:onB x y=false):CRy 103 #[PT x y] w (0) ([]):=by
 go_enter func103,ntmps103
 refine A4 ?_;iterate 8 refine AA ?_
 refine Pz ?_;refine AA ?_;refine AX (by exact Aj (v:=.bool false) [3] rfl gg rfl (eo func123) (λρ S c g e=>(h▸MM l m c (Qb e (by simp) rfl) (hL.bw g)).mono λ_ _ h=>⟨h.1,h.2.b⟩)) ?_;iterate 7 refine AA ?_
 refine AG ?_;refine AD (AH results103 (AF rfl)) ?_;intro ρ c j;exact⟨_,rfl,I1 _ _ _ _,j.1⟩
theorem gv{l:List Value}(_hL:Laid w)(hv:AO w v n 1 l S)(e:n≠65):CBy 78 #[v] w (.tuple #[Gf,.int .i64 15]):=by
 go_enter func78,ntmps78
 refine A4 ?_;iterate 2 refine aT ?_
 iterate 7 refine AA ?_
 refine K4 ?_;refine AX (by exact BB (p:=true) rfl gg rfl rfl (yE (by omega))) ?_;iterate 2 refine AA ?_
 refine AX (by first|exact Ev.skip (λ_=>rfl)|exact C7 rfl (λ_=>rfl) rfl rfl x7 yG (by decide) (by decide)|exact DK rfl (λ_=>rfl) rfl rfl x7 yG (by decide) (by decide)) ?_;refine AX (by first|exact Ev.skip (λ_=>rfl)|exact BK rfl (λ_=>rfl) rfl rfl yL rfl rfl|exact BR rfl (λ_=>rfl) rfl yL rfl (by assumption)) ?_;refine FX ?_;iterate 5 refine AA ?_
 refine AX (by exact A6 rfl gg rfl (Jn)) ?_;iterate 3 refine AA ?_
 exact AG (AD (Av results78 (Ac rfl rfl DQ rfl uA3 rfl rfl) (AF rfl)) λ_ _ c=>⟨rfl,c.1⟩)
theorem gk{b:Nat}{l:List Value}(_hL:Laid w)(hv:AO w v 65 1 (.int .u8 (b:Nat)::l) S)(e:b≠4):CBy 78 #[v] w (.tuple #[Gf,.int .i64 15]):=by
 go_enter func78,ntmps78
 refine A4 ?_;iterate 2 refine aT ?_
 iterate 7 refine AA ?_
 refine K4 ?_;refine IM ?_;iterate 2 refine AA ?_
 refine TY ?_;refine TS ?_;refine AX (by first|exact Ev.skip (λ_=>rfl)|exact BB (p:=true) rfl (λ_=>rfl) rfl rfl (yE (by omega))) ?_;iterate 5 refine AA ?_
 refine AX (by exact A6 rfl gg rfl (Jn)) ?_;iterate 3 refine AA ?_
 exact AG (AD (Av results78 (Ac rfl rfl DQ rfl uA3 rfl rfl) (AF rfl)) λ_ _ c=>⟨rfl,c.1⟩)
theorem gm(j:x<R)(l:y<R)(w:World)(hL:Laid w)(hv:AO w v 65 1 (wb x y) S)(h:onB x y=true):CBy 78 #[v] w (.tuple #[PT x y,.int .i64 0]):=by
 go_enter func78,ntmps78
 refine A4 ?_;iterate 2 refine aT ?_
 iterate 7 refine AA ?_
 refine K4 ?_;refine IM ?_;iterate 2 refine AA ?_
 refine TY ?_;refine TS ?_;refine AX (by first|exact Ev.skip (λ_=>rfl)|exact BB (p:=false) rfl (λ_=>rfl) rfl rfl (by decide)) ?_;iterate 7 refine AA ?_
 refine AX (by exact Jh (a:=1) (b:=33) rfl gg rfl x7 yG (AW hv) rfl rfl (by decide) (by decide)) ?_;refine AX (by exact LJ rfl gg rfl yY (I2 (lo:=1) (hi:=33) (AW hv) (by decide) (by decide)) (by decide)) ?_;refine ZZ ?_;refine AA ?_;refine AX (by exact Jh (a:=33) (b:=65) rfl gg rfl x7 yG (AW hv) rfl rfl (by decide) (by decide)) ?_;refine AX (by exact LJ rfl gg rfl yY (I2 (lo:=33) (hi:=65) (AW hv) (by decide) (by decide)) (by decide)) ?_;refine Zb ?_;refine AX (by exact A6 rfl gg rfl (QU x y)) ?_;iterate 2 refine AA ?_
 iterate 4 refine aT ?_
 refine Pz ?_;refine AA ?_;refine AX (by exact Aj (v:=.bool true) [24] rfl gg rfl (eo func123) (λρ S m e c=>(h▸MM j l m (Qb c (by simp) rfl) (hL.bw e)).mono λ_ _ h=>⟨h.1,h.2.b⟩)) ?_;iterate 10 refine AA ?_
 exact AG (AD (Av results78 (Ac rfl rfl DQ rfl uA3 rfl rfl) (AF rfl)) λ_ _ g=>⟨rfl,g.1⟩)
theorem gp(j:x<R)(l:y<R)(w:World)(hL:Laid w)(hv:AO w v 65 1 (wb x y) S)(h:onB x y=false):CBy 78 #[v] w (.tuple #[Gf,.int .i64 15]):=by
 go_enter func78,ntmps78
 refine A4 ?_;iterate 2 refine aT ?_
 iterate 7 refine AA ?_
 refine K4 ?_;refine IM ?_;iterate 2 refine AA ?_
 refine TY ?_;refine TS ?_;refine AX (by first|exact Ev.skip (λ_=>rfl)|exact BB (p:=false) rfl (λ_=>rfl) rfl rfl (by decide)) ?_;iterate 7 refine AA ?_
 refine AX (by exact Jh (a:=1) (b:=33) rfl gg rfl x7 yG (AW hv) rfl rfl (by decide) (by decide)) ?_;refine AX (by exact LJ rfl gg rfl yY (I2 (lo:=1) (hi:=33) (AW hv) (by decide) (by decide)) (by decide)) ?_;refine ZZ ?_;refine AA ?_;refine AX (by exact Jh (a:=33) (b:=65) rfl gg rfl x7 yG (AW hv) rfl rfl (by decide) (by decide)) ?_;refine AX (by exact LJ rfl gg rfl yY (I2 (lo:=33) (hi:=65) (AW hv) (by decide) (by decide)) (by decide)) ?_;refine Zb ?_;refine AX (by exact A6 rfl gg rfl (QU x y)) ?_;iterate 2 refine AA ?_
 iterate 4 refine aT ?_
 refine Pz ?_;refine AA ?_;refine AX (by exact Aj (v:=.bool false) [24] rfl gg rfl (eo func123) (λρ S m e c=>(h▸MM j l m (Qb c (by simp) rfl) (hL.bw e)).mono λ_ _ h=>⟨h.1,h.2.b⟩)) ?_;iterate 5 refine AA ?_
 refine AX (by exact A6 rfl gg rfl (Jn)) ?_;iterate 3 refine AA ?_
 exact AG (AD (Av results78 (Ac rfl rfl DQ rfl uA3 rfl rfl) (AF rfl)) λ_ _ g=>⟨rfl,g.1⟩)
theorem YZ(c:x<R)(e:y<R):BOy .neq 64 (B32 x) (B32 y) (.bool (decide (x≠y))):=by
 intro p q w
 unfold B32
 go_simp
 rw[T2 _ c e];by_cases h:x=y<;>simp[h,Result.andThen]
theorem YX(c:n<R)(h:n=0):BOy .neq 64 (B32 n) (.agg #[.int .u8 0,.int .u8 0,.int .u8 0,.int .u8 0,.int .u8 0,.int .u8 0,.int .u8 0,.int .u8 0,.int .u8 0,.int .u8 0,.int .u8 0,.int .u8 0,.int .u8 0,.int .u8 0,.int .u8 0,.int .u8 0,.int .u8 0,.int .u8 0,.int .u8 0,.int .u8 0,.int .u8 0,.int .u8 0,.int .u8 0,.int .u8 0,.int .u8 0,.int .u8 0,.int .u8 0,.int .u8 0,.int .u8 0,.int .u8 0,.int .u8 0,.int .u8 0]) (.bool false):=by
 intro p q w
 have:=YZ c (by decide:0<R) p q w;rw[yB (by omega)]at this;exact this
theorem YY(c:n<R)(h:n≠0):BOy .neq 64 (B32 n) (.agg #[.int .u8 0,.int .u8 0,.int .u8 0,.int .u8 0,.int .u8 0,.int .u8 0,.int .u8 0,.int .u8 0,.int .u8 0,.int .u8 0,.int .u8 0,.int .u8 0,.int .u8 0,.int .u8 0,.int .u8 0,.int .u8 0,.int .u8 0,.int .u8 0,.int .u8 0,.int .u8 0,.int .u8 0,.int .u8 0,.int .u8 0,.int .u8 0,.int .u8 0,.int .u8 0,.int .u8 0,.int .u8 0,.int .u8 0,.int .u8 0,.int .u8 0,.int .u8 0]) (.bool true):=by
 intro p q w
 have:=YZ c (by decide:0<R) p q w;rw[yE (by omega)]at this;exact this
def sec(a:Nat):Bool:=decide (a≠0/\a<nn)
theorem fZ(e:a<R)(w:World)(_hL:Laid w)(h:a=0):CBy 102 #[B32 a] w (.bool false):=by
 go_enter func102,ntmps102
 refine A4 ?_;iterate 8 refine AA ?_
 refine k_9 ?_;refine AX (by exact AK (c:=.bool false) rfl gg rfl rfl (λw=>YX e h _ _ w)) ?_;iterate 2 refine AA ?_
 refine FX ?_;refine AA ?_;refine FX ?_;iterate 3 refine AA ?_
 exact AG (AD (AH results102 (AF rfl)) λ_ _ f=>⟨rfl,f.1⟩)
theorem fb(ha:a<R)(w:World)(e:Laid w)(h:a≠0):CBy 102 #[B32 a] w (.bool (decide (a<nn))):=by
 go_enter func102,ntmps102
 refine A4 ?_;iterate 8 refine AA ?_
 refine k_9 ?_;refine AX (by exact AK (c:=.bool true) rfl gg rfl rfl (λw=>YY ha h _ _ w)) ?_;iterate 2 refine AA ?_
 refine AX (by first|exact Ev.skip (λ_=>rfl)|exact AM rfl (λ_=>rfl) rfl (eo zZ) (λl j=>ofN a ha l)) ?_;refine AX (by first|exact Ev.skip (λ_=>rfl)|exact A2 rfl (λ_=>rfl) rfl y8 rfl zD (e.nn) rfl) ?_;refine ZX ?_;iterate 3 refine AA ?_
 exact AG (AD (AH results102 (AF rfl)) λ_ _ g=>⟨rfl,g.1⟩)
theorem fa(g:a<R)(w:World)(f:Laid w):CBy 102 #[B32 a] w (.bool (sec a)):=by
 by_cases h:a=0
 .have e:sec a=false:=yB (λc=>c.1 h)
  rw[e];exact fZ g w f h
 .have e:sec a=decide (a<nn):=by unfold sec;simp[h]
  rw[e];exact fb g w f h
def wl:Pt->List Value
 | .inf=>[]
 | .aff x y=>wb x.val y.val
theorem dM{p:Pt}(e:p.on)(w:World)(c:Laid w):CRy 103 #[PV p] w ((wl p).length) (wl p):=by
 cases p with
 |inf=>exact dP (x:=0) (y:=0) (by decide) (by decide) w c (by decide+kernel)
 |aff x y=>exact dN (B7 x) (B7 y) w c ((dif_pos ⟨x.isLt,y.isLt⟩).trans (PH.2 e))
theorem dR(p:Pt):(wl p).length=(wl p).length*1:=(yQ _).symm
theorem jm(l:a<R){q:Pt}(w:World)(hL:Laid w)(h:sec a=true)(o:Au a base=q)(s:q.on):Calls prog 56 #[B32 a] w λe c=> ∃v,e=.returned (.tuple #[v,.int .i64 0])/\BN w c v ((wl q).length) 1 5 (wl q)/\Bw w c:=by
 go_enter func56,ntmps56
 refine A4 ?_;iterate 10 refine AA ?_
 refine AX (by exact Ad (v:=.bool true) rfl gg rfl (eo func102) (λc g=>h▸fa l c (hL.bw g))) ?_;iterate 7 refine AA ?_
 refine NC ?_;refine AX (by exact AM rfl gg rfl (eo func85) (λc j=>Ui l o TollEc.base_on c (hL.bw j))) ?_;refine AX (by exact Cs [] rfl rfl gg rfl (eo func103) (dR q) (λρ S c g _=>dM s c (hL.bw g))) ?_;iterate 3 refine AA ?_
 refine AG ?_;refine AD (Av results56 (AF rfl) (AF rfl)) ?_;intro ρ c m;exact⟨_,rfl,B8 m rfl,m.1⟩
theorem aj:DT prog 61 3 56:=by unfold DT;kernel_rfl
theorem o8:DT prog 71 3 48:=by unfold DT;kernel_rfl
def CB(t:Int):Bool:=decide (t=48)||(decide (t>=160) && decide (t<=163))
def Ez:List Nat->Bool
 | []=>false
 | [_]=>true
 |b0::b1::_=> !((decide (b0=0) && decide (b1<128))||(decide (b0=255) && decide (b1>=128)))
def plainB(b:Nat):Bool:=decide (b<32)||decide (b>126)
def JB(b:List Nat):Bool:= !b.any plainB
theorem CM(a c:Nat):decide ((a:Int)=(c:Int))=decide (a=c):=zM.2 (by omega)
theorem Ej(a c:Nat):decide ((a:Int)>=(c:Int))=decide (a>=c):=zM.2 (by omega)
theorem S4(t:Int)(w:World):CBy 91 #[.int .i64 t] w (.bool (CB t)):=by
 unfold CB;obtain⟨h,c⟩:∃p,decide (t=48)=p:=⟨_,rfl⟩
 obtain⟨p2,e⟩:∃p,decide (t>=160)=p:=⟨_,rfl⟩
 obtain⟨j,f⟩:∃p,decide (t<=163)=p:=⟨_,rfl⟩
 rw[c,e,f]
 go_enter func91,ntmps91
 refine A4 ?_;cases h<;>cases p2<;>cases j<;>
 (
  iterate 7 refine aT ?_
  refine iD (by exact Ag rfl gg rfl rfl c) ?_;iterate 2 refine aT ?_
  refine iD (by first|exact Ev.skip (λ_=>rfl)|exact B4 rfl (λ_=>rfl) rfl rfl e) ?_;iterate 2 refine aT ?_
  refine iD (by first|exact Ev.skip (λ_=>rfl)|exact LG rfl (λ_=>rfl) rfl rfl f) ?_;iterate 4 refine aT ?_
  exact AG (AD (AH results91 (AF rfl)) λ_ _ g=>⟨rfl,g.1⟩)
 )
theorem Ru(t:Int)(w:World):CBy 100 #[.int .i64 t] w (.bool (CB t)):=by
 unfold CB;obtain⟨h,c⟩:∃p,decide (t=48)=p:=⟨_,rfl⟩
 obtain⟨p2,e⟩:∃p,decide (t>=160)=p:=⟨_,rfl⟩
 obtain⟨j,f⟩:∃p,decide (t<=163)=p:=⟨_,rfl⟩
 rw[c,e,f]
 go_enter func100,ntmps100
 refine A4 ?_;cases h<;>cases p2<;>cases j<;>
 (
  iterate 7 refine aT ?_
  refine iD (by exact Ag rfl gg rfl rfl c) ?_;iterate 2 refine aT ?_
  refine iD (by first|exact Ev.skip (λ_=>rfl)|exact B4 rfl (λ_=>rfl) rfl rfl e) ?_;iterate 2 refine aT ?_
  refine iD (by first|exact Ev.skip (λ_=>rfl)|exact LG rfl (λ_=>rfl) rfl rfl f) ?_;iterate 4 refine aT ?_
  exact AG (AD (AH results100 (AF rfl)) λ_ _ g=>⟨rfl,g.1⟩)
 )
theorem kG(b:Nat)(w:World):CBy 178 #[b8 b] w (.bool (plainB b)):=by
 unfold plainB;obtain⟨g,c⟩:∃p,decide (b<32)=p:=⟨_,rfl⟩
 obtain⟨p2,e⟩:∃p,decide (b>126)=p:=⟨_,rfl⟩
 rw[c,e];rw[<-CL b 32]at c;rw[<-Cr b 126]at e
 go_enter func178,ntmps178
 refine A4 ?_;cases g<;>cases p2<;>
 (
  iterate 7 refine aT ?_
  refine iD (by exact D8 rfl gg rfl rfl c) ?_;iterate 2 refine aT ?_
  refine iD (by first|exact Ev.skip (λ_=>rfl)|exact BV rfl (λ_=>rfl) rfl rfl e) ?_;iterate 3 refine aT ?_
  exact AG (AD (AH results178 (AF rfl)) λ_ _ f=>⟨rfl,f.1⟩)
 )
theorem U9{l:List Value}(e:n<2)(w:World)(hv:AO w v n 1 l S):CBy 145 #[v] w (.bool (decide (n=1))):=by
 go_enter func145,ntmps145
 refine A4 ?_;iterate 8 refine aT ?_
 refine CU ?_;refine K8 ?_;iterate 5 refine aT ?_
 refine CU ?_;refine iD (by exact Ag rfl gg rfl rfl (CM n 1)) ?_;iterate 2 refine aT ?_
 exact AG (AD (AH results145 (AF rfl)) λ_ _ c=>⟨rfl,c.1⟩)
theorem dV{h:Nat}{l:List Value}(s:2<=n)(w:World)(hv:AO w v n 1 (b8 b0::b8 h::l) S):CBy 145 #[v] w (.bool (!((decide (b0=0) && decide (h<128))||(decide (b0=255) && decide (h>=128))))):=by
 obtain⟨m,c⟩:∃p,decide (b0=0)=p:=⟨_,rfl⟩
 obtain⟨p2,e⟩:∃p,decide (h<128)=p:=⟨_,rfl⟩
 obtain⟨o,f⟩:∃p,decide (b0=255)=p:=⟨_,rfl⟩
 obtain⟨q,g⟩:∃p,decide (h>=128)=p:=⟨_,rfl⟩
 rw[c,e,f,g];rw[<-CM b0 0]at c;rw[<-CL h 128]at e;rw[<-CM b0 255]at f;rw[<-Ej h 128]at g
 go_enter func145,ntmps145
 refine A4 ?_;cases m<;>cases p2<;>cases o<;>cases q<;>
 (
  iterate 8 refine aT ?_
  refine CU ?_;refine HP ?_;iterate 6 refine aT ?_
  refine iD (by exact Bc (k:=0) rfl gg rfl rfl x7 yG (AW hv) (by omega) (by decide)) ?_;refine JW ?_;refine iD (by exact Ag rfl gg rfl rfl c) ?_;iterate 2 refine aT ?_
  refine ZP ?_;refine Py ?_;refine iD (by first|exact Ev.skip (λ_=>rfl)|exact D8 rfl (λ_=>rfl) rfl rfl e) ?_;iterate 3 refine aT ?_
  refine iD (by first|exact Ev.skip (λ_=>rfl)|exact Bc (k:=0) rfl (λ_=>rfl) rfl rfl x7 yG (AW hv) (by omega) (by decide)) ?_;refine Py ?_;refine iD (by first|exact Ev.skip (λ_=>rfl)|exact Ag rfl (λ_=>rfl) rfl rfl f) ?_;iterate 2 refine aT ?_
  refine ZP ?_;refine Py ?_;refine iD (by first|exact Ev.skip (λ_=>rfl)|exact Ew rfl (λ_=>rfl) rfl rfl g) ?_;iterate 5 refine aT ?_
  exact AG (AD (AH results145 (AF rfl)) λ_ _ j=>⟨rfl,j.1⟩)
 )
def EU(p:Nat->Bool):List Nat->Nat->Int
 | [],_=> -1
 |b::r,k=>if p b then(k:Nat)else EU p r (k+1)
theorem Zx(p:Nat->Bool):∀(l:List Nat) (k:Nat),decide (EU p l k>=0)=l.any p
 | [],k=>by simp[EU]
 |b::r,k=>by
  by_cases h:p b=true
  .have e:EU p (b::r) k=(k:Nat):=x9 h
   rw[e,List.any_cons,h,Bool.true_or];exact yE (by omega)
  .have e:EU p (b::r) k=EU p r (k+1):=x8 h
   rw[e,Zx p r (k+1),List.any_cons];simp[h]
theorem EV{l:List α}(h:i<l.length):∃x,l[i]? =some x:=⟨l[i],zK h⟩
theorem Bj{l:List α}{x:α}(h:l[i]? =some x):l.drop i=x::l.drop (i+1):=by
 obtain⟨c,e⟩:=uD0.1 h;rw[List.drop_eq_getElem_cons c,e]
theorem JH{b:Nat}(h:bs[i]? =some b):(bs.map b8)[i]? =some (b8 b):=by rw[zC,h];rfl
theorem Yx{w:World}{c:Nat}{l:List Value}(h:AO w v n c l S)(_hs:0<c)(_hm:True):l.length=n*c:=by
 obtain⟨_,_,_,_,h,_⟩:=h;exact h
theorem nG(hv:AO w v bs.length 1 (bs.map b8) S)(E:bs.length<9223372036854775807)(C:∀args w,(callFunc fid args).run prog w=.ok (.enter fid args) w)(B:∀b∈bs,∀j,Bw w j->Calls prog fid (#[]++[b8 b].toArray++cap) j λe A=>e=.returned (.bool (p b))/\Bw j A):CBy 190 #[v,.func (.func fid) #[] cap] w (.int .i64 (EU p bs 0)):=by
 go_enter func190,ntmps190
 refine A4 ?_;iterate 8 refine aT ?_
 refine CU ?_;iterate 3 refine aT ?_
 refine Bo (α:={i:Nat // i<=bs.length/\EU p bs 0=EU p (bs.drop i) i}) (fun(x:{i:Nat // i<=bs.length/\EU p bs 0=EU p (bs.drop i) i}) f=>⟨.v v::.v (.func (.func fid) #[] cap)::.v (f 2)::.v (f 3)::.v (f 4)::.v (f 5)::.v v::.v (.int .i64 (bs.length:Nat))::.v (.int .i64 (x.1:Nat))::fv f 10 9 [],AJ []⟩) (λx=>bs.length-x.1) ?_ (⟨0,y6 _,rfl⟩) ?_
 .rintro⟨i,D,g⟩ f
  obtain⟨q,h_q⟩:∃q,decide ((i:Int)<(bs.length:Int))=q:=⟨_,rfl⟩
  change VOk _ _ _ _ _;simp only[fv,Nat.reduceAdd];iterate 2 refine aT ?_
  refine M9 ?_;iterate 2 refine aT ?_
  cases q
  .refine aT ?_
   have u:bs.length<=i:=by have:=yC h_q;omega
   rw[SM u]at g;refine As ?_;change VOk _ _ _ _ _;iterate 4 refine aT ?_
   refine AG ?_;refine AD (AH results190 (AF rfl)) ?_;intro ρ j o;first|(refine⟨?_,o.1⟩;rw[g];rfl)|(refine⟨?_,o.1⟩;rw[g,Bj l];simp only[EU,h];rfl)
  .refine aT ?_
   have m:i<bs.length:=by have:=yA h_q;omega
   obtain⟨b,l⟩:=EV m;obtain⟨z,h⟩:∃z,p b=z:=⟨_,rfl⟩
   iterate 13 refine aT ?_
   refine iD (by exact Bc (k:=i) rfl gg rfl rfl x7 yG (AW hv) (m) (by decide)) ?_;refine iD (by exact Cb rfl gg rfl yL rfl (AW hv) (JH l)) ?_;refine iD (by exact aa rfl gg rfl rfl C (λj s=>h▸B b (zA l) j s)) ?_;refine aT ?_;cases z
   .iterate 3 refine aT ?_
    refine ER ?_;iterate 2 refine aT ?_
    refine⟨⟨i+1,by omega,by rw[g,Bj l];simp only[EU,h];rfl⟩,by show bs.length-(i+1)<bs.length-i;omega,?_⟩;exact Ar (λi=>i==0||i==1||i==6||i==7||i==8) []
   .iterate 6 refine aT ?_
    refine AG ?_;refine AD (AH results190 (AF rfl)) ?_;intro ρ j o;first|(refine⟨?_,o.1⟩;rw[g];rfl)|(refine⟨?_,o.1⟩;rw[g,Bj l];simp only[EU,h];rfl)
 .exact Ar (λi=>i==0||i==1||i==6||i==7||i==8) []
theorem pT(u:AO w v bs.length 1 (bs.map b8) S)(q:bs.length<9223372036854775807)(o:∀args w,(callFunc fid args).run prog w=.ok (.enter fid args) w)(m:∀b∈bs,∀g,Bw w g->Calls prog fid (#[]++[b8 b].toArray++cap) g λe c=>e=.returned (.bool (p b))/\Bw g c):CBy 177 #[v,.func (.func fid) #[] cap] w (.bool (bs.any p)):=by
 go_enter func177,ntmps177
 refine A4 ?_;iterate 8 refine aT ?_
 refine iD (by exact Ad rfl gg rfl (eo func190) (λg h=>nG g (A5 u h) q o (λb j c l=>m b j c (h.trans l)))) ?_;refine iD (by exact B4 rfl gg rfl rfl (Zx p bs 0)) ?_;iterate 2 refine aT ?_
 exact AG (AD (AH results177 (AF rfl)) λ_ _ s=>⟨rfl,s.1⟩)
theorem kH(j:AO w v bs.length 1 (bs.map b8) S)(g:bs.length<9223372036854775807):CBy 148 #[v] w (.bool (JB bs)):=by
 go_enter func148,ntmps148
 refine A4 ?_;iterate 7 refine aT ?_
 refine iD (by exact Ad rfl gg rfl (eo func177) (λl e=>pT l (A5 j e) g (eo func178) (λb _ c _=>kG b c))) ?_;iterate 3 refine aT ?_
 exact AG (AD (AH results148 (AF rfl)) λ_ _ h=>⟨rfl,h.1⟩)
def Cq:Bool->List Nat->Option Bool
 |a,[]=>some a
 |a,b::r=>if a && decide (b=128)then none else Cq (decide (b<128)) r
def Da(bs:List Nat):Bool:=match Cq true bs with|none=>false|some a=>decide (bs.length>0) && a
theorem JC{a:Bool}{b:Nat}(h:(a && decide (b=128))=true):Cq a (b::r)=none:=x9 h
theorem PI{a:Bool}{b:Nat}(h:(a && decide (b=128))=false):Cq a (b::r)=Cq (decide (b<128)) r:=x8 (by simp[h])
theorem lC(hv:AO w v bs.length 1 (bs.map b8) S)(H:bs.length<9223372036854775807):CBy 147 #[v] w (.bool (Da bs)):=by
 go_enter func147,ntmps147
 refine A4 ?_;iterate 12 refine aT ?_
 refine CU ?_;iterate 3 refine aT ?_
 refine Bo (α:={x:Nat×Bool // x.1<=bs.length/\Cq true bs=Cq x.2 (bs.drop x.1)}) (fun(x:{x:Nat×Bool // x.1<=bs.length/\Cq true bs=Cq x.2 (bs.drop x.1)}) f=>⟨.v v::.v (f 1)::.v (.bool false)::.v (.bool x.1.2)::.v (f 4)::.v (f 5)::.v v::.v (.int .i64 (bs.length:Nat))::.v (.int .i64 (x.1.1:Nat))::fv f 17 9 [],AJ []⟩) (λx=>bs.length-x.1.1) ?_ (⟨(0,true),y6 _,rfl⟩) ?_
 .rintro⟨⟨i,E⟩,F,e⟩ f
  simp only at F e;obtain⟨q,h_q⟩:∃q,decide ((i:Int)<(bs.length:Int))=q:=⟨_,rfl⟩
  change VOk _ _ _ _ _;simp only[fv,Nat.reduceAdd];iterate 2 refine aT ?_
  refine M9 ?_;iterate 2 refine aT ?_
  cases q
  .refine aT ?_
   have B:bs.length<=i:=by have:=yC h_q;omega
   rw[SM B]at e;obtain⟨D,h⟩:∃D,decide (bs.length>0)=D:=⟨_,rfl⟩
   have o:=(Cr bs.length 0).trans h;cases E<;>cases D<;>
   (
    refine As ?_;change VOk _ _ _ _ _;iterate 3 refine aT ?_
    refine CU ?_;refine iD (by exact BV rfl gg rfl rfl o) ?_;iterate 5 refine aT ?_
    refine AG ?_;refine AD (AH results147 (AF rfl)) ?_;intro ρ G u
    (first|(refine⟨?_,u.1⟩;unfold Da;rw[e,Bj z,JC (by rw[g];rfl)];rfl)|(refine⟨?_,u.1⟩;unfold Da;rw[e];simp only[Cq,h];rfl))
   )
  .refine aT ?_
   have s:i<bs.length:=by have:=yA h_q;omega
   obtain⟨b,z⟩:=EV s;obtain⟨C,g⟩:∃C,decide (b=128)=C:=⟨_,rfl⟩
   obtain⟨A,j⟩:∃A,decide (b<128)=A:=⟨_,rfl⟩
   have l:=(CM b 128).trans g;have m:=(CL b 128).trans j;cases E<;>cases C<;>
   (
    iterate 5 refine aT ?_
    refine iD (by exact Bc (k:=i) rfl gg rfl rfl x7 yG (AW hv) (s) (by decide)) ?_;refine iD (by exact Cb rfl gg rfl yL rfl (AW hv) (JH z)) ?_;iterate 8 refine aT ?_
    refine iD (by first|exact Ev.skip (λ_=>rfl)|exact Ag rfl (λ_=>rfl) rfl rfl l) ?_;iterate 2 refine aT ?_
    first
    |(
     iterate 5 refine aT ?_
     refine AG ?_;refine AD (AH results147 (AF rfl)) ?_;intro ρ G u
     (first|(refine⟨?_,u.1⟩;unfold Da;rw[e,Bj z,JC (by rw[g];rfl)];rfl)|(refine⟨?_,u.1⟩;unfold Da;rw[e];simp only[Cq,h];rfl))
     )
    |(
     iterate 4 refine aT ?_
     refine iD (by exact D8 rfl gg rfl rfl m) ?_;iterate 3 refine aT ?_
     refine ER ?_;iterate 2 refine aT ?_
     refine⟨⟨(i+1,A),by show i+1<=bs.length;omega,by show Cq true bs=Cq A (bs.drop (i+1));rw[e,Bj z,PI (by rw[g];rfl),j]⟩,by show bs.length-(i+1)<bs.length-i;omega,?_⟩;exact Ar (λi=>i==0||i==2||i==3||i==6||i==7||i==8) []
     )
   )
 .exact Ar (λi=>i==0||i==2||i==3||i==6||i==7||i==8) []
def Dq(bs:List Nat):Nat:=bs.getD (bs.length-1) 0
def md(a b:Nat):Nat:=a %2^b
def Nq(b0:Nat)(r:List Nat):Bool:=bif decide (b0>=8)then false else bif decide (r.length+1=1)then decide (b0=0)else decide (md (Dq (b0::r)) b0=0)
def bz:List Nat->Bool
 | []=>false
 |b0::r=>Nq b0 r
def ML(bs:List Nat):Bool:=decide (bs.length=1) && (decide (bs.getD 0 0=0)||decide (bs.getD 0 0=255))
def Fg(c:Int)(bs:List Nat):Bool:=
 bif decide (c=1)then ML bs else bif decide (c=2)then Ez bs else bif decide (c=3)then bz bs else bif decide (c=4)then true else bif decide (c=6)then Da bs else bif decide (c=12)then JB bs else false
theorem Jc(h:i<bs.length):bs[i]? =some (bs.getD i 0):=by simp[List.getD,h]
theorem Vs{b:Nat}(c:b<8):BOy .shl 5 (.int .u8 1) (.int .u8 (b:Nat)) (.int .u8 ((2^b:Nat):Int)):=by
 intro p q w
 have:b=0\/b=1\/b=2\/b=3\/b=4\/b=5\/b=6\/b=7:=by omega
 rcases this with rfl|rfl|rfl|rfl|rfl|rfl|rfl|rfl<;>(go_simp;rfl)
theorem rh{b:Nat}(c:a<256)(f:b<8):BOy .and 5 (.int .u8 (a:Nat)) (.int .u8 ((2^b-1:Nat):Int)) (.int .u8 ((md a b:Nat):Int)):=by
 intro p q w
 have e:2^b<=2^8:=Nat.pow_le_pow_right (by decide) (by omega)
 go_simp
 rw[u8_and_nat a (2^b-1) c (by omega),Nat.and_two_pow_sub_one_eq_mod];rfl
theorem dU(c:AO w v bs.length 1 (bs.map b8) S):CBy 145 #[v] w (.bool (Ez bs)):=by
 match bs,c with
 | [],c=>exact U9 (n:=0) (by decide) w c
 | [_],c=>exact U9 (n:=1) (by decide) w c
 |b0::b1::r,c=>exact dV (by simp) w c
theorem q7{l:List Value}(hv:AO w v 0 1 l S):CBy 146 #[v] w (.bool false):=by
 go_enter func146,ntmps146
 refine A4 ?_;iterate 9 refine aT ?_
 refine CU ?_;refine FR ?_;iterate 2 refine aT ?_
 refine iD (by first|exact Ev.skip (λ_=>rfl)|exact C7 rfl (λ_=>rfl) rfl rfl x7 yG (by decide) (by decide)|exact DK rfl (λ_=>rfl) rfl rfl x7 yG (by decide) (by decide)) ?_;refine iD (by first|exact Ev.skip (λ_=>rfl)|exact BK rfl (λ_=>rfl) rfl rfl yL rfl rfl|exact BR rfl (λ_=>rfl) rfl yL rfl (by assumption)) ?_;refine k_3 ?_;iterate 8 refine aT ?_
 exact AG (AD (AH results146 (AF rfl)) λ_ _ c=>⟨rfl,c.1⟩)
theorem q8(hv:AO w v (b0::r).length 1 ((b0::r).map b8) S)(z:r.length<9223372036854775807)(q:∀b∈b0::r,b<256):CBy 146 #[v] w (.bool (Nq b0 r)):=by
 unfold Nq;obtain⟨s,e⟩:∃p,decide (b0>=8)=p:=⟨_,rfl⟩
 obtain⟨u,g⟩:∃p,decide (r.length+1=1)=p:=⟨_,rfl⟩
 rw[e,g];have h:=(Ej b0 8).trans e;have j:=(CM (r.length+1) 1).trans g;have f:(b0::r)[r.length]? =some (Dq (b0::r)):=by unfold Dq;exact Jc (by simp)
 have o:Dq (b0::r)<256:=q _ (zA f)
 go_enter func146,ntmps146
 refine A4 ?_;iterate 9 refine aT ?_
 refine CU ?_;refine iD (by exact Ag (p:=false) rfl gg rfl rfl (yB (by simp;omega))) ?_;iterate 2 refine aT ?_
 refine iD (by first|exact Ev.skip (λ_=>rfl)|exact Bc (k:=0) rfl (λ_=>rfl) rfl rfl x7 yG (AW hv) (by simp) (by decide)) ?_;refine Py ?_;refine iD (by first|exact Ev.skip (λ_=>rfl)|exact Ew rfl (λ_=>rfl) rfl rfl h) ?_;iterate 3 refine aT ?_
 cases s
 .refine aT ?_
  have l:b0<8:=by have:=yC e;omega
  iterate 3 refine aT ?_
  refine CU ?_;refine iD (by exact Ag rfl gg rfl rfl j) ?_;iterate 2 refine aT ?_
  cases u
  .iterate 6 refine aT ?_
   refine CU ?_;refine iD (by exact Bu (c:=((r.length:Nat):Int)) rfl gg rfl rfl (by simp only[List.length_cons];rw[Ah (by omega) (by omega)];omega)) ?_;refine iD (by exact Bc (k:=r.length) rfl gg rfl rfl x7 yG (AW hv) (by simp) (by decide)) ?_;refine iD (by exact Cb rfl gg rfl yL rfl (AW hv) (JH f)) ?_;refine aT ?_;refine ND ?_;refine JW ?_;refine iD (by exact AK rfl gg rfl rfl (λw=>Vs l _ _ w)) ?_;refine iD (by exact Bu (c:=((2^b0-1:Nat):Int)) rfl gg rfl rfl (by rw[uD8];have:=Nat.pow_le_pow_right (show 0<2 by decide) (show b0<=7 by omega);have:=Nat.two_pow_pos b0;omega)) ?_;refine iD (by exact AK rfl gg rfl rfl (λw=>rh o l _ _ w)) ?_;refine iD (by exact Ag rfl gg rfl rfl (CM _ 0)) ?_;iterate 2 refine aT ?_
   exact AG (AD (AH results146 (AF rfl)) λ_ _ m=>⟨rfl,m.1⟩)
  .iterate 4 refine aT ?_
   refine ND ?_;refine JW ?_;refine iD (by exact Ag rfl gg rfl rfl (CM b0 0)) ?_;iterate 2 refine aT ?_
   exact AG (AD (AH results146 (AF rfl)) λ_ _ m=>⟨rfl,m.1⟩)
 .iterate 5 refine aT ?_
  exact AG (AD (AH results146 (AF rfl)) λ_ _ m=>⟨rfl,m.1⟩)
theorem qz(c:AO w v bs.length 1 (bs.map b8) S)(f:bs.length<9223372036854775807)(e:∀b∈bs,b<256):CBy 146 #[v] w (.bool (bz bs)):=by
 cases bs with
 |nil=>exact q7 w c
 |cons b0 r=>exact q8 w c (by simp at f;omega) e
theorem br(c:Int)(w:World)(hv:AO w v bs.length 1 (bs.map b8) S)(F:bs.length<9223372036854775807)(G:∀b∈bs,b<256):CBy 92 #[.int .i64 c,v] w (.bool (Fg c bs)):=by
 unfold Fg ML;obtain⟨J,l⟩:∃p,decide (c=1)=p:=⟨_,rfl⟩
 obtain⟨K,m⟩:∃p,decide (c=2)=p:=⟨_,rfl⟩
 obtain⟨L,o⟩:∃p,decide (c=3)=p:=⟨_,rfl⟩
 obtain⟨M,q⟩:∃p,decide (c=4)=p:=⟨_,rfl⟩
 obtain⟨N,s⟩:∃p,decide (c=6)=p:=⟨_,rfl⟩
 obtain⟨O,u⟩:∃p,decide (c=12)=p:=⟨_,rfl⟩
 obtain⟨H,h_p1⟩:∃p,decide (bs.length=1)=p:=⟨_,rfl⟩
 obtain⟨p2,g⟩:∃p,decide (bs.getD 0 0=0)=p:=⟨_,rfl⟩
 obtain⟨I,j⟩:∃p,decide (bs.getD 0 0=255)=p:=⟨_,rfl⟩
 rw[l,m,o,q,s,u,h_p1,g,j];have z:=(CM bs.length 1).trans h_p1;have A:=(CM (bs.getD 0 0) 0).trans g;have B:=(CM (bs.getD 0 0) 255).trans j;have E:decide (bs.length=1)=true->bs[0]? =some (bs.getD 0 0):=λh=>Jc (by have:=yA h;omega)
 go_enter func92,ntmps92
 refine A4 ?_;iterate 12 refine aT ?_
 refine iD (by exact Ag rfl gg rfl rfl l) ?_;iterate 2 refine aT ?_
 cases J
 .iterate 3 refine aT ?_
  refine iD (by exact Ag rfl gg rfl rfl m) ?_;iterate 2 refine aT ?_
  cases K
  .iterate 3 refine aT ?_
   refine iD (by exact Ag rfl gg rfl rfl o) ?_;iterate 2 refine aT ?_
   cases L
   .iterate 3 refine aT ?_
    refine iD (by exact Ag rfl gg rfl rfl q) ?_;iterate 2 refine aT ?_
    cases M
    .iterate 3 refine aT ?_
     refine iD (by exact Ag rfl gg rfl rfl s) ?_;iterate 2 refine aT ?_
     cases N
     .iterate 3 refine aT ?_
      refine iD (by exact Ag rfl gg rfl rfl u) ?_;iterate 2 refine aT ?_
      cases O
      .iterate 6 refine aT ?_
       exact AG (AD (AH results92 (AF rfl)) λ_ _ e=>⟨rfl,e.1⟩)
      .iterate 4 refine aT ?_
       refine iD (by exact Ad rfl gg rfl (eo func148) (λD C=>kH D (A5 hv C) F)) ?_;iterate 2 refine aT ?_
       exact AG (AD (AH results92 (AF rfl)) λ_ _ e=>⟨rfl,e.1⟩)
     .iterate 4 refine aT ?_
      refine iD (by exact Ad rfl gg rfl (eo func147) (λD C=>lC D (A5 hv C) F)) ?_;iterate 2 refine aT ?_
      exact AG (AD (AH results92 (AF rfl)) λ_ _ e=>⟨rfl,e.1⟩)
    .iterate 5 refine aT ?_
     exact AG (AD (AH results92 (AF rfl)) λ_ _ e=>⟨rfl,e.1⟩)
   .iterate 4 refine aT ?_
    refine iD (by exact Ad rfl gg rfl (eo func146) (λD C=>qz D (A5 hv C) F G)) ?_;iterate 2 refine aT ?_
    exact AG (AD (AH results92 (AF rfl)) λ_ _ e=>⟨rfl,e.1⟩)
  .iterate 4 refine aT ?_
   refine iD (by exact Ad rfl gg rfl (eo func145) (λD C=>dU D (A5 hv C))) ?_;iterate 2 refine aT ?_
   exact AG (AD (AH results92 (AF rfl)) λ_ _ e=>⟨rfl,e.1⟩)
 .refine aT ?_
  cases H<;>cases p2<;>cases I<;>
  (
   iterate 3 refine aT ?_
   refine CU ?_;refine iD (by exact Ag rfl gg rfl rfl z) ?_;iterate 2 refine aT ?_
   refine Zg ?_;refine iD (by first|exact Ev.skip (λ_=>rfl)|exact Cb rfl (λ_=>rfl) rfl yL rfl (AW hv) (JH (E h_p1))) ?_;refine iD (by first|exact Ev.skip (λ_=>rfl)|exact Ag rfl (λ_=>rfl) rfl rfl A) ?_;iterate 2 refine aT ?_
   refine Zg ?_;refine iD (by first|exact Ev.skip (λ_=>rfl)|exact Cb rfl (λ_=>rfl) rfl yL rfl (AW hv) (JH (E h_p1))) ?_;refine iD (by first|exact Ev.skip (λ_=>rfl)|exact Ag rfl (λ_=>rfl) rfl rfl B) ?_;iterate 4 refine aT ?_
   exact AG (AD (AH results92 (AF rfl)) λ_ _ e=>⟨rfl,e.1⟩)
  )
inductive Tr where
 |mk (tag:Int) (body:List Nat) (kids:List Tr)
mutual
def DN(w:World)(S:Nat->Prop):Tr->List Value->Prop
 | .mk t b ks,xs=> ∃bv kv cs,xs=[.int .i64 t,bv,kv]/\AO w bv b.length 1 (b.map b8) S/\AO w kv ks.length 3 cs S/\DNs w S ks cs
def DNs(w:World)(S:Nat->Prop):List Tr->List Value->Prop
 | [],xs=>xs=[]
 |k::ks,xs=> ∃x y,xs=x++y/\DN w S k x/\DNs w S ks y
end
mutual
def RN(w:World)(S:Nat->Prop):Tr->List Value->Prop
 | .mk t b ks,xs=> ∃kv cs,xs=[.int .i64 t,.string (AB b),kv]/\AO w kv ks.length 3 cs S/\RNs w S ks cs
def RNs(w:World)(S:Nat->Prop):List Tr->List Value->Prop
 | [],xs=>xs=[]
 |k::ks,xs=> ∃x y,xs=x++y/\RN w S k x/\RNs w S ks y
end
mutual
def Tr.ok:Tr->Prop
 | .mk _ b ks=>(∀x∈b,x<256)/\b.length<=1048576/\ks.length<=1048576/\oks ks
def oks:List Tr->Prop
 | []=>True
 |k::ks=>k.ok/\oks ks
end
mutual
def Ak:Tr->Nat->Bool
 | .mk t b ks,d=>bif decide (d>8)then false else bif !(CB t)then(decide (ks.length=0) && Fg t b)else bif (decide (b.length>0)||decide (ks.length>20))then false else !(Bs ks (d+1))
def Bs:List Tr->Nat->Bool
 | [],_=>false
 |k::ks,d=> !(Ak k d)||Bs ks d
end
def nr(d:Nat)(k:Tr):Bool:= !(Ak k (d+1))
theorem YI(d:Nat):∀ks,Bs ks d=ks.any (λk=> !(Ak k d))
 | []=>by simp[Bs]
 |k::ks=>by simp only[Bs,List.any_cons,YI d ks]
theorem CS{w:World}{t:Tr}(h:DN w S t xs):xs.length=3:=by
 cases t with
 |mk t b ks=>simp only[DN]at h;obtain⟨_,_,_,rfl,_⟩:=h;rfl
theorem Cu{w:World}{t:Tr}(h:RN w S t xs):xs.length=3:=by
 cases t with
 |mk t b ks=>simp only[RN]at h;obtain⟨_,_,rfl,_⟩:=h;rfl
theorem Nx{w:World}{S:Nat->Prop}:∀{g:List Tr} {c:List Value},DNs w S g c-> ∀{i:Nat} {k:Tr},g[i]? =some k-> ∃x,(c.drop (i*3)).take 3=x/\DN w S k x
 | [],_,_,i,k,h=>by cases h
 |k0::g,c,h,i,k,hk=>by
  simp only[DNs]at h;obtain⟨x,y,rfl,j,l⟩:=h;have f:=CS j;cases i with
  |zero=>
   simp only[List.getElem?_cons_zero,yT]at hk;subst hk;exact⟨x,by rw[Nat.zero_mul,List.drop_zero,<-f];exact List.take_left,j⟩
  |succ i=>
   obtain⟨o,e,m⟩:=Nx l (i:=i) (k:=k) (by simpa using hk);refine⟨o,?_,m⟩;rw[show(i+1)*3=3+i*3 by omega,<-f,uC3,DB (by omega),List.nil_append,<-e,f];congr 2
   omega
theorem Nw{w:World}{S:Nat->Prop}:∀{g:List Tr} {c:List Value},RNs w S g c-> ∀{i:Nat} {k:Tr},g[i]? =some k-> ∃x,(c.drop (i*3)).take 3=x/\RN w S k x
 | [],_,_,i,k,h=>by cases h
 |k0::g,c,h,i,k,hk=>by
  simp only[RNs]at h;obtain⟨x,y,rfl,j,l⟩:=h;have f:=Cu j;cases i with
  |zero=>
   simp only[List.getElem?_cons_zero,yT]at hk;subst hk;exact⟨x,by rw[Nat.zero_mul,List.drop_zero,<-f];exact List.take_left,j⟩
  |succ i=>
   obtain⟨o,e,m⟩:=Nw l (i:=i) (k:=k) (by simpa using hk);refine⟨o,?_,m⟩;rw[show(i+1)*3=3+i*3 by omega,<-f,uC3,DB (by omega),List.nil_append,<-e,f];congr 2
   omega
mutual
theorem ED{w e:World}{S:Nat->Prop}(c:Bw w e):∀{t:Tr} {xs:List Value},DN w S t xs->DN e S t xs
 | .mk t b ks,xs,h=>by
   simp only[DN]at h⊢;obtain⟨bv,kv,f,g,j,l,m⟩:=h;exact⟨bv,kv,f,g,A5 j c,A5 l c,LY c m⟩
theorem LY{w f:World}{S:Nat->Prop}(e:Bw w f):∀{c:List Tr} {xs:List Value},DNs w S c xs->DNs f S c xs
 | [],xs,h=>by simp only[DNs]at h ⊢; exact h
 |k::c,xs,h=>by
  simp only[DNs]at h⊢;obtain⟨x,y,g,j,l⟩:=h;exact⟨x,y,g,ED e j,LY e l⟩
end
mutual
theorem G9{w e:World}{S:Nat->Prop}(c:Bw w e):∀{t:Tr} {xs:List Value},RN w S t xs->RN e S t xs
 | .mk t b ks,xs,h=>by
   simp only[RN]at h⊢;obtain⟨kv,f,g,j,l⟩:=h;exact⟨kv,f,g,A5 j c,Um c l⟩
theorem Um{w f:World}{S:Nat->Prop}(e:Bw w f):∀{c:List Tr} {xs:List Value},RNs w S c xs->RNs f S c xs
 | [],xs,h=>by simp only[RNs]at h ⊢; exact h
 |k::c,xs,h=>by
  simp only[RNs]at h⊢;obtain⟨x,y,g,j,l⟩:=h;exact⟨x,y,g,G9 e j,Um e l⟩
end
def GC{α:Type}(p:α->Bool):List α->Nat->Int
 | [],_=> -1
 |b::r,k=>if p b then(k:Nat)else GC p r (k+1)
theorem Tk{p:α->Bool}{b:α}{r:List α}(h:p b=true):GC p (b::r) k=(k:Nat):=x9 h
theorem Zy{p:α->Bool}{b:α}{r:List α}(h:p b=false):GC p (b::r) k=GC p r (k+1):=x8 (by simp[h])
theorem Zz{α:Type}(p:α->Bool):∀(l:List α) (k:Nat),decide (GC p l k>=0)=l.any p
 | [],k=>by simp[GC]
 |b::r,k=>by
  cases h:p b with
  |true=>rw[Tk h,List.any_cons,h,Bool.true_or];exact yE (by omega)
  |false=>rw[Zy h,Zz p r (k+1),List.any_cons,h,Bool.false_or]
def LS(t:Tr):Prop:= ∀(d:Nat) (xs:List Value) (w:World) (S:Nat->Prop),d<=9->DN w S t xs->CBy 48 #[.agg xs.toArray,.int .i64 (d:Nat)] w (.bool (Ak t d))
theorem pd{k:Tr}(j:LS k){a:Addr}(w:World)(h:DN w S k [.int .i64 t,bv,kv])(m:w.cell? a=some (.int .i64 (d:Nat)))(o:d<=8):CBy 94 #[.agg #[.int .i64 t,bv,kv],.pointer (some a)] w (.bool (nr d k)):=by
 go_enter func94,ntmps94
 refine A4 ?_;iterate 9 refine aT ?_
 refine Px ?_;refine iD (by exact Ad rfl gg rfl (eo func48) (λl e=>j (d+1) _ l _ (by omega) (ED e h))) ?_;iterate 3 refine aT ?_
 exact AG (AD (AH results94 (AF rfl)) λ_ _ g=>⟨rfl,g.1⟩)
theorem nF{g:List Tr}{E:List Value}{a:Addr}(A:∀k∈g,LS k)(B:AO w kv g.length 3 E S)(L:DNs w S g E)(P:g.length<=1048576)(J:w.cell? a=some (.int .i64 (d:Nat)))(K:d<=8):CBy 149 #[kv,Nn 94 (.pointer (some a))] w (.int .i64 (GC (nr d) g 0)):=by
 go_enter func149,ntmps149
 refine A4 ?_;iterate 8 refine aT ?_
 refine iD (by exact BU rfl gg rfl yO (AW B)) ?_;iterate 3 refine aT ?_
 refine Bo (α:={i:Nat // i<=g.length/\GC (nr d) g 0=GC (nr d) (g.drop i) i}) (fun(x:{i:Nat // i<=g.length/\GC (nr d) g 0=GC (nr d) (g.drop i) i}) f=>⟨.v kv::.v (Nn 94 (.pointer (some a)))::.v (f 2)::.v (f 3)::.v (f 4)::.v (f 5)::.v kv::.v (.int .i64 (g.length:Nat))::.v (.int .i64 (x.1:Nat))::fv f 10 9 [],AJ []⟩) (λx=>g.length-x.1) ?_ (⟨0,y6 _,rfl⟩) ?_
 .rintro⟨i,O,e⟩ f
  obtain⟨q,h_q⟩:∃q,decide ((i:Int)<(g.length:Int))=q:=⟨_,rfl⟩
  change VOk _ _ _ _ _;simp only[fv,Nat.reduceAdd];iterate 2 refine aT ?_
  refine M9 ?_;iterate 2 refine aT ?_
  cases q
  .refine aT ?_
   have z:g.length<=i:=by have:=yC h_q;omega
   rw[SM z]at e;refine As ?_;change VOk _ _ _ _ _;iterate 4 refine aT ?_
   refine AG ?_;refine AD (AH results149 (AF rfl)) ?_;intro ρ D u
   (first|(refine⟨?_,u.1⟩;rw[e];rfl)|(refine⟨?_,u.1⟩;rw[e,Bj o,Tk h];rfl))
  .refine aT ?_
   have s:i<g.length:=by have:=yA h_q;omega
   obtain⟨G,o⟩:=EV s;obtain⟨x,M,m⟩:=Nx L o;obtain⟨t,b,j,rfl⟩:∃t b j,G=Tr.mk t b j:=by cases G with|mk t b j=>exact⟨t,b,j,rfl⟩
   have l:=m;simp only[DN]at l;obtain⟨H,N,I,rfl,_,_,_⟩:=l;obtain⟨C,h⟩:∃C,nr d (.mk t b j)=C:=⟨_,rfl⟩
   iterate 13 refine aT ?_
   refine iD (by exact Bc (k:=i) rfl gg rfl rfl yO yH (AW B) (s) (by decide)) ?_;refine iD (by exact LF rfl gg rfl yZ rfl yH (AW B) (M) rfl (by decide)) ?_;refine iD (by exact aa rfl gg rfl rfl (eo func94) (λD F=>h▸pd (A _ (zA o)) D (ED F m) (F.cell J) K)) ?_;refine aT ?_;cases C
   .iterate 3 refine aT ?_
    refine ER ?_;iterate 2 refine aT ?_
    refine⟨⟨i+1,by omega,by rw[e,Bj o,Zy h]⟩,by show g.length-(i+1)<g.length-i;omega,?_⟩;exact Ar (λi=>i==0||i==1||i==6||i==7||i==8) []
   .iterate 6 refine aT ?_
    refine AG ?_;refine AD (AH results149 (AF rfl)) ?_;intro ρ D u
    (first|(refine⟨?_,u.1⟩;rw[e];rfl)|(refine⟨?_,u.1⟩;rw[e,Bj o,Tk h];rfl))
 .exact Ar (λi=>i==0||i==1||i==6||i==7||i==8) []
theorem pS{c:List Tr}{h:List Value}{a:Addr}(g:∀k∈c,LS k)(s:AO w kv c.length 3 h S)(o:DNs w S c h)(m:c.length<=1048576)(j:w.cell? a=some (.int .i64 (d:Nat)))(l:d<=8):CBy 93 #[kv,Nn 94 (.pointer (some a))] w (.bool (Bs c (d+1))):=by
 go_enter func93,ntmps93
 refine A4 ?_;iterate 8 refine aT ?_
 refine iD (by exact Ad rfl gg rfl (eo func149) (λu e=>nF u g (A5 s e) (LY e o) m (e.cell j) l)) ?_;refine iD (by exact B4 rfl gg rfl rfl ((Zz _ c 0).trans (YI (d+1) c).symm)) ?_;iterate 2 refine aT ?_
 exact AG (AD (AH results93 (AF rfl)) λ_ _ q=>⟨rfl,q.1⟩)
theorem gN{e:List Tr}{E:List Value}(C:∀k∈e,LS k)(A:AO w bv b.length 1 (b.map b8) S)(D:AO w kv e.length 3 E S)(L:DNs w S e E)(G:∀x∈b,x<256)(I:b.length<=1048576)(K:e.length<=1048576)(J:d<=9):CBy 48 #[.agg #[.int .i64 t,bv,kv],.int .i64 (d:Nat)] w (.bool (Ak (.mk t b e) d)):=by
 unfold Ak;obtain⟨M,c⟩:∃p,decide (d>8)=p:=⟨_,rfl⟩
 obtain⟨F,g⟩:∃p,CB t=p:=⟨_,rfl⟩
 obtain⟨N,h⟩:∃p,decide (e.length=0)=p:=⟨_,rfl⟩
 obtain⟨O,j⟩:∃p,decide (b.length>0)=p:=⟨_,rfl⟩
 obtain⟨P,l⟩:∃p,decide (e.length>20)=p:=⟨_,rfl⟩
 rw[c,g,h,j,l];have m:=(Cr d 8).trans c;have o:=(CM e.length 0).trans h;have q:=(Cr b.length 0).trans j;have s:=(Cr e.length 20).trans l
 go_enter func48,ntmps48
 refine A4 ?_;iterate 11 refine aT ?_
 refine iD (by exact BV rfl gg rfl rfl m) ?_;iterate 2 refine aT ?_
 cases M
 .iterate 5 refine aT ?_
  refine iD (by exact Ad (v:=.bool F) rfl gg rfl (eo func91) (λB z=>g▸S4 t B)) ?_;iterate 3 refine aT ?_
  cases F
  .refine aT ?_
   cases N<;>
   (
    iterate 4 refine aT ?_
    refine iD (by exact BU rfl gg rfl yO (AW D)) ?_;refine iD (by exact Ag rfl gg rfl rfl o) ?_;refine aT ?_;refine iD (by first|exact Ev.skip (λ_=>rfl)|exact BG rfl (λ_=>rfl) rfl yZ rfl DS|exact BF rfl (λ_=>rfl) rfl yZ rfl DS) ?_;iterate 3 refine aT ?_
    refine iD (by first|exact Ev.skip (λ_=>rfl)|exact Ad rfl (λ_=>rfl) rfl (eo func92) (λB z=>br t B (A5 A z) (by omega) G)) ?_;iterate 3 refine aT ?_
    exact AG (AD (AH results48 (AF rfl)) λ_ _ u=>⟨rfl,u.1⟩)
   )
  .refine aT ?_
   cases O<;>cases P<;>
   (
    iterate 4 refine aT ?_
    refine iD (by exact BU rfl gg rfl x7 (AW A)) ?_;refine iD (by exact BV rfl gg rfl rfl q) ?_;iterate 3 refine aT ?_
    refine iD (by first|exact Ev.skip (λ_=>rfl)|exact BU rfl (λ_=>rfl) rfl yO (AW D)) ?_;refine iD (by first|exact Ev.skip (λ_=>rfl)|exact BV rfl (λ_=>rfl) rfl rfl s) ?_;iterate 3 refine aT ?_
    first
    |(
     iterate 5 refine aT ?_
     exact AG (AD (AH results48 (AF rfl)) λ_ _ u=>⟨rfl,u.1⟩)
     )
    |(
     iterate 6 refine aT ?_
     refine iD (by exact oI rfl gg rfl) ?_;refine iD (by exact Aj (v:=.bool (Bs e (d+1))) [3] rfl gg rfl (eo func93) (λρ Q B z H=>pS B C (A5 D z) (LY z L) K (Rx H (by simp) rfl 0 [.int .i64 (d:Nat)] rfl 0 _ rfl) (by have:=yC c;omega))) ?_;iterate 3 refine aT ?_
     exact AG (AD (AH results48 (AF rfl)) λ_ _ u=>⟨rfl,u.1⟩)
     )
   )
 .iterate 5 refine aT ?_
  exact AG (AD (AH results48 (AF rfl)) λ_ _ u=>⟨rfl,u.1⟩)
mutual
theorem Oh:∀t:Tr,t.ok->LS t
 | .mk t b ks,h=>λd xs w S j c=>by
   simp only[Tr.ok]at h;simp only[DN]at c;obtain⟨bv,kv,l,rfl,e,f,g⟩:=c;exact gN w (WB ks h.2.2.2) e f g h.1 h.2.1 h.2.2.1 j
theorem WB:∀ks:List Tr,oks ks-> ∀k∈ks,LS k
 | [],_=>λk hk=>by cases hk
 |k0::ks,h=>λk hk=>by
  simp only[oks]at h;rcases uA6.1 hk with e|hk
  .exact e▸Oh k0 h.1
  .exact WB ks h.2 k hk
end
theorem iW(f:∀x∈b,x<256)(_hm:b.length<=1048576)(w:World):CBy 101 #[.int .i64 1,.string (AB b)] w (.bool (decide (b=[0])||decide (b=[255]))):=by
 obtain⟨h,c⟩:∃p,decide (b=[0])=p:=⟨_,rfl⟩
 obtain⟨p2,e⟩:∃p,decide (b=[255])=p:=⟨_,rfl⟩
 rw[c,e]
 go_enter func101,ntmps101
 refine A4 ?_;cases h<;>cases p2<;>
 (
  iterate 7 refine aT ?_
  refine Dd ?_;iterate 10 refine aT ?_
  refine FR ?_;iterate 6 refine aT ?_
  refine iD (by exact AK rfl gg rfl rfl (λw=>E4 (b:=[0]) c f (by decide) _ _ w)) ?_;iterate 2 refine aT ?_
  refine iD (by first|exact Ev.skip (λ_=>rfl)|exact AK rfl (λ_=>rfl) rfl rfl (λw=>E4 (b:=[255]) e f (by decide) _ _ w)) ?_;iterate 3 refine aT ?_
  exact AG (AD (AH JT (AF rfl)) λ_ _ g=>⟨rfl,g.1⟩)
 )
theorem iO(_h8:∀x∈b,x<256)(_hm:b.length<=1048576)(w:World):CBy 101 #[.int .i64 4,.string (AB b)] w (.bool (true)):=by
 go_enter func101,ntmps101
 refine A4 ?_;iterate 7 refine aT ?_
 refine Dd ?_;iterate 10 refine aT ?_
 refine mc ?_;iterate 5 refine aT ?_
 refine mc ?_;iterate 5 refine aT ?_
 refine mc ?_;iterate 5 refine aT ?_
 refine FR ?_;iterate 7 refine aT ?_
 exact AG (AD (AH JT (AF rfl)) λ_ _ c=>⟨rfl,c.1⟩)
theorem iX(_h8:∀x∈b,x<256)(_hm:b.length<=1048576)(c:Int)(h_1:c≠1)(h_2:c≠2)(f:c≠3)(g:c≠4)(h:c≠6)(e:c≠12)(w:World):CBy 101 #[.int .i64 c,.string (AB b)] w (.bool (false)):=by
 go_enter func101,ntmps101
 refine A4 ?_;iterate 7 refine aT ?_
 refine Dd ?_;iterate 10 refine aT ?_
 refine iD (by exact Ag (p:=false) rfl gg rfl rfl (yB h_1)) ?_;iterate 5 refine aT ?_
 refine iD (by exact Ag (p:=false) rfl gg rfl rfl (yB h_2)) ?_;iterate 5 refine aT ?_
 refine iD (by exact Ag (p:=false) rfl gg rfl rfl (yB f)) ?_;iterate 5 refine aT ?_
 refine iD (by exact Ag (p:=false) rfl gg rfl rfl (yB g)) ?_;iterate 5 refine aT ?_
 refine iD (by exact Ag (p:=false) rfl gg rfl rfl (yB h)) ?_;iterate 5 refine aT ?_
 refine iD (by exact Ag (p:=false) rfl gg rfl rfl (yB e)) ?_;iterate 8 refine aT ?_
 exact AG (AD (AH JT (AF rfl)) λ_ _ j=>⟨rfl,j.1⟩)
theorem iS:CBy 101 #[.int .i64 2,.string (AB [])] w (.bool (false)):=by
 go_enter func101,ntmps101
 refine A4 ?_;iterate 7 refine aT ?_
 refine Dd ?_;iterate 10 refine aT ?_
 refine mc ?_;iterate 5 refine aT ?_
 refine FR ?_;iterate 6 refine aT ?_
 refine iD (by exact BV (p:=false) rfl gg rfl rfl (by decide)) ?_;iterate 2 refine aT ?_
 refine Ko ?_;iterate 2 refine aT ?_
 iterate 2 refine k_3 ?_
 iterate 3 refine aT ?_
 iterate 2 refine k_3 ?_
 iterate 5 refine aT ?_
 refine Ko ?_;iterate 2 refine aT ?_
 iterate 2 refine k_3 ?_
 iterate 3 refine aT ?_
 iterate 2 refine k_3 ?_
 iterate 5 refine aT ?_
 exact AG (AD (AH JT (AF rfl)) λ_ _ c=>⟨rfl,c.1⟩)
theorem iR:CBy 101 #[.int .i64 2,.string (AB [x])] w (.bool (true)):=by
 go_enter func101,ntmps101
 refine A4 ?_;iterate 7 refine aT ?_
 refine Dd ?_;iterate 10 refine aT ?_
 refine mc ?_;iterate 5 refine aT ?_
 refine FR ?_;iterate 6 refine aT ?_
 refine iD (by exact BV (p:=true) rfl gg rfl rfl rfl) ?_;iterate 2 refine aT ?_
 refine iD (by first|exact Ev.skip (λ_=>rfl)|exact BV (p:=false) rfl (λ_=>rfl) rfl rfl rfl) ?_;iterate 2 refine aT ?_
 iterate 2 refine k_3 ?_
 iterate 3 refine aT ?_
 iterate 2 refine k_3 ?_
 iterate 5 refine aT ?_
 refine iD (by first|exact Ev.skip (λ_=>rfl)|exact BV (p:=false) rfl (λ_=>rfl) rfl rfl rfl) ?_;iterate 2 refine aT ?_
 iterate 2 refine k_3 ?_
 iterate 3 refine aT ?_
 iterate 2 refine k_3 ?_
 iterate 5 refine aT ?_
 exact AG (AD (AH JT (AF rfl)) λ_ _ c=>⟨rfl,c.1⟩)
theorem iU(o:∀z∈x::y::r,z<256)(w:World):CBy 101 #[.int .i64 2,.string (AB (x::y::r))] w (.bool (!((decide (x=0) && decide (y<128))||(decide (x=255) && decide (y>=128))))):=by
 obtain⟨s,c⟩:∃p,decide (x=0)=p:=⟨_,rfl⟩
 obtain⟨p2,e⟩:∃p,decide (y<128)=p:=⟨_,rfl⟩
 obtain⟨u,f⟩:∃p,decide (x=255)=p:=⟨_,rfl⟩
 obtain⟨A,g⟩:∃p,decide (y>=128)=p:=⟨_,rfl⟩
 rw[c,e,f,g];have h:=(CM x 0).trans c;have j:=(CL y 128).trans e;have l:=(CM x 255).trans f;have m:=(Ej y 128).trans g
 go_enter func101,ntmps101
 refine A4 ?_;cases s<;>cases p2<;>cases u<;>cases A<;>
 (
  iterate 7 refine aT ?_
  refine Dd ?_;iterate 10 refine aT ?_
  refine mc ?_;iterate 5 refine aT ?_
  refine FR ?_;iterate 6 refine aT ?_
  refine iD (by exact BV (p:=true) rfl gg rfl rfl (yE (by simp only[List.length_cons];omega))) ?_;iterate 2 refine aT ?_
  refine iD (by first|exact Ev.skip (λ_=>rfl)|exact BV (p:=true) rfl (λ_=>rfl) rfl rfl (yE (by simp only[List.length_cons];omega))) ?_;iterate 2 refine aT ?_
  refine iD (by first|exact Ev.skip (λ_=>rfl)|exact CF (k:=0) rfl (λ_=>rfl) rfl rfl yF (rfl) ((o _ (by simp)))) ?_;refine iD (by first|exact Ev.skip (λ_=>rfl)|exact Ag rfl (λ_=>rfl) rfl rfl h) ?_;iterate 3 refine aT ?_
  refine iD (by first|exact Ev.skip (λ_=>rfl)|exact CF (k:=1) rfl (λ_=>rfl) rfl rfl yF (rfl) ((o _ (by simp)))) ?_;refine iD (by first|exact Ev.skip (λ_=>rfl)|exact D8 rfl (λ_=>rfl) rfl rfl j) ?_;iterate 5 refine aT ?_
  refine iD (by first|exact Ev.skip (λ_=>rfl)|exact BV (p:=true) rfl (λ_=>rfl) rfl rfl (yE (by simp only[List.length_cons];omega))) ?_;iterate 2 refine aT ?_
  refine iD (by first|exact Ev.skip (λ_=>rfl)|exact CF (k:=0) rfl (λ_=>rfl) rfl rfl yF (rfl) ((o _ (by simp)))) ?_;refine iD (by first|exact Ev.skip (λ_=>rfl)|exact Ag rfl (λ_=>rfl) rfl rfl l) ?_;iterate 3 refine aT ?_
  refine iD (by first|exact Ev.skip (λ_=>rfl)|exact CF (k:=1) rfl (λ_=>rfl) rfl rfl yF (rfl) ((o _ (by simp)))) ?_;refine iD (by first|exact Ev.skip (λ_=>rfl)|exact Ew rfl (λ_=>rfl) rfl rfl m) ?_;iterate 5 refine aT ?_
  exact AG (AD (AH JT (AF rfl)) λ_ _ q=>⟨rfl,q.1⟩)
 )
end
end Go.Proofs.YtafbhakmkbehiaaGreatDoor
