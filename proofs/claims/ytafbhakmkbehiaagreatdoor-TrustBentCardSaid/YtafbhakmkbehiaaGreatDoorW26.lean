import Derived.Test.YtafbhakmkbehiaaGreatDoorW24
open Go.Proofs.Tryz
set_option maxHeartbeats 4000000
set_option maxRecDepth 100000
namespace Go.Proofs.YtafbhakmkbehiaaGreatDoor
open Go.RowKit Go.Vx
variable(w:World){ca u1 u2:Bool}{fr i now pa se to u us use:Int}{a b is r rd su:List Nat}{S:Nat->Nat->Prop}{ρ:Nat->Nm}{G Ga Gb:Nat->Prop}{cv kv rv va vb vr:Value}
open TollMont
open TollEc (F base)
theorem vn(g:1<=i)(h:i<=6)(ht1:decide (now<fr)=false)(ht2:decide (now>to)=false):CDy 74 #[CHV cv rv now use,.int .i64 i,.agg #[.int .i64 se,.string (AB is),.string (AB su),.int .i64 fr,.int .i64 to,kv,.bool false,.int .i64 pa,.int .i64 us]] w (AL i 9):=by
 go_enter zV,CT
 refine A4 ?_;iterate 14 refine AA ?_
 refine FD ?_;refine SB ?_;iterate 7 refine AA ?_
 refine FC ?_;iterate 7 refine aT ?_
 iterate 4 refine AA ?_
 refine EO ?_;iterate 5 refine AA ?_
 refine Gj ?_;iterate 14 refine AA ?_
 refine AX (by exact Al (D:=AL i 9) [] rfl rfl gg rfl (eo func116) (λρ S e hb j=>FA _ _ e)) ?_;iterate 2 refine AA ?_
 refine AG ?_;refine AD (AH DA (AF rfl)) ?_;intro ρ e d;exact⟨_,rfl,Aa 50 d rfl,d.1⟩
theorem vw(e:1<=i)(g:i<=6)(ht1:decide (now<fr)=false)(ht2:decide (now>to)=true):CDy 74 #[CHV cv rv now use,.int .i64 i,.agg #[.int .i64 se,.string (AB is),.string (AB su),.int .i64 fr,.int .i64 to,kv,.bool false,.int .i64 pa,.int .i64 us]] w (AL i 7):=by
 go_enter zV,CT
 refine A4 ?_;iterate 14 refine AA ?_
 refine FD ?_;refine SB ?_;iterate 7 refine AA ?_
 refine FC ?_;iterate 7 refine aT ?_
 iterate 4 refine AA ?_
 refine EO ?_;iterate 5 refine AA ?_
 refine Hz ?_;iterate 7 refine AA ?_
 refine H3 ?_;iterate 2 refine AA ?_
 refine AG ?_;refine AD (AH DA (AF rfl)) ?_;intro ρ h d;exact⟨_,rfl,Aa 45 d rfl,d.1⟩
theorem vt(g:1<=i)(h:i<=6)(d:decide (now<fr)=true):CDy 74 #[CHV cv rv now use,.int .i64 i,.agg #[.int .i64 se,.string (AB is),.string (AB su),.int .i64 fr,.int .i64 to,kv,.bool false,.int .i64 pa,.int .i64 us]] w (AL i 7):=by
 go_enter zV,CT
 refine A4 ?_;iterate 14 refine AA ?_
 refine FD ?_;refine SB ?_;iterate 7 refine AA ?_
 refine FC ?_;iterate 7 refine aT ?_
 iterate 4 refine AA ?_
 refine AX (by exact BM (p:=true) rfl gg rfl rfl d) ?_;iterate 5 refine AA ?_
 refine FX ?_;iterate 7 refine AA ?_
 refine H3 ?_;iterate 2 refine AA ?_
 refine AG ?_;refine AD (AH DA (AF rfl)) ?_;intro ρ j e;exact⟨_,rfl,Aa 45 e rfl,e.1⟩
theorem vm(g:1<=i)(h:i<=6)(hp:decide (pa>=i-1)=false)(ht1:decide (now<fr)=false)(ht2:decide (now>to)=false):CDy 74 #[CHV cv rv now use,.int .i64 i,.agg #[.int .i64 se,.string (AB is),.string (AB su),.int .i64 fr,.int .i64 to,kv,.bool true,.int .i64 pa,.int .i64 us]] w (AL i 9):=by
 go_enter zV,CT
 refine A4 ?_;iterate 14 refine AA ?_
 refine FD ?_;refine R9 ?_;iterate 7 refine AA ?_
 refine FC ?_;iterate 7 refine aT ?_
 iterate 4 refine AA ?_
 refine EO ?_;iterate 5 refine AA ?_
 refine Gj ?_;iterate 14 refine AA ?_
 refine AX (by exact Al (D:=AL i 9) [] rfl rfl gg rfl (eo func116) (λρ S e hb j=>FA _ _ e)) ?_;iterate 2 refine AA ?_
 refine AG ?_;refine AD (AH DA (AF rfl)) ?_;intro ρ e d;exact⟨_,rfl,Aa 50 d rfl,d.1⟩
theorem vv(e:1<=i)(g:i<=6)(hp:decide (pa>=i-1)=false)(ht1:decide (now<fr)=false)(ht2:decide (now>to)=true):CDy 74 #[CHV cv rv now use,.int .i64 i,.agg #[.int .i64 se,.string (AB is),.string (AB su),.int .i64 fr,.int .i64 to,kv,.bool true,.int .i64 pa,.int .i64 us]] w (AL i 7):=by
 go_enter zV,CT
 refine A4 ?_;iterate 14 refine AA ?_
 refine FD ?_;refine R9 ?_;iterate 7 refine AA ?_
 refine FC ?_;iterate 7 refine aT ?_
 iterate 4 refine AA ?_
 refine EO ?_;iterate 5 refine AA ?_
 refine Hz ?_;iterate 7 refine AA ?_
 refine H3 ?_;iterate 2 refine AA ?_
 refine AG ?_;refine AD (AH DA (AF rfl)) ?_;intro ρ h d;exact⟨_,rfl,Aa 45 d rfl,d.1⟩
theorem vq(g:1<=i)(h:i<=6)(hp:decide (pa>=i-1)=false)(d:decide (now<fr)=true):CDy 74 #[CHV cv rv now use,.int .i64 i,.agg #[.int .i64 se,.string (AB is),.string (AB su),.int .i64 fr,.int .i64 to,kv,.bool true,.int .i64 pa,.int .i64 us]] w (AL i 7):=by
 go_enter zV,CT
 refine A4 ?_;iterate 14 refine AA ?_
 refine FD ?_;refine R9 ?_;iterate 7 refine AA ?_
 refine FC ?_;iterate 7 refine aT ?_
 iterate 4 refine AA ?_
 refine AX (by exact BM (p:=true) rfl gg rfl rfl d) ?_;iterate 5 refine AA ?_
 refine FX ?_;iterate 7 refine AA ?_
 refine H3 ?_;iterate 2 refine AA ?_
 refine AG ?_;refine AD (AH DA (AF rfl)) ?_;intro ρ j e;exact⟨_,rfl,Aa 45 e rfl,e.1⟩
theorem vo(d:1<=i)(e:i<=6)(hp:decide (pa>=i-1)=true)(ht1:decide (now<fr)=false)(ht2:decide (now>to)=false):CBy 74 #[CHV cv rv now use,.int .i64 i,.agg #[.int .i64 se,.string (AB is),.string (AB su),.int .i64 fr,.int .i64 to,kv,.bool true,.int .i64 pa,.int .i64 us]] w (.nilIface):=by
 go_enter zV,CT
 refine A4 ?_;iterate 14 refine AA ?_
 refine FD ?_;refine R8 ?_;iterate 7 refine AA ?_
 refine FC ?_;iterate 7 refine aT ?_
 iterate 4 refine AA ?_
 refine EO ?_;iterate 5 refine AA ?_
 refine Gj ?_;iterate 16 refine AA ?_
 exact AG (AD (AH DA (AF rfl)) λ_ _ f=>⟨rfl,f.1⟩)
theorem vu(e:1<=i)(g:i<=6)(hp:decide (pa>=i-1)=true)(ht1:decide (now<fr)=false)(ht2:decide (now>to)=true):CDy 74 #[CHV cv rv now use,.int .i64 i,.agg #[.int .i64 se,.string (AB is),.string (AB su),.int .i64 fr,.int .i64 to,kv,.bool true,.int .i64 pa,.int .i64 us]] w (AL i 7):=by
 go_enter zV,CT
 refine A4 ?_;iterate 14 refine AA ?_
 refine FD ?_;refine R8 ?_;iterate 7 refine AA ?_
 refine FC ?_;iterate 7 refine aT ?_
 iterate 4 refine AA ?_
 refine EO ?_;iterate 5 refine AA ?_
 refine Hz ?_;iterate 7 refine AA ?_
 refine H3 ?_;iterate 2 refine AA ?_
 refine AG ?_;refine AD (AH DA (AF rfl)) ?_;intro ρ h d;exact⟨_,rfl,Aa 45 d rfl,d.1⟩
theorem vp(g:1<=i)(h:i<=6)(hp:decide (pa>=i-1)=true)(d:decide (now<fr)=true):CDy 74 #[CHV cv rv now use,.int .i64 i,.agg #[.int .i64 se,.string (AB is),.string (AB su),.int .i64 fr,.int .i64 to,kv,.bool true,.int .i64 pa,.int .i64 us]] w (AL i 7):=by
 go_enter zV,CT
 refine A4 ?_;iterate 14 refine AA ?_
 refine FD ?_;refine R8 ?_;iterate 7 refine AA ?_
 refine FC ?_;iterate 7 refine aT ?_
 iterate 4 refine AA ?_
 refine AX (by exact BM (p:=true) rfl gg rfl rfl d) ?_;iterate 5 refine AA ?_
 refine FX ?_;iterate 7 refine AA ?_
 refine H3 ?_;iterate 2 refine AA ?_
 refine AG ?_;refine AD (AH DA (AF rfl)) ?_;intro ρ j e;exact⟨_,rfl,Aa 45 e rfl,e.1⟩
theorem wn(c:0<=u)(d:u<=15):BOy .and 3 (.int .i64 u) (.int .i64 1) (.int .i64 (u %2)):=by
 intro p q w
 have:u=0\/u=1\/u=2\/u=3\/u=4\/u=5\/u=6\/u=7\/u=8\/u=9\/u=10\/u=11\/u=12\/u=13\/u=14\/u=15:=by omega
 rcases this with rfl|rfl|rfl|rfl|rfl|rfl|rfl|rfl|rfl|rfl|rfl|rfl|rfl|rfl|rfl|rfl<;>(go_simp;rfl)
theorem wm(c:0<=u)(d:u<=15):BOy .and 3 (.int .i64 u) (.int .i64 4) (.int .i64 (4*(u/4 %2))):=by
 intro p q w
 have:u=0\/u=1\/u=2\/u=3\/u=4\/u=5\/u=6\/u=7\/u=8\/u=9\/u=10\/u=11\/u=12\/u=13\/u=14\/u=15:=by omega
 rcases this with rfl|rfl|rfl|rfl|rfl|rfl|rfl|rfl|rfl|rfl|rfl|rfl|rfl|rfl|rfl|rfl<;>(go_simp;rfl)
def ouE(now:Int)(c:Crt):Bool:=decide (now<c.fr)||decide (now>c.to)
def usE(c:Crt):Bool:=decide (c.us %2=0)||decide (c.us/4 %2=0)
def isE(i:Int)(c:Crt):Bool:= !c.ca||decide (c.pa<i-1)
def AP(now:Int)(i:Nat)(c:Crt):Option Int:=bif ouE now c then some 7 else bif (bif decide (i=0)then usE c else isE i c)then some 9 else none
noncomputable def Cg(i:Int)(a:List Nat)(c:Crt):Option (Crt×Nat×Nat)->Option (Int×Int)
 |none=>some (i+1,2)
 |some (d,_,_)=>bif decide (d.su≠c.is)then some (i,8)else bif decide (Ob a d.ky≠0)then some (i,6)else none
noncomputable def tR2(now:Int)(a b r:List Nat):(Int×Int) ⊕ Crt:=match rdC a with
 |none=>.inl (0,2)
 |some (c,_,_)=>match AP now 0 c with
  |some e=>.inl (0,e)
  |none=>match Cg 0 a c (rdC b)with
   |some p=>.inl p
   |none=>match rdC b with
    |none=>.inl (1,2)
    |some (d,_,_)=>match AP now 1 d with
     |some e=>.inl (1,e)
     |none=>bif rok now 1 d.is b r then .inr c else .inl (1,8)
def Ms(w w':World)(e:Ending):Option (Int×Int)->Prop
 |none=>e=.returned .nilIface/\Bw w w'
 |some (a,n)=> ∃v,e=.returned v/\Ae w w' v (AL a n)/\Bw w w'
def xn(w w':World)(e:Ending):(Int×Int) ⊕ Crt->Prop
 | .inl (a,n)=> ∃u,e=.returned (.tuple #[CZ,u])/\Ae w w' u (AL a n)/\Bw w w'
 | .inr c=> ∃u,e=.returned (.tuple #[u,.nilIface])/\Ae w w' u (G5 c)/\Bw w w'
def xm(w w':World)(e:Ending):(Int×Int) ⊕ Crt->Prop
 | .inl (a,n)=>e=.returned (.tuple #[CZ,.int .i64 a,.int .i64 n])/\Bw w w'
 | .inr c=> ∃u,e=.returned (.tuple #[u,.int .i64 0,.int .i64 0])/\Ae w w' u (G5 c)/\Bw w w'
def RZV:Value:=.agg #[.int .i64 0,.string (AB []),.string (AB []),.int .i64 0,.int .i64 0,.string (AB []),.bool false,.int .i64 0,.int .i64 0]
def RcV(c:Crt):Value:=.agg #[.int .i64 c.se,.string (AB c.is),.string (AB c.su),.int .i64 c.fr,.int .i64 c.to,.string (AB c.ky),.bool c.ca,.int .i64 c.pa,.int .i64 c.us]
def uZ:(Int×Int) ⊕ Crt->Value
 | .inl (a,n)=>.tuple #[RZV,.int .i64 a,.int .i64 n]
 | .inr c=>.tuple #[RcV c,.int .i64 0,.int .i64 0]
noncomputable def nxE(a b:List Nat):Bool:=match rdC b with
 |none=>false
 |some (d,_,_)=>decide (Ob a d.ky=0)
theorem vc(hu0:0<=us)(hum:us<=15)(d:decide (us %2≠0)=u1)(hn2:decide (4*(us/4 %2)≠0)=u2)(e:(u1 && u2)=true)(ht1:decide (now<fr)=false)(ht2:decide (now>to)=false):CBy 74 #[CHV cv rv now 4,.int .i64 0,.agg #[.int .i64 se,.string (AB is),.string (AB su),.int .i64 fr,.int .i64 to,kv,.bool ca,.int .i64 pa,.int .i64 us]] w (.nilIface):=by
 go_enter zV,CT
 refine A4 ?_;cases ca<;>cases u1<;>cases u2<;>
 first|exact absurd e (by decide)|(
  iterate 14 refine AA ?_
  refine Kv ?_;refine Kx ?_;iterate 7 refine AA ?_
  refine C6 ?_;iterate 3 refine aT ?_
  iterate 2 refine AA ?_
  refine ME ?_;refine AX (by exact BB rfl gg rfl rfl d) ?_;iterate 5 refine AA ?_
  refine La ?_;refine Mm ?_;iterate 11 refine AA ?_
  refine EO ?_;iterate 5 refine AA ?_
  refine Gj ?_;iterate 16 refine AA ?_
  exact AG (AD (AH DA (AF rfl)) λ_ _ f=>⟨rfl,f.1⟩)
 )
theorem vZ(hu0:0<=us)(hum:us<=15)(d:decide (us %2≠0)=u1)(hn2:decide (4*(us/4 %2)≠0)=u2)(h:(u1 && u2)=false)(ht1:decide (now<fr)=false)(ht2:decide (now>to)=false):CDy 74 #[CHV cv rv now 4,.int .i64 0,.agg #[.int .i64 se,.string (AB is),.string (AB su),.int .i64 fr,.int .i64 to,kv,.bool ca,.int .i64 pa,.int .i64 us]] w (AL 0 9):=by
 go_enter zV,CT
 refine A4 ?_;cases ca<;>cases u1<;>cases u2<;>
 first|exact absurd h (by decide)|(
  iterate 14 refine AA ?_
  refine Kv ?_;refine Kx ?_;iterate 7 refine AA ?_
  refine C6 ?_;iterate 3 refine aT ?_
  iterate 2 refine AA ?_
  refine ME ?_;refine AX (by exact BB rfl gg rfl rfl d) ?_;iterate 5 refine AA ?_
  refine La ?_;refine Mm ?_;iterate 11 refine AA ?_
  refine EO ?_;iterate 5 refine AA ?_
  refine Gj ?_;iterate 14 refine AA ?_
  refine AX (by exact Al (D:=AL 0 9) [] rfl rfl gg rfl (eo func116) (λρ S g hb j=>FA _ _ g)) ?_;iterate 2 refine AA ?_
  refine AG ?_;refine AD (AH DA (AF rfl)) ?_;intro ρ g e;exact⟨_,rfl,Aa 50 e rfl,e.1⟩
 )
theorem ve(hu0:0<=us)(hum:us<=15)(d:decide (us %2≠0)=u1)(hn2:decide (4*(us/4 %2)≠0)=u2)(ht1:decide (now<fr)=false)(ht2:decide (now>to)=true):CDy 74 #[CHV cv rv now 4,.int .i64 0,.agg #[.int .i64 se,.string (AB is),.string (AB su),.int .i64 fr,.int .i64 to,kv,.bool ca,.int .i64 pa,.int .i64 us]] w (AL 0 7):=by
 go_enter zV,CT
 refine A4 ?_;cases ca<;>cases u1<;>cases u2<;>
 (
  iterate 14 refine AA ?_
  refine Kv ?_;refine Kx ?_;iterate 7 refine AA ?_
  refine C6 ?_;iterate 3 refine aT ?_
  iterate 2 refine AA ?_
  refine ME ?_;refine AX (by exact BB rfl gg rfl rfl d) ?_;iterate 5 refine AA ?_
  refine La ?_;refine Mm ?_;iterate 11 refine AA ?_
  refine EO ?_;iterate 5 refine AA ?_
  refine Hz ?_;iterate 7 refine AA ?_
  refine Kw ?_;iterate 2 refine AA ?_
  refine AG ?_;refine AD (AH DA (AF rfl)) ?_;intro ρ g e;exact⟨_,rfl,Aa 45 e rfl,e.1⟩
 )
theorem vd(hu0:0<=us)(hum:us<=15)(d:decide (us %2≠0)=u1)(hn2:decide (4*(us/4 %2)≠0)=u2)(e:decide (now<fr)=true):CDy 74 #[CHV cv rv now 4,.int .i64 0,.agg #[.int .i64 se,.string (AB is),.string (AB su),.int .i64 fr,.int .i64 to,kv,.bool ca,.int .i64 pa,.int .i64 us]] w (AL 0 7):=by
 go_enter zV,CT
 refine A4 ?_;cases ca<;>cases u1<;>cases u2<;>
 (
  iterate 14 refine AA ?_
  refine Kv ?_;refine Kx ?_;iterate 7 refine AA ?_
  refine C6 ?_;iterate 3 refine aT ?_
  iterate 2 refine AA ?_
  refine ME ?_;refine AX (by exact BB rfl gg rfl rfl d) ?_;iterate 5 refine AA ?_
  refine La ?_;refine Mm ?_;iterate 11 refine AA ?_
  refine AX (by exact BM (p:=true) rfl gg rfl rfl e) ?_;iterate 5 refine AA ?_
  refine FX ?_;iterate 7 refine AA ?_
  refine Kw ?_;iterate 2 refine AA ?_
  refine AG ?_;refine AD (AH DA (AF rfl)) ?_;intro ρ h g;exact⟨_,rfl,Aa 45 g rfl,g.1⟩
 )
theorem jU{c:Crt}(d:0<=c.us)(f:c.us<=15):Calls prog 74 #[CHV cv rv now 4,.int .i64 0,CVV c kv] w λe o=>Ms w o e ((AP now 0 c).map λn=>(0,n)):=by
 obtain⟨u1,j⟩:∃u,decide (c.us %2≠0)=u:=⟨_,rfl⟩
 obtain⟨u2,k⟩:∃u,decide (4*(c.us/4 %2)≠0)=u:=⟨_,rfl⟩
 have m:usE c= !(u1 && u2):=by
  unfold usE;subst j k;by_cases a:c.us %2=0<;>by_cases b:c.us/4 %2=0<;>simp[a,b]<;>omega
 cases g:decide (now<c.fr)with
 |true=>
  have e:AP now 0 c=some 7:=by unfold AP ouE;rw[g];rfl
  rw[e];exact vd w d f j k g
 |false=>
  cases h:decide (now>c.to)with
  |true=>
   have e:AP now 0 c=some 7:=by unfold AP ouE;rw[g,h];rfl
   rw[e];exact ve w d f j k g h
  |false=>
   cases l:(u1 && u2)with
   |true=>
    have e:AP now 0 c=none:=by unfold AP ouE;rw[g,h,m,l];rfl
    rw[e];exact vc w d f j k l g h
   |false=>
    have e:AP now 0 c=some 9:=by unfold AP ouE;rw[g,h,m,l];rfl
    rw[e];exact vZ w d f j k l g h
theorem jT{c:Crt}:Calls prog 74 #[CHV cv rv now 4,.int .i64 1,CVV c kv] w λe o=>Ms w o e ((AP now 1 c).map λn=>(1,n)):=by
 obtain⟨se,is,su,fr,to,j,ca,pa,us⟩:=c;have k:∀g,isE ((1:Nat):Int) ⟨se,is,su,fr,to,j,g,pa,us⟩=(!g||decide (pa<1-1)):=λg=>rfl
 have l:decide ((1:Nat)=0)=false:=rfl;cases d:decide (now<fr)with
 |true=>
  have e:AP now 1 ⟨se,is,su,fr,to,j,ca,pa,us⟩=some 7:=by unfold AP ouE;simp only[d];rfl
  rw[e];cases ca with
  |false=>exact vt w (by decide) (by decide) d
  |true=>
   cases h:decide (pa>=1-1)with
   |true=>exact vp w (by decide) (by decide) h d
   |false=>exact vq w (by decide) (by decide) h d
 |false=>
  cases f:decide (now>to)with
  |true=>
   have e:AP now 1 ⟨se,is,su,fr,to,j,ca,pa,us⟩=some 7:=by unfold AP ouE;simp only[d,f];rfl
   rw[e];cases ca with
   |false=>exact vw w (by decide) (by decide) d f
   |true=>
    cases h:decide (pa>=1-1)with
    |true=>exact vu w (by decide) (by decide) h d f
    |false=>exact vv w (by decide) (by decide) h d f
  |false=>
   cases ca with
   |false=>
    have e:AP now 1 ⟨se,is,su,fr,to,j,false,pa,us⟩=some 9:=by unfold AP ouE;simp only[d,f,l,k];rfl
    rw[e];exact vn w (by decide) (by decide) d f
   |true=>
    cases h:decide (pa>=1-1)with
    |true=>
     have m:decide (pa<1-1)=false:=by have:=yA h;exact yB (by omega)
     have e:AP now 1 ⟨se,is,su,fr,to,j,true,pa,us⟩=none:=by unfold AP ouE;simp only[d,f,l,k,m];rfl
     rw[e];exact vo w (by decide) (by decide) h d f
    |false=>
     have m:decide (pa<1-1)=true:=by have:=yC h;exact yE (by omega)
     have e:AP now 1 ⟨se,is,su,fr,to,j,true,pa,us⟩=some 9:=by unfold AP ouE;simp only[d,f,l,k,m];rfl
     rw[e];exact vm w (by decide) (by decide) h d f
theorem F6{w:World}{f:Nat}{m:Mem}{c:Crt}(k:Nat)(n:Int)(g:Nat)(R:Ending->World->Prop)(o:RelOn f ρ S w (restr rd m))(j:g∈rd)(p:m g=some (.dat (G5 c)))
 (h:∀kv,Calls prog k #[CHV cv rv now use,.int .i64 n,CVV c kv] w R):Calls prog k (SV.cs ρ [.agg [.v cv,.v rv,.v (.int .i64 now),.v (.int .i64 use)],.v (.int .i64 n),.agg [.v (.int .i64 c.se),.v (.string (AB c.is)),.v (.string (AB c.su)),.v (.int .i64 c.fr),.v (.int .i64 c.to),.fn (AN 5) (.d g),.v (.bool c.ca),.v (.int .i64 c.pa),.v (.int .i64 c.us)]]).toArray w R:=by
 obtain⟨kv,l,_⟩:=cX o j p;have e:SV.cs ρ [.agg [.v cv,.v rv,.v (.int .i64 now),.v (.int .i64 use)],.v (.int .i64 n),.agg [.v (.int .i64 c.se),.v (.string (AB c.is)),.v (.string (AB c.su)),.v (.int .i64 c.fr),.v (.int .i64 c.to),.fn (AN 5) (.d g),.v (.bool c.ca),.v (.int .i64 c.pa),.v (.int .i64 c.us)]]=[CHV cv rv now use,.int .i64 n,CVV c kv]:=by simp only[SV.cs,l];rfl
 rw[e];exact h kv
theorem fG{F:Nat->Prop}{c:Crt}(q:Laid w)(p:B6 w)(o:CQ w)(f:7<w.heap.size)(t:AO w cv 2 1 [va,vb] F)(s:AO w vb b.length 1 (b.map b8) Gb)(d:∀x∈b,x<256)(m:b.length<=1048576)(l:∀x∈c.is,x<256)(g:AO w rv 1 1 [vr] G)(j:B9 w G [r] [vr])(z:∀x∈r,x<256)(A:r.length<=1048576):Calls prog 75 #[CHV cv rv now use,.int .i64 1,CVV c kv] w λe B=>Ms w B e (bif rok now 1 c.is b r then none else some (1,8)):=by
 have k:∀x∈[r],(∀y∈x,y<256)/\x.length<=1048576:=λx v=>by rcases RK.1 v with rfl;exact⟨z,A⟩
 cases h:rok now 1 c.is b r with
 |true=>exact fF (i:=1) (n:=2) (vs:=[va,vb]) (Rs:=[r]) w q p o f t (by decide) (by decide) rfl s d m l g j (RT rfl) k rfl (by simp[h])
 |false=>exact uy (i:=1) (n:=2) (vs:=[va,vb]) (Rs:=[r]) w q p o f t (by decide) (by decide) rfl s d m l g j (RT rfl) k rfl (by simp[h])
theorem fI{F:Nat->Prop}{c:Crt}(P:Laid w)(X:B6 w)(W:CQ w)(Q:7<w.heap.size)(hc:AO w cv 2 1 [va,vb] F)(Y:AO w va a.length 1 (a.map b8) Ga)(N:AO w vb b.length 1 (b.map b8) Gb)(U:∀x∈a,x<256)(V:a.length<=1048576)(I:∀x∈b,x<256)(O:b.length<=1048576)(R:∀x∈c.is,x<256):Calls prog 75 #[CHV cv rv now use,.int .i64 0,.agg #[.int .i64 c.se,.string (AB c.is),.string (AB c.su),.int .i64 c.fr,.int .i64 c.to,kv,.bool c.ca,.int .i64 c.pa,.int .i64 c.us]] w λe m=>Ms w m e (Cg 0 a c (rdC b)):=by
 go_enter func75,ntmps75
 refine A4 ?_;iterate 12 refine AA ?_
 refine D2 ?_;refine AX (by exact Bu (c:=1) rfl gg rfl rfl (by decide)) ?_;refine Gt ?_;iterate 4 refine aT ?_
 rcases L:rdC b with _|⟨⟨B,s,l,o,C,j,n,A,E⟩,r,t⟩
 .skip
  refine aT ?_;iterate 2 refine AA ?_
  refine C4 ?_;refine AX (by exact Kk (D:=AL 1 2) (y:=CZ) [] rfl rfl gg rfl (eo func73) (λρ S m q J=>XU (i:=1) m (P.bw q) (A5 hc q) (by decide) rfl (A5 N q) I O L)) ?_;iterate 12 refine AA ?_
  refine FE ?_;iterate 8 refine AA ?_
  refine AG ?_;refine AD (AH results75 (AF rfl)) ?_;intro ρ m g;exact⟨_,rfl,Aa 23 g rfl,g.1⟩
 .have T:=iG I O L
  obtain⟨p,H⟩:∃p,decide (l≠c.is)=p:=⟨_,rfl⟩
  obtain⟨z,K⟩:∃z,decide (Ob a j≠0)=z:=⟨_,rfl⟩
  refine aT ?_;iterate 2 refine AA ?_
  refine C4 ?_;refine AX (by exact DL (D:=G5 ⟨B,s,l,o,C,j,n,A,E⟩) (ys:=[.nilIface]) [] rfl rfl gg rfl (eo func73) (λρ S m q J=>KP (i:=1) m (P.bw q) (A5 hc q) (by decide) rfl (A5 N q) I O L)) ?_;iterate 4 refine AA ?_
  refine AX (by exact Bh (vl:=[.v (.int .i64 B),.v (.string (AB s)),.v (.string (AB l)),.v (.int .i64 o),.v (.int .i64 C),.fn (AN 5) (.d 23),.v (.bool n),.v (.int .i64 A),.v (.int .i64 E)]) [23,7] rfl gg rfl rfl rfl yN rfl (λρ S m _ J=>by obtain⟨kv,e,h⟩:=Nb (id:=23) J (by simp) rfl;exact QL e h) rfl (by simp)) ?_;iterate 7 refine AA ?_
  refine IK ?_;iterate 5 refine AA ?_
  refine AX (by first|exact BG rfl gg rfl zB rfl CD|exact BF rfl gg rfl zB rfl CD) ?_;refine AA ?_;refine AX (by first|exact BG rfl gg rfl zB rfl CD|exact BF rfl gg rfl zB rfl CD) ?_;refine AA ?_;refine AX (by exact AK (c:=.bool p) rfl gg rfl rfl (λw=>Hp H T.2.1.s8 R _ _ w)) ?_;iterate 2 refine AA ?_
  cases p
  .iterate 3 refine aT ?_
   iterate 3 refine AA ?_
   refine AX (by exact Bc (k:=0) rfl gg rfl rfl yX y7 (AW hc) (by decide) (by decide)) ?_;refine AX (by exact Cb rfl gg rfl x7 rfl (AW hc) rfl) ?_;refine AX (by first|exact BG rfl gg rfl zB rfl y7|exact BF rfl gg rfl zB rfl y7) ?_;refine AX (by first|exact BK rfl gg rfl rfl x7 rfl rfl|exact BR rfl gg rfl x7 rfl (by assumption)) ?_;refine AX (by exact Aj (v:=.int .i64 (Ob a j)) [23] rfl gg rfl (eo func20) (λρ S m q J=>qS (c:=⟨B,s,l,o,C,j,n,A,E⟩) 23 (P.bw q) (X.bw q) (W.bw q) (yK Q (Below.size q)) (A5 Y q) U V T.2.1.k8 J (by simp) rfl)) ?_;refine AX (by exact BB rfl gg rfl rfl K) ?_;iterate 2 refine AA ?_
   cases z
   .refine aT ?_
    have M:Cg 0 a c (some (⟨B,s,l,o,C,j,n,A,E⟩,r,t))=none:=by unfold Cg;simp only[H,K];rfl
    iterate 5 refine AA ?_
    refine AG ?_;refine AD (AH results75 (AF rfl)) ?_;intro ρ m g;rw[M];first|exact⟨rfl,g.1⟩|exact⟨_,rfl,Aa 37 g rfl,g.1⟩|exact⟨_,rfl,Aa 49 g rfl,g.1⟩
   .refine aT ?_
    have M:Cg 0 a c (some (⟨B,s,l,o,C,j,n,A,E⟩,r,t))=some (0,6):=by unfold Cg;simp only[H,K];rfl
    iterate 3 refine AA ?_
    refine AX (by exact Al (D:=AL 0 6) [] rfl rfl gg rfl (eo func116) (λρ S m N J=>FA _ _ m)) ?_;iterate 2 refine AA ?_
    refine AG ?_;refine AD (AH results75 (AF rfl)) ?_;intro ρ m g;rw[M];first|exact⟨rfl,g.1⟩|exact⟨_,rfl,Aa 37 g rfl,g.1⟩|exact⟨_,rfl,Aa 49 g rfl,g.1⟩
  .refine aT ?_
   have M:Cg 0 a c (some (⟨B,s,l,o,C,j,n,A,E⟩,r,t))=some (0,8):=by unfold Cg;simp only[H];rfl
   iterate 3 refine AA ?_
   refine AX (by exact Al (D:=AL 0 8) [] rfl rfl gg rfl (eo func116) (λρ S m N J=>FA _ _ m)) ?_;iterate 2 refine AA ?_
   refine AG ?_;refine AD (AH results75 (AF rfl)) ?_;intro ρ m g;rw[M];first|exact⟨rfl,g.1⟩|exact⟨_,rfl,Aa 37 g rfl,g.1⟩|exact⟨_,rfl,Aa 49 g rfl,g.1⟩
theorem jV{F:Nat->Prop}(K:Laid w)(U:B6 w)(T:CQ w)(J:7<w.heap.size)(hc:AO w cv 2 1 [va,vb] F)(V:AO w va a.length 1 (a.map b8) Ga)(O:AO w vb b.length 1 (b.map b8) Gb)(M:∀x∈a,x<256)(N:a.length<=1048576)(A:∀x∈b,x<256)(L:b.length<=1048576)(P:AO w rv 1 1 [vr] G)(Q:B9 w G [r] [vr])(Y:∀x∈r,x<256)(Z:r.length<=1048576):Calls prog 42 #[CHV cv rv now 4] w λe j=>xn w j e (tR2 now a b r):=by
 go_enter func42,ntmps42
 refine A4 ?_;iterate 9 refine AA ?_
 iterate 4 refine aT ?_
 iterate 2 refine AA ?_
 refine D2 ?_;iterate 3 refine AA ?_
 refine Br 3 ?_;change VOk _ _ _ _ _;iterate 2 refine aT ?_
 refine EP ?_;iterate 12 refine AA ?_
 rcases l:rdC a with _|⟨c,r0,t0⟩
 .have H:tR2 now a b r=.inl (0,2):=by unfold tR2;simp only[l]
  refine aT ?_;iterate 2 refine AA ?_
  refine AX (by exact Kk (D:=AL 0 2) (y:=CZ) [] rfl rfl gg rfl (eo func73) (λρ S j g m=>XU (i:=0) j (K.bw g) (A5 hc g) (by decide) rfl (A5 V g) M N l)) ?_;iterate 11 refine AA ?_
  refine AX (by exact JX rfl gg rfl rfl) ?_;iterate 7 refine AA ?_
  refine AX (by exact JX rfl gg rfl rfl) ?_;iterate 7 refine AA ?_
  refine FE ?_;iterate 4 refine aT ?_
  refine MG ?_;iterate 4 refine AA ?_
  refine AG ?_;refine AD (Av results42 (Am rfl rfl zB rfl yN rfl) (AF rfl)) ?_;intro ρ j s;rw[H];exact⟨_,rfl,Aa 17 s rfl,s.1⟩
 .have E:=iG M N l
  refine aT ?_;iterate 2 refine AA ?_
  refine AX (by exact DL (D:=G5 c) (ys:=[.nilIface]) [] rfl rfl gg rfl (eo func73) (λρ S j g m=>KP (i:=0) j (K.bw g) (A5 hc g) (by decide) rfl (A5 V g) M N l)) ?_;iterate 4 refine AA ?_
  refine Lk ?_;iterate 6 refine AA ?_
  refine Gk ?_;iterate 2 refine aT ?_
  rcases z:AP now 0 c with _|q
  .skip
   refine aT ?_;iterate 3 refine AA ?_
   refine AX (by exact Aj (v:=.nilIface) [17] rfl gg rfl (eo zV) (λρ S j g m=>F6 74 0 17 _ m (by simp) rfl (λkv=>by have h:=jU (now:=now) (cv:=cv) (rv:=rv) (kv:=kv) (c:=c) j E.2.1.u0 E.2.1.um;rw[z]at h;exact h))) ?_;iterate 6 refine AA ?_
   refine Gk ?_;iterate 2 refine aT ?_
   rcases k:Cg 0 a c (rdC b)with _|⟨p,n⟩
   .skip
    refine aT ?_;iterate 3 refine AA ?_
    refine AX (by exact Aj (v:=.nilIface) [17] rfl gg rfl (eo func75) (λρ S j g m=>F6 75 0 17 _ m (by simp) rfl (λkv=>by have h:=fI (now:=now) (use:=4) (rv:=rv) (kv:=kv) (c:=c) j (K.bw g) (U.bw g) (T.bw g) (yK J (Below.size g)) (A5 hc g) (A5 V g) (A5 O g) M N A L E.2.1.i8;rw[k]at h;exact h))) ?_;iterate 6 refine AA ?_
    refine IK ?_;iterate 6 refine AA ?_
    refine C6 ?_;iterate 3 refine aT ?_
    refine AA ?_;refine Lk ?_;iterate 2 refine aT ?_
    refine C4 ?_;iterate 2 refine AA ?_
    refine VOk.weak (B:=λf=>⟨(.v (f 0)::.p 1 0::.p 2 0::.v .nilIface::.p 4 0::.v (f 5)::.v (f 6)::.v (f 7)::.v (f 8)::.v (f 9)::.v (.int .i64 2)::.v (.int .i64 1)::fv f 29 12 []),AJ [(917,.dat (G5 c)),(4,.cells [.v (.int .i64 c.se),.v (.string (AB c.is)),.v (.string (AB c.su)),.v (.int .i64 c.fr),.v (.int .i64 c.to),.fn (AN 5) (.d 917),.v (.bool c.ca),.v (.int .i64 c.pa),.v (.int .i64 c.us)] 34),(2,.cells [.v (.int .i64 0),.v (.string (ByteArray.mk #[])),.v (.string (ByteArray.mk #[])),.v (.int .i64 0),.v (.int .i64 0),.v (.slice none 0 0),.v (.bool false),.v (.int .i64 0),.v (.int .i64 0)] 34),(1,.cells [.v cv,.v rv,.v (.int .i64 now),.v (.int .i64 4)] 95)]⟩) ((Ar (λi=>i==1||i==2||i==3||i==4||i==10||i==11) [6]).trans2 (λf=>Dk 17 917 (by decide) rfl)) λf=> ?_
    simp only[fv,Nat.reduceAdd];iterate 2 refine aT ?_
    refine EP ?_;iterate 12 refine AA ?_
    obtain⟨⟨d,r1,t1⟩,C⟩:∃x,rdC b=some x:=by
     rcases h:rdC b with _|x
     .rw[h]at k;cases k
     .exact⟨x,rfl⟩
    rw[C]at k
    .have R:=iG A L C
     refine aT ?_;iterate 2 refine AA ?_
     refine AX (by exact DL (D:=G5 d) (ys:=[.nilIface]) [] rfl rfl gg rfl (eo func73) (λρ S j g m=>KP (i:=1) j (K.bw g) (A5 hc g) (by decide) rfl (A5 O g) A L C)) ?_;iterate 4 refine AA ?_
     refine Lp ?_;iterate 6 refine AA ?_
     refine Gk ?_;iterate 2 refine aT ?_
     rcases I:AP now 1 d with _|q
     .skip
      refine aT ?_;iterate 3 refine AA ?_
      refine AX (by exact Aj (v:=.nilIface) [17] rfl gg rfl (eo zV) (λρ S j g m=>F6 74 1 17 _ m (by simp) rfl (λkv=>by have h:=jT (now:=now) (cv:=cv) (rv:=rv) (kv:=kv) (c:=d) j;rw[I]at h;exact h))) ?_;iterate 6 refine AA ?_
      refine Gk ?_;iterate 2 refine aT ?_
      rcases o:(bif rok now 1 d.is b r then none else some ((1:Int),(8:Int)):Option (Int×Int))with _|⟨p,n⟩
      .have W:rok now 1 d.is b r=true:=by
        cases h:rok now 1 d.is b r
        .rw[h]at o;cases o
        .rfl
       have H:tR2 now a b r=.inr c:=by unfold tR2;simp only[l,z,k,C,I,W,cond_true]
       refine aT ?_;iterate 3 refine AA ?_
       refine AX (by exact Aj (v:=.nilIface) [17] rfl gg rfl (eo func75) (λρ S j g m=>F6 75 1 17 _ m (by simp) rfl (λkv=>by have h:=fG (now:=now) (use:=4) (kv:=kv) (c:=d) j (K.bw g) (U.bw g) (T.bw g) (yK J (Below.size g)) (A5 hc g) (A5 O g) A L R.2.1.i8 (A5 P g) (EJ g Q) Y Z;rw[o]at h;exact h))) ?_;iterate 6 refine AA ?_
       refine IK ?_;iterate 6 refine AA ?_
       refine Gt ?_;iterate 4 refine aT ?_
       refine II ?_;iterate 4 refine AA ?_
       refine DY ?_;iterate 3 refine aT ?_
       refine As ?_;change VOk _ _ _ _ _;iterate 2 refine aT ?_
       refine AA ?_;refine Lp ?_;iterate 2 refine AA ?_
       refine AG ?_;refine AD (Av results42 (Am rfl rfl zB rfl yN rfl) (AF rfl)) ?_;intro ρ j s;rw[H];exact⟨_,rfl,gR 917 s rfl,s.1⟩
      .have W:rok now 1 d.is b r=false:=by
        cases h:rok now 1 d.is b r
        .rfl
        .rw[h]at o;cases o
       have X:p=1/\n=8:=by rw[W]at o;cases o;exact⟨rfl,rfl⟩
       obtain⟨rfl,rfl⟩:=X;have H:tR2 now a b r=.inl (1,8):=by unfold tR2;simp only[l,z,k,C,I,W,cond_false]
       refine aT ?_;iterate 3 refine AA ?_
       refine AX (by exact Al (D:=AL 1 8) [17] rfl rfl gg rfl (eo func75) (λρ S j g m=>F6 75 1 17 _ m (by simp) rfl (λkv=>by have h:=fG (now:=now) (use:=4) (kv:=kv) (c:=d) j (K.bw g) (U.bw g) (T.bw g) (yK J (Below.size g)) (A5 hc g) (A5 O g) A L R.2.1.i8 (A5 P g) (EJ g Q) Y Z;rw[o]at h;exact h))) ?_;iterate 6 refine AA ?_
       refine FE ?_;iterate 4 refine aT ?_
       refine MG ?_;refine AA ?_;refine Lp ?_;iterate 2 refine AA ?_
       refine AG ?_;refine AD (Av results42 (Am rfl rfl zB rfl yN rfl) (AF rfl)) ?_;intro ρ j s;rw[H];exact⟨_,rfl,Aa 31 s rfl,s.1⟩
     .have H:tR2 now a b r=.inl (1,q):=by unfold tR2;simp only[l,z,k,C,I]
      refine aT ?_;iterate 3 refine AA ?_
      refine AX (by exact Al (D:=AL 1 q) [17] rfl rfl gg rfl (eo zV) (λρ S j g m=>F6 74 1 17 _ m (by simp) rfl (λkv=>by have h:=jT (now:=now) (cv:=cv) (rv:=rv) (kv:=kv) (c:=d) j;rw[I]at h;exact h))) ?_;iterate 6 refine AA ?_
      refine AX (by exact JX rfl gg rfl rfl) ?_;iterate 7 refine AA ?_
      refine FE ?_;iterate 4 refine aT ?_
      refine MG ?_;refine AA ?_;refine Lp ?_;iterate 2 refine AA ?_
      refine AG ?_;refine AD (Av results42 (Am rfl rfl zB rfl yN rfl) (AF rfl)) ?_;intro ρ j s;rw[H];exact⟨_,rfl,Aa 25 s rfl,s.1⟩
   .have H:tR2 now a b r=.inl (p,n):=by unfold tR2;simp only[l,z,k]
    refine aT ?_;iterate 3 refine AA ?_
    refine AX (by exact Al (D:=AL p n) [17] rfl rfl gg rfl (eo func75) (λρ S j g m=>F6 75 0 17 _ m (by simp) rfl (λkv=>by have h:=fI (now:=now) (use:=4) (rv:=rv) (kv:=kv) (c:=c) j (K.bw g) (U.bw g) (T.bw g) (yK J (Below.size g)) (A5 hc g) (A5 V g) (A5 O g) M N A L E.2.1.i8;rw[k]at h;exact h))) ?_;iterate 6 refine AA ?_
    refine FE ?_;iterate 4 refine aT ?_
    refine MG ?_;refine AA ?_;refine Lk ?_;iterate 2 refine AA ?_
    refine AG ?_;refine AD (Av results42 (Am rfl rfl zB rfl yN rfl) (AF rfl)) ?_;intro ρ j s;rw[H];exact⟨_,rfl,Aa 31 s rfl,s.1⟩
  .have H:tR2 now a b r=.inl (0,q):=by unfold tR2;simp only[l,z]
   refine aT ?_;iterate 3 refine AA ?_
   refine AX (by exact Al (D:=AL 0 q) [17] rfl rfl gg rfl (eo zV) (λρ S j g m=>F6 74 0 17 _ m (by simp) rfl (λkv=>by have h:=jU (now:=now) (cv:=cv) (rv:=rv) (kv:=kv) (c:=c) j E.2.1.u0 E.2.1.um;rw[z]at h;exact h))) ?_;iterate 6 refine AA ?_
   refine AX (by exact JX rfl gg rfl rfl) ?_;iterate 7 refine AA ?_
   refine FE ?_;iterate 4 refine aT ?_
   refine MG ?_;refine AA ?_;refine Lk ?_;iterate 2 refine AA ?_
   refine AG ?_;refine AD (Av results42 (Am rfl rfl zB rfl yN rfl) (AF rfl)) ?_;intro ρ j s;rw[H];exact⟨_,rfl,Aa 25 s rfl,s.1⟩
theorem tV{F:Nat->Prop}(L:Laid w)(K:B6 w)(J:CQ w)(j:7<w.heap.size)(U:Ci w)(O:AO w cv 2 1 [va,vb] F)(M:AO w va a.length 1 (a.map b8) Ga)(N:AO w vb b.length 1 (b.map b8) Gb)(C:∀x∈a,x<256)(E:a.length<=1048576)(l:∀x∈b,x<256)(H:b.length<=1048576)(n:AO w rv 1 1 [vr] G)(o:B9 w G [r] [vr])(P:∀x∈r,x<256)(Q:r.length<=1048576):Calls prog 18 #[cv,rv,.int .i64 now,.int .i64 4] w λe k=>xm w k e (tR2 now a b r):=by
 have hc':=O;have g:=n;obtain⟨V,T,z,_⟩:=O;obtain⟨R,I,A,_⟩:=n;subst z A
 go_enter func18,ntmps18
 refine A4 ?_;iterate 2 refine aT ?_
 iterate 8 refine AA ?_
 refine P0 ?_;refine DY ?_;iterate 2 refine AA ?_
 refine TD ?_;refine H2 ?_;iterate 3 refine AA ?_
 refine Gs ?_;iterate 2 refine AA ?_
 refine Km ?_;iterate 6 refine AA ?_
 rcases m:tR2 now a b r with⟨p,q⟩|c
 .skip
  iterate 5 refine AA ?_
  refine Ln ?_;refine AX (by exact Kk (D:=AL p q) (y:=CZ) [] rfl rfl gg rfl (eo func42) (λρ S k d B=>(by have h:=jV (now:=now) k (L.bw d) (K.bw d) (J.bw d) (yK j (Below.size d)) (A5 hc' d) (A5 M d) (A5 N d) C E l H (A5 g d) (EJ d o) P Q;rw[m]at h;exact h))) ?_;iterate 4 refine AA ?_
  refine d_5 ?_;iterate 6 refine AA ?_
  refine FE ?_;iterate 5 refine AA ?_
  refine AX (by exact Aj (v:=.tuple #[.int .i64 p,.int .i64 q]) [38] rfl gg rfl (eo func43) (λρ S k d B=>qJ 38 (U.bw j d) B (by simp) rfl)) ?_;iterate 8 refine AA ?_
  refine MG ?_;iterate 2 refine AA ?_
  refine d_5 ?_;iterate 3 refine AA ?_
  exact AG (AD (BX results18 (Am rfl rfl zB rfl yN rfl) (AF rfl) (AF rfl)) λ_ _ s=>⟨rfl,s.1⟩)
 .skip
  iterate 5 refine AA ?_
  refine Ln ?_;refine AX (by exact DL (D:=G5 c) (ys:=[.nilIface]) [] rfl rfl gg rfl (eo func42) (λρ S k d B=>(by have h:=jV (now:=now) k (L.bw d) (K.bw d) (J.bw d) (yK j (Below.size d)) (A5 hc' d) (A5 M d) (A5 N d) C E l H (A5 g d) (EJ d o) P Q;rw[m]at h;exact h))) ?_;iterate 4 refine AA ?_
  refine d_5 ?_;iterate 6 refine AA ?_
  refine IK ?_;iterate 5 refine aT ?_
  refine AA ?_;refine d_5 ?_;iterate 3 refine AA ?_
  refine AG ?_;refine AD (BX results18 (Am rfl rfl zB rfl yN rfl) (AF rfl) (AF rfl)) ?_;intro ρ k s;exact⟨_,rfl,gR 38 s rfl,s.1⟩
end Go.Proofs.YtafbhakmkbehiaaGreatDoor
