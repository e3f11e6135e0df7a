import Derived.LaidHandle
import Derived.Test.YtafbhakmkbehiaaGreatDoorW21
open Go.Proofs.Tryz
set_option maxHeartbeats 4000000
set_option maxRecDepth 100000
namespace Go.Proofs.YtafbhakmkbehiaaGreatDoor
open Go.RowKit Go.Vx Go.ChangeShapes Go.WideShapes Go.ChangeAt Go.Lib
variable(w:World){ca:Bool}{fr now pa se to us use x1 x2:Int}{Rs:List (List Nat)}{b bi is rd su:List Nat}{us' vs:List Value}{i n r t:Nat}{S:Nat->Nat->Prop}{ρ:Nat->Nm}{G G':Nat->Prop}{α:Type}{cv kv rv vi:Value}
open TollMont
open TollEc (F base)
theorem vY(hx1:∀(p q:Operand) (w:World),(do eqGuard .and 3 p q (.int .i64 us) (.int .i64 1);binOp .and 3 (.int .i64 us) (.int .i64 1):Sem Value).run prog w=.ok (.int .i64 x1) w)(hx2:∀(p q:Operand) (w:World),(do eqGuard .and 3 p q (.int .i64 us) (.int .i64 use);binOp .and 3 (.int .i64 us) (.int .i64 use):Sem Value).run prog w=.ok (.int .i64 x2) w)(a:decide (x1≠0)=true)(hn2:decide (x2≠0)=true)(ht1:decide (now<fr)=false)(ht2:decide (now>to)=false):CBy 74 #[CHV cv rv now use,.int .i64 0,.agg #[.int .i64 se,.string (AB is),.string (AB su),.int .i64 fr,.int .i64 to,kv,.bool false,.int .i64 pa,.int .i64 us]] w (.nilIface):=by
 go_enter zV,CT
 refine A4 ?_;iterate 14 refine AA ?_
 refine Mi ?_;refine Mj ?_;iterate 7 refine AA ?_
 refine C6 ?_;iterate 3 refine aT ?_
 iterate 2 refine AA ?_
 refine Lo ?_;refine AX (by exact BB (p:=true) rfl gg rfl rfl a) ?_;iterate 5 refine AA ?_
 refine Mo ?_;refine MF ?_;iterate 11 refine AA ?_
 refine EO ?_;iterate 5 refine AA ?_
 refine Gj ?_;iterate 16 refine AA ?_
 exact AG (AD (AH DA (AF rfl)) λ_ _ d=>⟨rfl,d.1⟩)
theorem vW(hx1:∀(p q:Operand) (w:World),(do eqGuard .and 3 p q (.int .i64 us) (.int .i64 1);binOp .and 3 (.int .i64 us) (.int .i64 1):Sem Value).run prog w=.ok (.int .i64 x1) w)(hx2:∀(p q:Operand) (w:World),(do eqGuard .and 3 p q (.int .i64 us) (.int .i64 use);binOp .and 3 (.int .i64 us) (.int .i64 use):Sem Value).run prog w=.ok (.int .i64 x2) w)(a:decide (x1≠0)=true)(hn2:decide (x2≠0)=true)(ht1:decide (now<fr)=false)(ht2:decide (now>to)=true):CDy 74 #[CHV cv rv now use,.int .i64 0,.agg #[.int .i64 se,.string (AB is),.string (AB su),.int .i64 fr,.int .i64 to,kv,.bool false,.int .i64 pa,.int .i64 us]] w (AL 0 7):=by
 go_enter zV,CT
 refine A4 ?_;iterate 14 refine AA ?_
 refine Mi ?_;refine Mj ?_;iterate 7 refine AA ?_
 refine C6 ?_;iterate 3 refine aT ?_
 iterate 2 refine AA ?_
 refine Lo ?_;refine AX (by exact BB (p:=true) rfl gg rfl rfl a) ?_;iterate 5 refine AA ?_
 refine Mo ?_;refine MF ?_;iterate 11 refine AA ?_
 refine EO ?_;iterate 5 refine AA ?_
 refine Hz ?_;iterate 7 refine AA ?_
 refine Kw ?_;iterate 2 refine AA ?_
 refine AG ?_;refine AD (AH DA (AF rfl)) ?_;intro ρ e d;exact⟨_,rfl,Aa 45 d rfl,d.1⟩
theorem vX(hx1:∀(p q:Operand) (w:World),(do eqGuard .and 3 p q (.int .i64 us) (.int .i64 1);binOp .and 3 (.int .i64 us) (.int .i64 1):Sem Value).run prog w=.ok (.int .i64 x1) w)(hx2:∀(p q:Operand) (w:World),(do eqGuard .and 3 p q (.int .i64 us) (.int .i64 use);binOp .and 3 (.int .i64 us) (.int .i64 use):Sem Value).run prog w=.ok (.int .i64 x2) w)(a:decide (x1≠0)=true)(hn2:decide (x2≠0)=true)(ht1:decide (now<fr)=false)(ht2:decide (now>to)=false):CBy 74 #[CHV cv rv now use,.int .i64 0,.agg #[.int .i64 se,.string (AB is),.string (AB su),.int .i64 fr,.int .i64 to,kv,.bool true,.int .i64 pa,.int .i64 us]] w (.nilIface):=by
 go_enter zV,CT
 refine A4 ?_;iterate 14 refine AA ?_
 refine Mi ?_;refine Mj ?_;iterate 7 refine AA ?_
 refine C6 ?_;iterate 3 refine aT ?_
 iterate 2 refine AA ?_
 refine Lo ?_;refine AX (by exact BB (p:=true) rfl gg rfl rfl a) ?_;iterate 5 refine AA ?_
 refine Mo ?_;refine MF ?_;iterate 11 refine AA ?_
 refine EO ?_;iterate 5 refine AA ?_
 refine Gj ?_;iterate 16 refine AA ?_
 exact AG (AD (AH DA (AF rfl)) λ_ _ d=>⟨rfl,d.1⟩)
theorem vV(hx1:∀(p q:Operand) (w:World),(do eqGuard .and 3 p q (.int .i64 us) (.int .i64 1);binOp .and 3 (.int .i64 us) (.int .i64 1):Sem Value).run prog w=.ok (.int .i64 x1) w)(hx2:∀(p q:Operand) (w:World),(do eqGuard .and 3 p q (.int .i64 us) (.int .i64 use);binOp .and 3 (.int .i64 us) (.int .i64 use):Sem Value).run prog w=.ok (.int .i64 x2) w)(a:decide (x1≠0)=true)(hn2:decide (x2≠0)=true)(ht1:decide (now<fr)=false)(ht2:decide (now>to)=true):CDy 74 #[CHV cv rv now use,.int .i64 0,.agg #[.int .i64 se,.string (AB is),.string (AB su),.int .i64 fr,.int .i64 to,kv,.bool true,.int .i64 pa,.int .i64 us]] w (AL 0 7):=by
 go_enter zV,CT
 refine A4 ?_;iterate 14 refine AA ?_
 refine Mi ?_;refine Mj ?_;iterate 7 refine AA ?_
 refine C6 ?_;iterate 3 refine aT ?_
 iterate 2 refine AA ?_
 refine Lo ?_;refine AX (by exact BB (p:=true) rfl gg rfl rfl a) ?_;iterate 5 refine AA ?_
 refine Mo ?_;refine MF ?_;iterate 11 refine AA ?_
 refine EO ?_;iterate 5 refine AA ?_
 refine Hz ?_;iterate 7 refine AA ?_
 refine Kw ?_;iterate 2 refine AA ?_
 refine AG ?_;refine AD (AH DA (AF rfl)) ?_;intro ρ e d;exact⟨_,rfl,Aa 45 d rfl,d.1⟩
theorem qS{w:World}{a:Nat}{m:Mem}{v:Value}{c:Crt}(f:Nat)(q:Laid w)(p:B6 w)(o:CQ w)(g:7<w.heap.size)(z:AO w v b.length 1 (b.map b8) G)(l:∀x∈b,x<256)(h:b.length<=1048576)(A:∀x∈c.ky,x<256)(s:RelOn a ρ S w (restr rd m))(j:f∈rd)(y:m f=some (.dat (G5 c))):
 CBy 20 (SV.cs ρ [.v v,.fn (AN 5) (.d f)]).toArray w (.int .i64 (Ob b c.ky)):=by
 obtain⟨kv,k,u⟩:=Nb s j y;have e:SV.cs ρ [.v v,.fn (AN 5) (.d f)]=[v,kv]:=by simp[SV.cs,SV.c,k,CVV,AN,Value.cells]
 rw[e];exact sI w q p o g z u l A h
noncomputable def rok(now:Int)(i:Nat)(is bi b:List Nat):Bool:=match rdC b with
 |none=>false
 |some (d,_,_)=>d.ca && !decide (d.pa<(i:Int)) && !decide (now<d.fr) && !decide (now>d.to) && !decide (d.su≠is) && decide (Ob bi d.ky=0)
theorem VP{p:α->Bool}{l:List α}{x:α}(h:(l.take i).any p=false)(c:l[i]? =some x)(a:p x=false):(l.take (i+1)).any p=false:=by
 rw[Im c,List.any_append,h];simp[a]
theorem wi{p:α->Bool}{l:List α}{x:α}(c:l[i]? =some x)(a:p x=true):l.any p=true:=
 List.any_eq_true.2 ⟨x,zA c,a⟩
theorem tP{F:Nat->Prop}(hL:Laid w)(hK:B6 w)(hH:CQ w)(a1:7<w.heap.size)(hc:AO w cv n 1 vs F)(hi:i<n)(_a5:n<=1048576)(a4:vs[i]? =some vi)(hv:AO w vi bi.length 1 (bi.map b8) G')(h8:∀x∈bi,x<256)(a2:bi.length<=1048576)(a0:∀x∈is,x<256)(hr1:AO w rv Rs.length 1 us' G)(a3:B9 w G Rs us')(a6:Rs.length<=1048576)(W:∀b∈Rs,(∀x∈b,x<256)/\b.length<=1048576):Calls prog 117 #[CHV cv rv now use,.int .i64 (i:Nat),.agg #[.int .i64 se,.string (AB is),.string (AB su),.int .i64 fr,.int .i64 to,kv,.bool ca,.int .i64 pa,.int .i64 us]] w λe y=>(Rs.any (rok now i is bi)=true/\e=.returned .nilIface/\Bw w y)\/(Rs.any (rok now i is bi)=false/\ ∃v,e=.returned v/\Ae w y v (AL i 8)/\Bw w y):=by
 go_enter func117,ntmps117
 refine A4 ?_;iterate 11 refine AA ?_
 refine Ll ?_;iterate 3 refine AA ?_
 refine Bo (α:={k:Nat // k<=Rs.length/\(Rs.take k).any (rok now i is bi)=false}) (fun(x:{k:Nat // k<=Rs.length/\(Rs.take k).any (rok now i is bi)=false}) f=>⟨(.v (CHV cv rv now use)::.v (.int .i64 (i:Nat))::.v (.agg #[.int .i64 se,.string (AB is),.string (AB su),.int .i64 fr,.int .i64 to,kv,.bool ca,.int .i64 pa,.int .i64 us])::.p 3 0::.v (f 4)::.p 5 0::fv f 6 6 (.v rv::.v (.int .i64 (Rs.length:Nat))::.v (.int .i64 (x.1:Nat))::fv f 54 15 [])),AJ [(5,.cells [.v (.int .i64 se),.v (.string (AB is)),.v (.string (AB su)),.v (.int .i64 fr),.v (.int .i64 to),.v kv,.v (.bool ca),.v (.int .i64 pa),.v (.int .i64 us)] 34),(3,.cells [.v cv,.v rv,.v (.int .i64 now),.v (.int .i64 use)] 95)]⟩) (λx=>Rs.length-x.1) ?_ (⟨0,y6 _,rfl⟩) ?_
 .rintro⟨k,hk,B⟩ f
  obtain⟨q,h_q⟩:∃q,decide (((k:Nat):Int)<((Rs.length:Nat):Int))=q:=⟨_,rfl⟩
  change VOk _ _ _ _ _;simp only[fv,Nat.reduceAdd];iterate 2 refine aT ?_
  refine KL ?_;iterate 2 refine aT ?_
  cases q
  .refine aT ?_
   have C:Rs.any (rok now i is bi)=false:=by
    have he:k=Rs.length:=by have:=yC h_q;omega
    rw[he,List.take_length]at B;exact B
   refine As ?_;change VOk _ _ _ _ _;iterate 3 refine AA ?_
   refine AX (by exact Al (D:=AL i 8) [] rfl rfl gg rfl (eo func116) (λρ S y hb R=>FA _ _ y)) ?_;iterate 2 refine AA ?_
   refine AG ?_;refine AD (AH results117 (AF rfl)) ?_;intro ρ y N;first|exact .inl ⟨L,rfl,N.1⟩|exact .inr ⟨C,_,rfl,Aa 68 N rfl,N.1⟩
  .refine aT ?_
   have V:k<Rs.length:=by have:=yA h_q;omega
   obtain⟨b,hb⟩:∃b,Rs[k]? =some b:=⟨_,zK V⟩
   obtain⟨vk,Y,X⟩:=a3.get hb;iterate 5 refine aT ?_
   refine AX (by exact Bc (k:=k) rfl gg rfl rfl yX y7 (AW hr1) (V) (by decide)) ?_;refine AX (by exact Cb rfl gg rfl x7 rfl (AW hr1) Y) ?_;iterate 3 refine AA ?_
   rcases u:rdC b with _|⟨⟨P,O,E,H,K,I,a,J,Q⟩,r,t⟩
   .have j:=W b (zA hb)
    have A:rok now i is bi b=false:=by unfold rok;rw[u]
    iterate 2 refine AA ?_
    refine AX (by exact Ad (v:=.tuple #[CZ,.int .i64 2]) rfl gg rfl (eo func12) (λy Z=>qF y (hL.bw Z) (A5 X Z) j.1 j.2 u)) ?_;iterate 11 refine AA ?_
    refine Lj ?_;iterate 9 refine AA ?_
    refine FX ?_;iterate 6 refine AA ?_
    refine FX ?_;iterate 6 refine AA ?_
    refine FX ?_;iterate 6 refine AA ?_
    refine FX ?_;iterate 3 refine AA ?_
    refine As ?_;change VOk _ _ _ _ _;refine aT ?_;refine SL ?_;iterate 2 refine AA ?_
    refine⟨⟨k+1,by omega,VP B hb A⟩,by show Rs.length-(k+1)<Rs.length-k;omega,?_⟩;first|exact Ar (λi=>i==0||i==1||i==2||i==3||i==5||i==12||i==13||i==14) [9]|exact Ar (λi=>i==0||i==1||i==2||i==3||i==5||i==12||i==13||i==14) [9,20]
   .have j:=W b (zA hb)
    have hd:=iG j.1 j.2 u;have U:∀x∈E,x<256:=hd.2.1.s8;obtain⟨p2,l⟩:∃p,decide (J<((i:Nat):Int))=p:=⟨_,rfl⟩
    obtain⟨p3,m⟩:∃p,decide (now<H)=p:=⟨_,rfl⟩
    obtain⟨p4,o⟩:∃p,decide (now>K)=p:=⟨_,rfl⟩
    obtain⟨p5,s⟩:∃p,decide (E≠is)=p:=⟨_,rfl⟩
    have h6:(a=true/\p2=false/\p3=false/\p4=false/\p5=false)\/(a=false\/(a=true/\p2=true)\/(a=true/\p2=false/\p3=true)\/(a=true/\p2=false/\p3=false/\p4=true)\/(a=true/\p2=false/\p3=false/\p4=false/\p5=true)):=by cases a<;>cases p2<;>cases p3<;>cases p4<;>cases p5<;>simp
    iterate 2 refine AA ?_
    refine AX (by exact DL (D:=G5 ⟨P,O,E,H,K,I,a,J,Q⟩) (ys:=[.int .i64 0]) [] rfl rfl gg rfl (eo func12) (λρ S y g R=>qE y (hL.bw g) (A5 X g) j.1 j.2 u)) ?_;iterate 4 refine AA ?_
    refine AX (by exact Bh (vl:=[.v (.int .i64 P),.v (.string (AB O)),.v (.string (AB E)),.v (.int .i64 H),.v (.int .i64 K),.fn (AN 5) (.d 20),.v (.bool a),.v (.int .i64 J),.v (.int .i64 Q)]) [20,9] rfl gg rfl rfl rfl yN rfl (λρ S y _ R=>by obtain⟨kv,e,h⟩:=Nb (id:=20) R (by simp) rfl;exact QL e h) rfl (by simp)) ?_;iterate 4 refine AA ?_
    rcases h6 with⟨rfl,rfl,rfl,rfl,rfl⟩|h6
    .obtain⟨z,T⟩:∃z,decide (Ob bi I=0)=z:=⟨_,rfl⟩
     have M:rok now i is bi b=z:=by unfold rok;rw[u];simp only[l,m,o,s,T];rfl
     iterate 2 refine AA ?_
     refine IM ?_;iterate 9 refine AA ?_
     refine AX (by first|exact Ev.skip (λ_=>rfl)|exact BM rfl (λ_=>rfl) rfl rfl l) ?_;iterate 6 refine AA ?_
     refine AX (by first|exact Ev.skip (λ_=>rfl)|exact BM rfl (λ_=>rfl) rfl rfl m) ?_;iterate 6 refine AA ?_
     refine AX (by first|exact Ev.skip (λ_=>rfl)|exact BV rfl (λ_=>rfl) rfl rfl o) ?_;iterate 6 refine AA ?_
     refine AX (by first|exact Ev.skip (λ_=>rfl)|exact AK rfl (λ_=>rfl) rfl rfl (λw=>Hp s U a0 _ _ w)) ?_;iterate 9 refine AA ?_
     refine SC ?_;refine AX (by exact Cb rfl gg rfl x7 rfl (AW hc) a4) ?_;refine AX (by first|exact BG rfl gg rfl zB rfl y7|exact BF rfl gg rfl zB rfl y7) ?_;refine AX (by first|exact BK rfl gg rfl rfl x7 rfl rfl|exact BR rfl gg rfl x7 rfl (by assumption)) ?_;refine AX (by exact Aj (v:=.int .i64 (Ob bi I)) [20] rfl gg rfl (eo func20) (λρ S y g R=>qS (c:=⟨P,O,E,H,K,I,true,J,Q⟩) 20 (hL.bw g) (hK.bw g) (hH.bw g) (yK a1 g.size) (A5 hv g) h8 a2 hd.2.1.k8 R (by simp) rfl)) ?_;refine AX (by exact Ag rfl gg rfl rfl T) ?_;refine aT ?_;cases z
     .refine aT ?_
      have A:=M;iterate 2 refine aT ?_
      refine SL ?_;iterate 2 refine AA ?_
      refine⟨⟨k+1,by omega,VP B hb A⟩,by show Rs.length-(k+1)<Rs.length-k;omega,?_⟩;first|exact Ar (λi=>i==0||i==1||i==2||i==3||i==5||i==12||i==13||i==14) [9]|exact Ar (λi=>i==0||i==1||i==2||i==3||i==5||i==12||i==13||i==14) [9,20]
     .refine aT ?_
      have L:=wi (p:=rok now i is bi) hb M;iterate 4 refine AA ?_
      refine AG ?_;refine AD (AH results117 (AF rfl)) ?_;intro ρ y N;first|exact .inl ⟨L,rfl,N.1⟩|exact .inr ⟨C,_,rfl,Aa 68 N rfl,N.1⟩
    .have A:rok now i is bi b=false:=by
      unfold rok;rw[u];simp only[l,m,o,s];rcases h6 with rfl|⟨rfl,rfl⟩|⟨rfl,rfl,rfl⟩|⟨rfl,rfl,rfl,rfl⟩|⟨rfl,rfl,rfl,rfl,rfl⟩<;>rfl
     rcases h6 with rfl|⟨rfl,rfl⟩|⟨rfl,rfl,rfl⟩|⟨rfl,rfl,rfl,rfl⟩|⟨rfl,rfl,rfl,rfl,rfl⟩<;>
     (
      iterate 2 refine AA ?_
      refine IM ?_;iterate 9 refine AA ?_
      refine AX (by first|exact Ev.skip (λ_=>rfl)|exact BM rfl (λ_=>rfl) rfl rfl l) ?_;iterate 6 refine AA ?_
      refine AX (by first|exact Ev.skip (λ_=>rfl)|exact BM rfl (λ_=>rfl) rfl rfl m) ?_;iterate 6 refine AA ?_
      refine AX (by first|exact Ev.skip (λ_=>rfl)|exact BV rfl (λ_=>rfl) rfl rfl o) ?_;iterate 6 refine AA ?_
      refine AX (by first|exact Ev.skip (λ_=>rfl)|exact AK rfl (λ_=>rfl) rfl rfl (λw=>Hp s U a0 _ _ w)) ?_;iterate 3 refine AA ?_
      refine As ?_;change VOk _ _ _ _ _;refine aT ?_;refine SL ?_;iterate 2 refine AA ?_
      refine⟨⟨k+1,by omega,VP B hb A⟩,by show Rs.length-(k+1)<Rs.length-k;omega,?_⟩;first|exact Ar (λi=>i==0||i==1||i==2||i==3||i==5||i==12||i==13||i==14) [9]|exact Ar (λi=>i==0||i==1||i==2||i==3||i==5||i==12||i==13||i==14) [9,20]
     )
 .exact Ar (λi=>i==0||i==1||i==2||i==3||i==5||i==12||i==13||i==14) []
theorem wo{F:Nat->Prop}(v:Laid w)(u:B6 w)(s:CQ w)(d:7<w.heap.size)(y:AO w cv n 1 vs F)(A:i<n)(a:n<=1048576)(m:vs[i]? =some vi)(B:AO w vi bi.length 1 (bi.map b8) G')(q:∀x∈bi,x<256)(f:bi.length<=1048576)(o:∀x∈is,x<256)(g:AO w rv Rs.length 1 us' G)(j:B9 w G Rs us')(l:Rs.length<=1048576)(k:∀b∈Rs,(∀x∈b,x<256)/\b.length<=1048576)(h:Rs.any (rok now i is bi)=true):CBy 117 #[CHV cv rv now use,.int .i64 (i:Nat),.agg #[.int .i64 se,.string (AB is),.string (AB su),.int .i64 fr,.int .i64 to,kv,.bool ca,.int .i64 pa,.int .i64 us]] w .nilIface:=
 (tP (se:=se) (su:=su) (fr:=fr) (to:=to) (pa:=pa) (us:=us) (ca:=ca) (kv:=kv) (use:=use) w v u s d y A a m B q f o g j l k).mono λe C z=>by
  rcases z with⟨_,c,p⟩|⟨c,_⟩
  .exact⟨c,p⟩
  .rw[h]at c;cases c
theorem wu{F:Nat->Prop}(u:Laid w)(s:B6 w)(q:CQ w)(d:7<w.heap.size)(v:AO w cv n 1 vs F)(z:i<n)(a:n<=1048576)(m:vs[i]? =some vi)(A:AO w vi bi.length 1 (bi.map b8) G')(p:∀x∈bi,x<256)(f:bi.length<=1048576)(o:∀x∈is,x<256)(g:AO w rv Rs.length 1 us' G)(j:B9 w G Rs us')(l:Rs.length<=1048576)(k:∀b∈Rs,(∀x∈b,x<256)/\b.length<=1048576)(h:Rs.any (rok now i is bi)=false):CDy 117 #[CHV cv rv now use,.int .i64 (i:Nat),.agg #[.int .i64 se,.string (AB is),.string (AB su),.int .i64 fr,.int .i64 to,kv,.bool ca,.int .i64 pa,.int .i64 us]] w (AL i 8):=
 (tP (se:=se) (su:=su) (fr:=fr) (to:=to) (pa:=pa) (us:=us) (ca:=ca) (kv:=kv) (use:=use) w u s q d v z a m A p f o g j l k).mono λe B y=>by
  rcases y with⟨c,_⟩|⟨_,c⟩
  .rw[h]at c;cases c
  .exact c
theorem EJ{w w':World}(hb:Bw w w'){G:Nat->Prop}:∀{Bs:List (List Nat)} {vs:List Value},B9 w G Bs vs->B9 w' G Bs vs
 | [],[],_=>trivial
 |_::_,_::_,h=>⟨A5 h.1 hb,EJ hb h.2⟩
theorem qd{w:World}{a:Nat}{m:Mem}{c:Crt}(f:Nat)(R:Ending->World->Prop)(k:RelOn a ρ S w (restr rd m))(g:f∈rd)(l:m f=some (.dat (G5 c)))
 (h:∀kv ca,c.ca=ca->Calls prog 74 #[CHV cv rv now use,.int .i64 0,.agg #[.int .i64 c.se,.string (AB c.is),.string (AB c.su),.int .i64 c.fr,.int .i64 c.to,kv,.bool ca,.int .i64 c.pa,.int .i64 c.us]] w R):Calls prog 74 (SV.cs ρ [.agg [.v cv,.v rv,.v (.int .i64 now),.v (.int .i64 use)],.v (.int .i64 0),.agg [.v (.int .i64 c.se),.v (.string (AB c.is)),.v (.string (AB c.su)),.v (.int .i64 c.fr),.v (.int .i64 c.to),.fn (AN 5) (.d f),.v (.bool c.ca),.v (.int .i64 c.pa),.v (.int .i64 c.us)]]).toArray w R:=by
 obtain⟨kv,j,_⟩:=cX k g l;have e:SV.cs ρ [.agg [.v cv,.v rv,.v (.int .i64 now),.v (.int .i64 use)],.v (.int .i64 0),.agg [.v (.int .i64 c.se),.v (.string (AB c.is)),.v (.string (AB c.su)),.v (.int .i64 c.fr),.v (.int .i64 c.to),.fn (AN 5) (.d f),.v (.bool c.ca),.v (.int .i64 c.pa),.v (.int .i64 c.us)]]=[CHV cv rv now use,.int .i64 0,CVV c kv]:=by simp only[SV.cs,j];rfl
 rw[e];exact h kv c.ca rfl
theorem wM{w:World}{a:Nat}{m:Mem}{c:Crt}(f:Nat)(R:Ending->World->Prop)(k:RelOn a ρ S w (restr rd m))(g:f∈rd)(l:m f=some (.dat (G5 c)))
 (h:∀kv,Calls prog 75 #[CHV cv rv now use,.int .i64 ((0:Nat):Int),.agg #[.int .i64 c.se,.string (AB c.is),.string (AB c.su),.int .i64 c.fr,.int .i64 c.to,kv,.bool c.ca,.int .i64 c.pa,.int .i64 c.us]] w R):Calls prog 75 (SV.cs ρ [.agg [.v cv,.v rv,.v (.int .i64 now),.v (.int .i64 use)],.v (.int .i64 0),.agg [.v (.int .i64 c.se),.v (.string (AB c.is)),.v (.string (AB c.su)),.v (.int .i64 c.fr),.v (.int .i64 c.to),.fn (AN 5) (.d f),.v (.bool c.ca),.v (.int .i64 c.pa),.v (.int .i64 c.us)]]).toArray w R:=by
 obtain⟨kv,j,_⟩:=cX k g l;have e:SV.cs ρ [.agg [.v cv,.v rv,.v (.int .i64 now),.v (.int .i64 use)],.v (.int .i64 0),.agg [.v (.int .i64 c.se),.v (.string (AB c.is)),.v (.string (AB c.su)),.v (.int .i64 c.fr),.v (.int .i64 c.to),.fn (AN 5) (.d f),.v (.bool c.ca),.v (.int .i64 c.pa),.v (.int .i64 c.us)]]=[CHV cv rv now use,.int .i64 0,CVV c kv]:=by simp only[SV.cs,j];rfl
 rw[e];exact h kv
theorem fF{F:Nat->Prop}(A:Laid w)(z:B6 w)(y:CQ w)(e:7<w.heap.size)(hc:AO w cv n 1 vs F)(B:i<n)(d:n<=1048576)(q:vs[i]? =some vi)(D:AO w vi bi.length 1 (bi.map b8) G')(u:∀x∈bi,x<256)(g:bi.length<=1048576)(s:∀x∈is,x<256)(k:AO w rv Rs.length 1 us' G)(l:B9 w G Rs us')(o:Rs.length<=1048576)(m:∀b∈Rs,(∀x∈b,x<256)/\b.length<=1048576)(j:i+1=n)(h:Rs.any (rok now i is bi)=true):CBy 75 #[CHV cv rv now use,.int .i64 (i:Nat),.agg #[.int .i64 se,.string (AB is),.string (AB su),.int .i64 fr,.int .i64 to,kv,.bool ca,.int .i64 pa,.int .i64 us]] w .nilIface:=by
 go_enter func75,ntmps75
 refine A4 ?_;iterate 12 refine AA ?_
 refine D2 ?_;refine AX (by exact Bu (c:=((n:Nat):Int)-1) rfl gg rfl rfl (by rw[Ah (by omega) (by omega)])) ?_;refine AX (by exact Ag (p:=true) rfl gg rfl rfl (yE (by omega))) ?_;iterate 4 refine aT ?_
 iterate 3 refine AA ?_
 refine AX (by exact Ad (v:=.nilIface) rfl gg rfl (eo func117) (λE a=>wo E (A.bw a) (z.bw a) (y.bw a) (yK e (Below.size a)) (A5 hc a) B d q (A5 D a) u g s (A5 k a) (EJ a l) o m h)) ?_;iterate 2 refine AA ?_
 exact AG (AD (AH results75 (AF rfl)) λ_ _ C=>⟨rfl,C.1⟩)
theorem uy{F:Nat->Prop}(A:Laid w)(z:B6 w)(y:CQ w)(d:7<w.heap.size)(hc:AO w cv n 1 vs F)(B:i<n)(a:n<=1048576)(o:vs[i]? =some vi)(C:AO w vi bi.length 1 (bi.map b8) G')(v:∀x∈bi,x<256)(e:bi.length<=1048576)(q:∀x∈is,x<256)(j:AO w rv Rs.length 1 us' G)(k:B9 w G Rs us')(m:Rs.length<=1048576)(l:∀b∈Rs,(∀x∈b,x<256)/\b.length<=1048576)(g:i+1=n)(h:Rs.any (rok now i is bi)=false):CDy 75 #[CHV cv rv now use,.int .i64 (i:Nat),.agg #[.int .i64 se,.string (AB is),.string (AB su),.int .i64 fr,.int .i64 to,kv,.bool ca,.int .i64 pa,.int .i64 us]] w (AL i 8):=by
 go_enter func75,ntmps75
 refine A4 ?_;iterate 12 refine AA ?_
 refine D2 ?_;refine AX (by exact Bu (c:=((n:Nat):Int)-1) rfl gg rfl rfl (by rw[Ah (by omega) (by omega)])) ?_;refine AX (by exact Ag (p:=true) rfl gg rfl rfl (yE (by omega))) ?_;iterate 4 refine aT ?_
 iterate 3 refine AA ?_
 refine AX (by exact Al (D:=AL i 8) [] rfl rfl gg rfl (eo func117) (λρ S u hb E=>wu u (A.bw hb) (z.bw hb) (y.bw hb) (yK d (Below.size hb)) (A5 hc hb) B a o (A5 C hb) v e q (A5 j hb) (EJ hb k) m l h)) ?_;iterate 2 refine AA ?_
 refine AG ?_;refine AD (AH results75 (AF rfl)) ?_;intro ρ u s;exact⟨_,rfl,Aa 18 s rfl,s.1⟩
theorem v7{F:Nat->Prop}{c:Crt}(hL:Laid w)(y:B6 w)(s:CQ w)(g:7<w.heap.size)(hc:AO w cv 1 1 [vi] F)(hv:AO w vi bi.length 1 (bi.map b8) G')(h8:∀x∈bi,x<256)(hbl:bi.length<=1048576)(j:AO w rv Rs.length 1 us' G)(k:B9 w G Rs us')(m:Rs.length<=1048576)(l:∀b∈Rs,(∀x∈b,x<256)/\b.length<=1048576)(hrd:rdC bi=some (c,r,t))(hx1:∀(p q:Operand) (w:World),(do eqGuard .and 3 p q (.int .i64 c.us) (.int .i64 1);binOp .and 3 (.int .i64 c.us) (.int .i64 1):Sem Value).run prog w=.ok (.int .i64 x1) w)(hx2:∀(p q:Operand) (w:World),(do eqGuard .and 3 p q (.int .i64 c.us) (.int .i64 use);binOp .and 3 (.int .i64 c.us) (.int .i64 use):Sem Value).run prog w=.ok (.int .i64 x2) w)(hn1:decide (x1≠0)=true)(hn2:decide (x2≠0)=true)(ht1:decide (now<c.fr)=false)(ht2:decide (now>c.to)=false)(a:Rs.any (rok now 0 c.is bi)=true):Calls prog 42 #[CHV cv rv now use] w λe d=> ∃u,e=.returned (.tuple #[u,.nilIface])/\Ae w d u (G5 c)/\Bw w d:=by
 have A:=iG h8 hbl hrd
 go_enter func42,ntmps42
 refine A4 ?_;iterate 9 refine AA ?_
 iterate 4 refine aT ?_
 iterate 2 refine AA ?_
 refine D2 ?_;iterate 3 refine AA ?_
 refine Br 2 ?_;change VOk _ _ _ _ _;iterate 2 refine aT ?_
 refine EP ?_;iterate 15 refine AA ?_
 refine mW ?_;iterate 4 refine AA ?_
 refine d_4 ?_;iterate 6 refine AA ?_
 refine Gk ?_;iterate 3 refine aT ?_
 iterate 3 refine AA ?_
 refine wI ?_;iterate 6 refine AA ?_
 refine Gk ?_;iterate 3 refine aT ?_
 iterate 3 refine AA ?_
 refine AX (by exact Aj (v:=.nilIface) [17] rfl gg rfl (eo func75) (λρ S d hb z=>wM 17 _ z (by simp) rfl (λkv=>fF (i:=0) (n:=1) d (hL.bw hb) (y.bw hb) (s.bw hb) (yK g (Below.size hb)) (A5 hc hb) (by decide) (by decide) rfl (A5 hv hb) h8 hbl A.2.1.i8 (A5 j hb) (EJ hb k) m l rfl a))) ?_;iterate 6 refine AA ?_
 refine IK ?_;iterate 6 refine AA ?_
 refine C6 ?_;iterate 3 refine aT ?_
 refine AA ?_;refine d_4 ?_;iterate 2 refine aT ?_
 refine C4 ?_;iterate 4 refine AA ?_
 refine DY ?_;iterate 3 refine aT ?_
 refine As ?_;change VOk _ _ _ _ _;iterate 2 refine aT ?_
 refine AA ?_;refine d_4 ?_;iterate 2 refine AA ?_
 refine AG ?_;refine AD (Av results42 (Am rfl rfl zB rfl yN rfl) (AF rfl)) ?_;intro ρ d o;exact⟨_,rfl,gR 17 o rfl,o.1⟩
theorem v6{F:Nat->Prop}{c:Crt}(hL:Laid w)(_H:B6 w)(_E:CQ w)(_v:7<w.heap.size)(hc:AO w cv 1 1 [vi] F)(hv:AO w vi bi.length 1 (bi.map b8) G')(h8:∀x∈bi,x<256)(hbl:bi.length<=1048576)(_z:AO w rv Rs.length 1 us' G)(_A:B9 w G Rs us')(_C:Rs.length<=1048576)(_B:∀b∈Rs,(∀x∈b,x<256)/\b.length<=1048576)(hrd:rdC bi=some (c,r,t))(l:∀(p q:Operand) (w:World),(do eqGuard .and 3 p q (.int .i64 c.us) (.int .i64 1);binOp .and 3 (.int .i64 c.us) (.int .i64 1):Sem Value).run prog w=.ok (.int .i64 x1) w)(m:∀(p q:Operand) (w:World),(do eqGuard .and 3 p q (.int .i64 c.us) (.int .i64 use);binOp .and 3 (.int .i64 c.us) (.int .i64 use):Sem Value).run prog w=.ok (.int .i64 x2) w)(d:decide (x1≠0)=true)(g:decide (x2≠0)=true)(j:decide (now<c.fr)=false)(k:decide (now>c.to)=true):Calls prog 42 #[CHV cv rv now use] w λe a=> ∃u,e=.returned (.tuple #[CZ,u])/\Ae w a u (AL 0 7)/\Bw w a:=by
 have I:=iG h8 hbl hrd
 go_enter func42,ntmps42
 refine A4 ?_;iterate 9 refine AA ?_
 iterate 4 refine aT ?_
 iterate 2 refine AA ?_
 refine D2 ?_;iterate 3 refine AA ?_
 refine Br 2 ?_;change VOk _ _ _ _ _;iterate 2 refine aT ?_
 refine EP ?_;iterate 15 refine AA ?_
 refine mW ?_;iterate 4 refine AA ?_
 refine d_4 ?_;iterate 6 refine AA ?_
 refine Gk ?_;iterate 3 refine aT ?_
 iterate 3 refine AA ?_
 refine AX (by exact Al (D:=AL 0 7) [17] rfl rfl gg rfl (eo zV) (λρ S a hb s=>qd 17 _ s (by simp) rfl (λkv ca y=>by cases ca with|true=>exact vV a l m d g j k|false=>exact vW a l m d g j k))) ?_;iterate 6 refine AA ?_
 refine AX (by exact JX rfl gg rfl rfl) ?_;iterate 7 refine AA ?_
 refine FE ?_;iterate 4 refine aT ?_
 refine MG ?_;refine AA ?_;refine d_4 ?_;iterate 2 refine AA ?_
 refine AG ?_;refine AD (Av results42 (Am rfl rfl zB rfl yN rfl) (AF rfl)) ?_;intro ρ a o;exact⟨_,rfl,Aa 25 o rfl,o.1⟩
def Ci(w:World):Prop:=w.cell? ⟨0,0,none⟩=some (.iface 229 (.agg #[.pointer (some ⟨11,92,none⟩)]))
theorem Ci.bw{w a:World}(h:Ci w)(d:7<w.heap.size)(c:Bw w a):Ci a:=
 (Below.cell c (p:=⟨0,0,none⟩) (show 0<w.heap.size by omega)).trans h
theorem qJ{w:World}{f:Nat}{m:Mem}{a e:Int}(g:Nat)(u:Ci w)(v:RelOn f ρ S w (restr rd m))(h:g∈rd)(x:m g=some (.dat (AL a e))):
 Calls prog 43 (SV.cs ρ [.d g]).toArray w λk y=>k=.returned (.tuple #[.int .i64 a,.int .i64 e])/\Bw w y:=by
 obtain⟨p,q,l,o,s⟩:=Ow v h x;have j:SV.cs ρ [.d g]=[.iface 130 (.pointer (some ⟨p,0,none⟩))]:=by simp only[SV.cs,SV.c,l]
 rw[j];exact tn p q a e w o s u
theorem wS(p q:Option Addr)(a b c d:Nat)(x y:Int):prog.built 95 [(0,.slice p a b),(1,.slice q c d),(2,.int .i64 x),(3,.int .i64 y)]=some #[.slice p a b,.slice q c d,.int .i64 x,.int .i64 y]:=by kernel_rfl
theorem xk{F:Nat->Prop}{c:Crt}(R:Laid w)(Q:B6 w)(P:CQ w)(m:7<w.heap.size)(K:AO w cv 1 1 [vi] F)(T:AO w vi bi.length 1 (bi.map b8) G')(O:∀x∈bi,x<256)(o:bi.length<=1048576)(_V:Ci w)(d:AO w rv Rs.length 1 us' G)(y:B9 w G Rs us')(B:Rs.length<=1048576)(z:∀b∈Rs,(∀x∈b,x<256)/\b.length<=1048576)(A:rdC bi=some (c,r,t))(H:∀(p q:Operand) (w:World),(do eqGuard .and 3 p q (.int .i64 c.us) (.int .i64 1);binOp .and 3 (.int .i64 c.us) (.int .i64 1):Sem Value).run prog w=.ok (.int .i64 x1) w)(I:∀(p q:Operand) (w:World),(do eqGuard .and 3 p q (.int .i64 c.us) (.int .i64 4);binOp .and 3 (.int .i64 c.us) (.int .i64 4):Sem Value).run prog w=.ok (.int .i64 x2) w)(s:decide (x1≠0)=true)(v:decide (x2≠0)=true)(C:decide (now<c.fr)=false)(E:decide (now>c.to)=false)(a:Rs.any (rok now 0 c.is bi)=true):Calls prog 18 #[cv,rv,.int .i64 now,.int .i64 4] w λe j=> ∃u,e=.returned (.tuple #[u,.int .i64 0,.int .i64 0])/\Ae w j u (G5 c)/\Bw w j:=by
 have hc':=K;have g:=d;obtain⟨U,N,k,_⟩:=K;obtain⟨M,J,l,_⟩:=d;subst k l
 go_enter func18,ntmps18
 refine A4 ?_;iterate 2 refine aT ?_
 iterate 8 refine AA ?_
 refine P0 ?_;refine DY ?_;iterate 2 refine AA ?_
 refine TD ?_;refine H2 ?_;iterate 3 refine AA ?_
 refine Gs ?_;iterate 2 refine AA ?_
 refine Km ?_;iterate 11 refine AA ?_
 refine Ln ?_;refine AX (by exact DL (D:=G5 c) (ys:=[.nilIface]) [] rfl rfl gg rfl (eo func42) (λρ S j hb W=>v7 j (R.bw hb) (Q.bw hb) (P.bw hb) (yK m (Below.size hb)) (A5 hc' hb) (A5 T hb) O o (A5 g hb) (EJ hb y) B z A H I s v C E a)) ?_;iterate 4 refine AA ?_
 refine d_5 ?_;iterate 6 refine AA ?_
 refine IK ?_;iterate 5 refine aT ?_
 refine AA ?_;refine d_5 ?_;iterate 3 refine AA ?_
 refine AG ?_;refine AD (BX results18 (Am rfl rfl zB rfl yN rfl) (AF rfl) (AF rfl)) ?_;intro ρ j L;exact⟨_,rfl,gR 38 L rfl,L.1⟩
theorem xj{F:Nat->Prop}{c:Crt}(T:Laid w)(R:B6 w)(Q:CQ w)(a:7<w.heap.size)(K:AO w cv 1 1 [vi] F)(V:AO w vi bi.length 1 (bi.map b8) G')(O:∀x∈bi,x<256)(l:bi.length<=1048576)(P:Ci w)(d:AO w rv Rs.length 1 us' G)(s:B9 w G Rs us')(A:Rs.length<=1048576)(u:∀b∈Rs,(∀x∈b,x<256)/\b.length<=1048576)(z:rdC bi=some (c,r,t))(E:∀(p q:Operand) (w:World),(do eqGuard .and 3 p q (.int .i64 c.us) (.int .i64 1);binOp .and 3 (.int .i64 c.us) (.int .i64 1):Sem Value).run prog w=.ok (.int .i64 x1) w)(H:∀(p q:Operand) (w:World),(do eqGuard .and 3 p q (.int .i64 c.us) (.int .i64 4);binOp .and 3 (.int .i64 c.us) (.int .i64 4):Sem Value).run prog w=.ok (.int .i64 x2) w)(m:decide (x1≠0)=true)(o:decide (x2≠0)=true)(B:decide (now<c.fr)=false)(C:decide (now>c.to)=true):CBy 18 #[cv,rv,.int .i64 now,.int .i64 4] w (.tuple #[CZ,.int .i64 0,.int .i64 7]):=by
 have hc':=K;have g:=d;obtain⟨W,N,j,_⟩:=K;obtain⟨M,I,k,_⟩:=d;subst j k
 go_enter func18,ntmps18
 refine A4 ?_;iterate 2 refine aT ?_
 iterate 8 refine AA ?_
 refine P0 ?_;refine DY ?_;iterate 2 refine AA ?_
 refine TD ?_;refine H2 ?_;iterate 3 refine AA ?_
 refine Gs ?_;iterate 2 refine AA ?_
 refine Km ?_;iterate 11 refine AA ?_
 refine Ln ?_;refine AX (by exact Kk (D:=AL 0 7) (y:=CZ) [] rfl rfl gg rfl (eo func42) (λρ S L hb J=>v6 L (T.bw hb) (R.bw hb) (Q.bw hb) (yK a (Below.size hb)) (A5 hc' hb) (A5 V hb) O l (A5 g hb) (EJ hb s) A u z E H m o B C)) ?_;iterate 4 refine AA ?_
 refine d_5 ?_;iterate 6 refine AA ?_
 refine FE ?_;iterate 5 refine AA ?_
 refine AX (by exact Aj (v:=.tuple #[.int .i64 0,.int .i64 7]) [38] rfl gg rfl (eo func43) (λρ S L hb J=>qJ 38 (P.bw a hb) J (by simp) rfl)) ?_;iterate 8 refine AA ?_
 refine MG ?_;iterate 2 refine AA ?_
 refine d_5 ?_;iterate 3 refine AA ?_
 exact AG (AD (BX results18 (Ac rfl rfl zB rfl yN rfl rfl) (AF rfl) (AF rfl)) λ_ _ U=>⟨rfl,U.1⟩)
def Fz:List (String×DataW Unit):=Rows.trustRootsRow.laid
theorem wG:prog.globalNamed "errors.errorType" =some 0:=by kernel_rfl
theorem wD:(prog.cutTypes.find? (·.1== "internal/reflectlite.rtype")).map (·.2)=some 229:=by kernel_rfl
theorem wE:((List.range 300).filter λt=>prog.rowNamed t [101,114,114,111,114])=[92]:=by kernel_rfl
theorem wC:prog.types.size=300:=by kernel_rfl
theorem jX:(Fz.filter λx=>x.2.handleName?.isNone)=FN:=by kernel_rfl
theorem jW:(Fz.filter λx=>x.2.handleName?.isSome)=[("errors.errorType",Rows.laid_errors_errorType)]:=by kernel_rfl
theorem wF{W:World}(h:laidMetH prog Fz W):laidMetH prog FN W/\handlesMet prog [("errors.errorType",Rows.laid_errors_errorType)] W:=by
 unfold laidMetH at h;rw[jW,jX]at h;refine⟨?_,h.2⟩;unfold FN;rw[MakeChecks.laidMetH_plain _ _ _ (by kernel_rfl)];exact h.1
theorem JQ{W:World}(h:laidMetH prog Fz W):Laid W/\B6 W/\CQ W/\Ci W/\7<W.heap.size:=by
 obtain⟨q,s⟩:=wF h;obtain⟨a,b,c,d⟩:=H9 q;refine⟨a,b,c,?_,d⟩;obtain⟨e,u,x,j,k,l,m,f⟩:=s _ (RK.2 rfl);have o:e=[101,114,114,111,114]:=(z4 j).symm;subst o;obtain rfl:=z4 (wD.symm.trans k);have g:x∈(List.range 300).filter λt=>prog.rowNamed t [101,114,114,111,114]:=List.mem_filter.2 ⟨List.mem_range.2 (by rw[<-wC];exact l),m⟩
 rw[wE]at g;obtain rfl:=RK.1 g;have v:typeHandle prog 92=.pointer (some ⟨11,92,none⟩):=by kernel_rfl
 rw[v]at f;have p:=World.var?_cell wG f 0;exact p
noncomputable def ig(c:Os):World:=
 let a:=World.holding prog c ⟨#[],#[],[]⟩
 {a with heap:=a.heap.modify 0 fun
  | .cells _ t frozen=>.cells #[.iface 229 (.agg #[.pointer (some ⟨11,92,none⟩)])] t frozen
  |o=>o}
noncomputable def Kh(a:Os):World:=(ig a).layVars prog FN
theorem uz(a:Os):(Kh a).os=a:=(World.layVars_os _ _ _).trans rfl
theorem u6(e:Os)(a:Array Value):laidMetH prog Fz ((Kh e).forCall (λ_ _=>0) ⟨#[],a,[]⟩).memory:=by
 have c:(FN.filter λx=>(FN.map (·.1)).contains x.1)=FN:=List.filter_eq_self.2 λx d=>List.contains_iff_mem.2 (uB8.2 ⟨x,d,rfl⟩)
 have f:(FN.filter λx=> !(FN.map (·.1)).contains x.1)=[]:=List.filter_eq_nil_iff.2 λx d=>by rw[List.contains_iff_mem.2 (uB8.2 ⟨x,d,rfl⟩)];simp
 have h:laidMet prog FN (Kh e):=laidMet_layVars (w0:=ig e) (FN.map (·.1)) [] (by rw[c];rfl) (by rw[c];kernel_rfl) (by rw[c];kernel_rfl) (by rw[f];exact LaidIn.none);refine laidMetH_of_parts ?_ ?_
 .rw[jX]
  exact h.of_heap (by simp[World.memory,World.forCall,Input.heap])
 .rw[jW]
  kernel_rfl
end Go.Proofs.YtafbhakmkbehiaaGreatDoor
