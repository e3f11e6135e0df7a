import Derived.Test.YtafbhakmkbehiaaGreatDoorZ35
open Go.Proofs.Tryz
set_option maxHeartbeats 4000000
set_option maxRecDepth 100000
namespace Go.Proofs.YtafbhakmkbehiaaGreatDoor
open Go.RowKit Go.Vx
variable{Rs:List (List Nat)}{b rd:List Nat}{i:Nat}{S:Nat→Nat→Prop}{ρ:Nat→Nm}{G:Nat→Prop}{α:Type}
open TollMont
open Go.Toll (Gw)
open TollEc (F pp cb Jp Pt Au add base nn neg)
open TollSha (sha CH)
theorem VO{w:World}{base:Nat}{m:Mem}{v:Value}{c:Crt}(id:Nat)(hL:Laid w)(hK:B6 w)(hH:CQ w)(hb1:7<w.heap.size)(hv:AO w v b.length 1 (b.map b8) G)(h8: ∀x∈b,x<256)(hbl:b.length≤1048576)(k8: ∀x∈c.ky,x<256)(hR:RelOn base ρ S w (restr rd m))(hid:id∈rd)(hm:m id=some (.dat (G5 c))):
 Calls prog 20 (SV.cs ρ [.v v,.fn (AN 5) (.d id)]).toArray w fun e w'=>e= .returned (.int .i64 (Ob b c.ky))∧Bw w w':=by
 obtain⟨kv,e1,hk⟩:=Nb hR hid hm;have e:SV.cs ρ [.v v,.fn (AN 5) (.d id)]=[v,kv]:=by simp[SV.cs,SV.c,e1,CVV,AN,Value.cells]
 rw[e];exact sI w hL hK hH hb1 hv hk h8 k8 hbl
noncomputable def rok(now:Int)(i:Nat)(is bi b:List Nat):Bool:=match rdC b with
 |none=>false
 |some (d,_,_)=>d.ca && !decide (d.pa<(i:Int)) && !decide (now<d.fr) && !decide (now>d.to) && !decide (d.su≠is) && decide (Ob bi d.ky=0)
theorem KF{p:α→Bool}{l:List α}{x:α}(h:(l.take i).any p=false)(hx:l[i]? =some x)(hp:p x=false):(l.take (i+1)).any p=false:=by
 rw[Im hx,List.any_append,h];simp[hp]
theorem V8{p:α→Bool}{l:List α}{x:α}(hx:l[i]? =some x)(hp:p x=true):l.any p=true:=
 List.any_eq_true.2 ⟨x,List.mem_of_getElem? hx,hp⟩
theorem NZ{cv rv kv vi:Value}{vs us':List Value}{is su bi:List Nat}{F G':Nat→Prop}{now use se fr to pa us:Int}{ca:Bool}{n:Nat}(w:World)(hL:Laid w)(hK:B6 w)(hH:CQ w)(hb1:7<w.heap.size)(hc:AO w cv n 1 vs F)(hi:i<n)(_hi64:n≤1048576)(hvi:vs[i]? =some vi)(hv:AO w vi bi.length 1 (bi.map b8) G')(h8: ∀x∈bi,x<256)(hbl:bi.length≤1048576)(is8: ∀x∈is,x<256)(hr1:AO w rv Rs.length 1 us' G)(hr2:A7 w G Rs us')(hrl:Rs.length≤1048576)(hr8: ∀b∈Rs,(∀x∈b,x<256)∧b.length≤1048576):Calls prog 117 #[CHV cv rv now use,.int .i64 (i:Nat),.agg #[.int .i64 se,.string (AB is),.string (AB su),.int .i64 fr,.int .i64 to,kv,.bool ca,.int .i64 pa,.int .i64 us]] w fun e w'=>(Rs.any (rok now i is bi)=true∧e= .returned .nilIface∧Bw w w')∨(Rs.any (rok now i is bi)=false∧ ∃v,e= .returned v∧Ae w w' v (Cp i 8)∧Bw w w'):=by
 go_enter func117,ntmps117
 refine Cg ?_;apply vrp
 ·apply VE.cons
  ·exact G3 rfl rfl gg rfl
  simp only[nmx,seval];apply VE.cons
  ·exact G3 rfl rfl gg rfl
  simp only[nmx,seval];apply VE.cons
  ·exact CJ rfl gg
  simp only[nmx,seval];exact VE.nil _
 ·kernel_rfl
 refine BP ?_;apply vrp
 ·apply VE.cons
  ·first|exact BG rfl gg rfl underlying95 rfl sizeOf43|exact BF rfl gg rfl underlying95 rfl sizeOf43
  simp only[nmx,seval];apply VE.cons
  ·first|exact BK rfl gg rfl rfl underlying43 rfl rfl|exact BR rfl gg rfl underlying43 rfl (by assumption)
  simp only[nmx,seval];apply VE.cons
  ·exact BU rfl gg rfl underlying43 (AW hr1)
  simp only[nmx,seval];apply VE.cons
  ·exact Ap rfl gg
  simp only[nmx,seval];exact VE.nil _
 ·kernel_rfl
 refine FH ?_;refine Bo (α:={k:Nat // k≤Rs.length∧(Rs.take k).any (rok now i is bi)=false}) (fun(x:{k:Nat // k≤Rs.length∧(Rs.take k).any (rok now i is bi)=false}) f=>⟨(.v (CHV cv rv now use):: .v (.int .i64 (i:Nat)):: .v (.agg #[.int .i64 se,.string (AB is),.string (AB su),.int .i64 fr,.int .i64 to,kv,.bool ca,.int .i64 pa,.int .i64 us]):: .p 3 0:: .v (f 4):: .p 5 0:: .v (f 6):: .v (f 7):: .v (f 8):: .v (f 9):: .v (f 10):: .v (f 11):: .v rv:: .v (.int .i64 (Rs.length:Nat)):: .v (.int .i64 (x.1:Nat)):: .v (f 15):: .v (f 16):: .v (f 17):: .v (f 18):: .v (f 19):: .v (f 20):: .v (f 21):: .v (f 22):: .v (f 23):: .v (f 24):: .v (f 25):: .v (f 26):: .v (f 27):: .v (f 28):: .v (f 29):: .v (f 30):: .v (f 31):: .v (f 32):: .v (f 33):: .v (f 34):: .v (f 35):: .v (f 36):: .v (f 37):: .v (f 38):: .v (f 39):: .v (f 40):: .v (f 41):: .v (f 42):: .v (f 43):: .v (f 44):: .v (f 45):: .v (f 46):: .v (f 47):: .v (f 48):: .v (f 49):: .v (f 50):: .v (f 51):: .v (f 52):: .v (f 53):: .v (f 54):: .v (f 55):: .v (f 56):: .v (f 57):: .v (f 58):: .v (f 59):: .v (f 60):: .v (f 61):: .v (f 62):: .v (f 63):: .v (f 64):: .v (f 65):: .v (f 66):: .v (f 67):: .v (f 68)::[]),AJ [(5,.cells [.v (.int .i64 se),.v (.string (AB is)),.v (.string (AB su)),.v (.int .i64 fr),.v (.int .i64 to),.v kv,.v (.bool ca),.v (.int .i64 pa),.v (.int .i64 us)] 34),(3,.cells [.v cv,.v rv,.v (.int .i64 now),.v (.int .i64 use)] 95)]⟩) (fun x=>Rs.length-x.1) ?_ (⟨0,Nat.zero_le _,rfl⟩) ?_
 ·rintro⟨k,hk,hno⟩ f
  obtain⟨q,h_q⟩: ∃q,decide (((k:Nat):Int)<((Rs.length:Nat):Int))=q:=⟨_,rfl⟩
  refine AU ?_;apply vrp
  ·apply VE.cons
   ·exact BM rfl gg rfl rfl h_q
   simp only[nmx,seval];exact VE.nil _
  ·kernel_rfl
  refine AU ?_;cases q
  ·refine GQ rfl ?_
   have hnone:Rs.any (rok now i is bi)=false:=by
    have he:k=Rs.length:=by have:=of_decide_eq_false h_q;omega
    rw[he,List.take_length]at hno;exact hno
   refine As ?_;refine AU ?_;apply vrp
   ·apply VE.cons
    ·exact Ap rfl gg
    simp only[nmx,seval];apply VE.cons
    ·exact Al (D:=Cp i 8) [] rfl rfl gg rfl (eo func116) (fun ρ S w' hb hR=>IW _ _ w')
    simp only[nmx,seval];apply VE.cons
    ·exact CJ rfl gg
    simp only[nmx,seval];exact VE.nil _
   ·kernel_rfl
   refine Ci ?_;refine AD (AH results117 (AF rfl)) ?_;intro ρ w' hr;first|exact .inl ⟨hany,rfl,hr.1⟩|exact .inr ⟨hnone,_,rfl,FF 68 hr rfl,hr.1⟩
  ·refine GP rfl ?_
   have hlt:k<Rs.length:=by have:=of_decide_eq_true h_q;omega
   obtain⟨b,hb⟩: ∃b,Rs[k]? =some b:=⟨_,List.getElem?_eq_getElem hlt⟩
   obtain⟨vk,hvk0,hvk⟩:=hr2.get hb;refine E9 ?_;refine mX ?_;apply vrp
   ·apply VE.cons
    ·exact Bc (k:=k) rfl gg rfl rfl underlying43 sizeOf23 (AW hr1) (hlt) (by decide)
    simp only[nmx,seval];apply VE.cons
    ·exact Cb rfl gg rfl underlying23 rfl (AW hr1) hvk0
    simp only[nmx,seval];apply VE.cons
    ·exact CJ rfl gg
    simp only[nmx,seval];exact VE.nil _
   ·kernel_rfl
   refine AU ?_;rcases hrd:rdC b with _|⟨⟨se',is',su',fr',to',ky',ca',pa',us2⟩,r,t⟩
   ·have hb8:=hr8 b (List.mem_of_getElem? hb)
    have hbk:rok now i is bi b=false:=by unfold rok;rw[hrd]
    apply vrp
    ·apply VE.cons
     ·exact Ap rfl gg
     simp only[nmx,seval];apply VE.cons
     ·exact Ad (v:= .tuple #[CZ,.int .i64 2]) rfl gg rfl (eo func12) (fun w' hw'=>qF w' (hL.bw hw') (A5 hvk hw') hb8.1 hb8.2 hrd)
     simp only[nmx,seval];apply VE.cons
     ·exact Ap rfl gg
     simp only[nmx,seval];apply VE.cons
     ·first|exact Cy rfl gg rfl rfl|exact C8 rfl gg rfl rfl
     simp only[nmx,seval];apply VE.cons
     ·first|exact Cy rfl gg rfl rfl|exact C8 rfl gg rfl rfl
     simp only[nmx,seval];apply VE.cons
     ·exact BZ rfl rfl gg zeroValue34
     simp only[nmx,seval];apply VE.cons
     ·exact BA rfl gg rfl rfl rfl sizeOf34 rfl (by simp) rfl
     simp only[nmx,seval];apply VE.cons
     ·exact CJ rfl gg
     simp only[nmx,seval];exact VE.nil _
    ·kernel_rfl
    refine BP ?_;apply vrp
    ·apply VE.cons
     ·exact Ap rfl gg
     simp only[nmx,seval];apply VE.cons
     ·exact BB (p:=true) rfl gg rfl rfl (by decide)
     simp only[nmx,seval];apply VE.cons
     ·exact Ap rfl gg
     simp only[nmx,seval];apply VE.cons
     ·first|exact Ev.skip (fun _=>rfl)|exact BG rfl (fun _=>rfl) rfl underlying34 rfl sizeOf4|exact BF rfl (fun _=>rfl) rfl underlying34 rfl sizeOf4
     simp only[nmx,seval];apply VE.cons
     ·first|exact Ev.skip (fun _=>rfl)|exact BK rfl (fun _=>rfl) rfl rfl underlying4 rfl rfl|exact BR rfl (fun _=>rfl) rfl underlying4 rfl (by assumption)
     simp only[nmx,seval];apply VE.cons
     ·first|exact Ev.skip (fun _=>rfl)|exact D7 rfl (fun _=>rfl) rfl
     simp only[nmx,seval];apply VE.cons
     ·first|exact CY rfl gg rfl rfl|exact Ca rfl gg rfl rfl
     simp only[nmx,seval];apply VE.cons
     ·exact Ap rfl gg
     simp only[nmx,seval];apply VE.cons
     ·first|exact Ev.skip (fun _=>rfl)|exact BG rfl (fun _=>rfl) rfl underlying34 rfl sizeOf3|exact BF rfl (fun _=>rfl) rfl underlying34 rfl sizeOf3
     simp only[nmx,seval];apply VE.cons
     ·first|exact Ev.skip (fun _=>rfl)|exact BK rfl (fun _=>rfl) rfl rfl underlying3 rfl rfl|exact BR rfl (fun _=>rfl) rfl underlying3 rfl (by assumption)
     simp only[nmx,seval];apply VE.cons
     ·first|exact Ev.skip (fun _=>rfl)|exact Ap rfl (fun _=>rfl)
     simp only[nmx,seval];apply VE.cons
     ·first|exact Ev.skip (fun _=>rfl)|refine D6 (fun _=>rfl) (fun ρ w=>by simp only[VS.act,SV.c,List.map_cons,List.map_nil];go_simp;exact rfl) (fun _ _=>rfl)
     simp only[nmx,seval];apply VE.cons
     ·first|exact CY rfl gg rfl rfl|exact Ca rfl gg rfl rfl
     simp only[nmx,seval];apply VE.cons
     ·exact Ap rfl gg
     simp only[nmx,seval];apply VE.cons
     ·first|exact Ev.skip (fun _=>rfl)|exact BG rfl (fun _=>rfl) rfl underlying95 rfl sizeOf3|exact BF rfl (fun _=>rfl) rfl underlying95 rfl sizeOf3
     simp only[nmx,seval];apply VE.cons
     ·first|exact Ev.skip (fun _=>rfl)|exact BK rfl (fun _=>rfl) rfl rfl underlying3 rfl rfl|exact BR rfl (fun _=>rfl) rfl underlying3 rfl (by assumption)
     simp only[nmx,seval];apply VE.cons
     ·first|exact Ev.skip (fun _=>rfl)|exact BG rfl (fun _=>rfl) rfl underlying34 rfl sizeOf3|exact BF rfl (fun _=>rfl) rfl underlying34 rfl sizeOf3
     simp only[nmx,seval];apply VE.cons
     ·first|exact Ev.skip (fun _=>rfl)|exact BK rfl (fun _=>rfl) rfl rfl underlying3 rfl rfl|exact BR rfl (fun _=>rfl) rfl underlying3 rfl (by assumption)
     simp only[nmx,seval];apply VE.cons
     ·first|exact Ev.skip (fun _=>rfl)|refine D6 (fun _=>rfl) (fun ρ w=>by simp only[VS.act,SV.c,List.map_cons,List.map_nil];go_simp;exact rfl) (fun _ _=>rfl)
     simp only[nmx,seval];apply VE.cons
     ·first|exact CY rfl gg rfl rfl|exact Ca rfl gg rfl rfl
     simp only[nmx,seval];apply VE.cons
     ·exact Ap rfl gg
     simp only[nmx,seval];apply VE.cons
     ·first|exact Ev.skip (fun _=>rfl)|exact BG rfl (fun _=>rfl) rfl underlying95 rfl sizeOf3|exact BF rfl (fun _=>rfl) rfl underlying95 rfl sizeOf3
     simp only[nmx,seval];apply VE.cons
     ·first|exact Ev.skip (fun _=>rfl)|exact BK rfl (fun _=>rfl) rfl rfl underlying3 rfl rfl|exact BR rfl (fun _=>rfl) rfl underlying3 rfl (by assumption)
     simp only[nmx,seval];apply VE.cons
     ·first|exact Ev.skip (fun _=>rfl)|exact BG rfl (fun _=>rfl) rfl underlying34 rfl sizeOf3|exact BF rfl (fun _=>rfl) rfl underlying34 rfl sizeOf3
     simp only[nmx,seval];apply VE.cons
     ·first|exact Ev.skip (fun _=>rfl)|exact BK rfl (fun _=>rfl) rfl rfl underlying3 rfl rfl|exact BR rfl (fun _=>rfl) rfl underlying3 rfl (by assumption)
     simp only[nmx,seval];apply VE.cons
     ·first|exact Ev.skip (fun _=>rfl)|refine D6 (fun _=>rfl) (fun ρ w=>by simp only[VS.act,SV.c,List.map_cons,List.map_nil];go_simp;exact rfl) (fun _ _=>rfl)
     simp only[nmx,seval];apply VE.cons
     ·first|exact CY rfl gg rfl rfl|exact Ca rfl gg rfl rfl
     simp only[nmx,seval];apply VE.cons
     ·exact Ap rfl gg
     simp only[nmx,seval];apply VE.cons
     ·first|exact Ev.skip (fun _=>rfl)|exact BG rfl (fun _=>rfl) rfl underlying34 rfl sizeOf9|exact BF rfl (fun _=>rfl) rfl underlying34 rfl sizeOf9
     simp only[nmx,seval];apply VE.cons
     ·first|exact Ev.skip (fun _=>rfl)|exact BK rfl (fun _=>rfl) rfl rfl underlying9 rfl rfl|exact BR rfl (fun _=>rfl) rfl underlying9 rfl (by assumption)
     simp only[nmx,seval];apply VE.cons
     ·first|exact Ev.skip (fun _=>rfl)|exact BG rfl (fun _=>rfl) rfl underlying34 rfl sizeOf9|exact BF rfl (fun _=>rfl) rfl underlying34 rfl sizeOf9
     simp only[nmx,seval];apply VE.cons
     ·first|exact Ev.skip (fun _=>rfl)|exact BK rfl (fun _=>rfl) rfl rfl underlying9 rfl rfl|exact BR rfl (fun _=>rfl) rfl underlying9 rfl (by assumption)
     simp only[nmx,seval];apply VE.cons
     ·first|exact Ev.skip (fun _=>rfl)|refine D6 (fun _=>rfl) (fun ρ w=>by simp only[VS.act,SV.c,List.map_cons,List.map_nil];go_simp;exact rfl) (fun _ _=>rfl)
     simp only[nmx,seval];apply VE.cons
     ·first|exact CY rfl gg rfl rfl|exact Ca rfl gg rfl rfl
     simp only[nmx,seval];exact VE.nil _
    ·kernel_rfl
    refine EO ?_;refine As ?_;change VOk _ _ _ _ _;apply vrp
    ·apply VE.cons
     ·exact BE (c:=((k+1:Nat):Int)) rfl gg rfl rfl (by rw[Ah (by omega) (by omega)];omega)
     simp only[nmx,seval];apply VE.cons
     ·exact Ap rfl gg
     simp only[nmx,seval];exact VE.nil _
    ·kernel_rfl
    refine⟨⟨k+1,by omega,KF hno hb hbk⟩,by show Rs.length-(k+1)<Rs.length-k;omega,?_⟩;first|exact Ar (fun i=>i==0||i==1||i==2||i==3||i==5||i==12||i==13||i==14) [9]|exact Ar (fun i=>i==0||i==1||i==2||i==3||i==5||i==12||i==13||i==14) [9,20]
   ·have hb8:=hr8 b (List.mem_of_getElem? hb)
    have hd:=iG hb8.1 hb8.2 hrd;have hd8: ∀x∈su',x<256:=hd.2.1.s8;obtain⟨p2,h_p2⟩: ∃p,decide (pa'<((i:Nat):Int))=p:=⟨_,rfl⟩
    obtain⟨p3,h_p3⟩: ∃p,decide (now<fr')=p:=⟨_,rfl⟩
    obtain⟨p4,h_p4⟩: ∃p,decide (now>to')=p:=⟨_,rfl⟩
    obtain⟨p5,h_p5⟩: ∃p,decide (su'≠is)=p:=⟨_,rfl⟩
    have h6:(ca'=true∧p2=false∧p3=false∧p4=false∧p5=false)∨(ca'=false∨(ca'=true∧p2=true)∨(ca'=true∧p2=false∧p3=true)∨(ca'=true∧p2=false∧p3=false∧p4=true)∨(ca'=true∧p2=false∧p3=false∧p4=false∧p5=true)):=by cases ca'<;>cases p2<;>cases p3<;>cases p4<;>cases p5<;>simp
    apply vrp
    ·apply VE.cons
     ·exact Ap rfl gg
     simp only[nmx,seval];apply VE.cons
     ·exact DL (D:=G5 ⟨se',is',su',fr',to',ky',ca',pa',us2⟩) (ys:=[.int .i64 0]) [] rfl rfl gg rfl (eo func12) (fun ρ S w' hb' hR=>qE w' (hL.bw hb') (A5 hvk hb') hb8.1 hb8.2 hrd)
     simp only[nmx,seval];apply VE.cons
     ·exact Ap rfl gg
     simp only[nmx,seval];apply VE.cons
     ·first|exact Cy rfl gg rfl rfl|exact C8 rfl gg rfl rfl
     simp only[nmx,seval];apply VE.cons
     ·first|exact Cy rfl gg rfl rfl|exact C8 rfl gg rfl rfl
     simp only[nmx,seval];apply VE.cons
     ·exact BZ rfl rfl gg zeroValue34
     simp only[nmx,seval];apply VE.cons
     ·exact Bh (vl:=[.v (.int .i64 se'),.v (.string (AB is')),.v (.string (AB su')),.v (.int .i64 fr'),.v (.int .i64 to'),.fn (AN 5) (.d 20),.v (.bool ca'),.v (.int .i64 pa'),.v (.int .i64 us2)]) [20,9] rfl gg rfl rfl rfl sizeOf34 rfl (fun ρ S w' _ hR=>by obtain⟨kv,e,h⟩:=Nb (id:=20) hR (by simp) rfl;exact QL e h) rfl (by simp)
     simp only[nmx,seval];apply VE.cons
     ·exact CJ rfl gg
     simp only[nmx,seval];exact VE.nil _
    ·kernel_rfl
    refine BP ?_;rcases h6 with⟨rfl,rfl,rfl,rfl,rfl⟩|h6
    ·obtain⟨z,h_z⟩: ∃z,decide (Ob bi ky'=0)=z:=⟨_,rfl⟩
     have hrok:rok now i is bi b=z:=by unfold rok;rw[hrd];simp only[h_p2,h_p3,h_p4,h_p5,h_z];rfl
     apply vrp
     ·apply VE.cons
      ·exact Ap rfl gg
      simp only[nmx,seval];apply VE.cons
      ·exact BB (p:=false) rfl gg rfl rfl (by decide)
      simp only[nmx,seval];apply VE.cons
      ·exact Ap rfl gg
      simp only[nmx,seval];apply VE.cons
      ·first|exact Ev.skip (fun _=>rfl)|exact BG rfl (fun _=>rfl) rfl underlying34 rfl sizeOf4|exact BF rfl (fun _=>rfl) rfl underlying34 rfl sizeOf4
      simp only[nmx,seval];apply VE.cons
      ·first|exact Ev.skip (fun _=>rfl)|exact BK rfl (fun _=>rfl) rfl rfl underlying4 rfl rfl|exact BR rfl (fun _=>rfl) rfl underlying4 rfl (by assumption)
      simp only[nmx,seval];apply VE.cons
      ·first|exact Ev.skip (fun _=>rfl)|exact D7 rfl (fun _=>rfl) rfl
      simp only[nmx,seval];apply VE.cons
      ·first|exact CY rfl gg rfl rfl|exact Ca rfl gg rfl rfl
      simp only[nmx,seval];apply VE.cons
      ·exact Ap rfl gg
      simp only[nmx,seval];apply VE.cons
      ·first|exact Ev.skip (fun _=>rfl)|exact BG rfl (fun _=>rfl) rfl underlying34 rfl sizeOf3|exact BF rfl (fun _=>rfl) rfl underlying34 rfl sizeOf3
      simp only[nmx,seval];apply VE.cons
      ·first|exact Ev.skip (fun _=>rfl)|exact BK rfl (fun _=>rfl) rfl rfl underlying3 rfl rfl|exact BR rfl (fun _=>rfl) rfl underlying3 rfl (by assumption)
      simp only[nmx,seval];apply VE.cons
      ·first|exact Ev.skip (fun _=>rfl)|exact Ap rfl (fun _=>rfl)
      simp only[nmx,seval];apply VE.cons
      ·first|exact Ev.skip (fun _=>rfl)|exact BM rfl (fun _=>rfl) rfl rfl h_p2
      simp only[nmx,seval];apply VE.cons
      ·first|exact CY rfl gg rfl rfl|exact Ca rfl gg rfl rfl
      simp only[nmx,seval];apply VE.cons
      ·exact Ap rfl gg
      simp only[nmx,seval];apply VE.cons
      ·first|exact Ev.skip (fun _=>rfl)|exact BG rfl (fun _=>rfl) rfl underlying95 rfl sizeOf3|exact BF rfl (fun _=>rfl) rfl underlying95 rfl sizeOf3
      simp only[nmx,seval];apply VE.cons
      ·first|exact Ev.skip (fun _=>rfl)|exact BK rfl (fun _=>rfl) rfl rfl underlying3 rfl rfl|exact BR rfl (fun _=>rfl) rfl underlying3 rfl (by assumption)
      simp only[nmx,seval];apply VE.cons
      ·first|exact Ev.skip (fun _=>rfl)|exact BG rfl (fun _=>rfl) rfl underlying34 rfl sizeOf3|exact BF rfl (fun _=>rfl) rfl underlying34 rfl sizeOf3
      simp only[nmx,seval];apply VE.cons
      ·first|exact Ev.skip (fun _=>rfl)|exact BK rfl (fun _=>rfl) rfl rfl underlying3 rfl rfl|exact BR rfl (fun _=>rfl) rfl underlying3 rfl (by assumption)
      simp only[nmx,seval];apply VE.cons
      ·first|exact Ev.skip (fun _=>rfl)|exact BM rfl (fun _=>rfl) rfl rfl h_p3
      simp only[nmx,seval];apply VE.cons
      ·first|exact CY rfl gg rfl rfl|exact Ca rfl gg rfl rfl
      simp only[nmx,seval];apply VE.cons
      ·exact Ap rfl gg
      simp only[nmx,seval];apply VE.cons
      ·first|exact Ev.skip (fun _=>rfl)|exact BG rfl (fun _=>rfl) rfl underlying95 rfl sizeOf3|exact BF rfl (fun _=>rfl) rfl underlying95 rfl sizeOf3
      simp only[nmx,seval];apply VE.cons
      ·first|exact Ev.skip (fun _=>rfl)|exact BK rfl (fun _=>rfl) rfl rfl underlying3 rfl rfl|exact BR rfl (fun _=>rfl) rfl underlying3 rfl (by assumption)
      simp only[nmx,seval];apply VE.cons
      ·first|exact Ev.skip (fun _=>rfl)|exact BG rfl (fun _=>rfl) rfl underlying34 rfl sizeOf3|exact BF rfl (fun _=>rfl) rfl underlying34 rfl sizeOf3
      simp only[nmx,seval];apply VE.cons
      ·first|exact Ev.skip (fun _=>rfl)|exact BK rfl (fun _=>rfl) rfl rfl underlying3 rfl rfl|exact BR rfl (fun _=>rfl) rfl underlying3 rfl (by assumption)
      simp only[nmx,seval];apply VE.cons
      ·first|exact Ev.skip (fun _=>rfl)|exact BV rfl (fun _=>rfl) rfl rfl h_p4
      simp only[nmx,seval];apply VE.cons
      ·first|exact CY rfl gg rfl rfl|exact Ca rfl gg rfl rfl
      simp only[nmx,seval];apply VE.cons
      ·exact Ap rfl gg
      simp only[nmx,seval];apply VE.cons
      ·first|exact Ev.skip (fun _=>rfl)|exact BG rfl (fun _=>rfl) rfl underlying34 rfl sizeOf9|exact BF rfl (fun _=>rfl) rfl underlying34 rfl sizeOf9
      simp only[nmx,seval];apply VE.cons
      ·first|exact Ev.skip (fun _=>rfl)|exact BK rfl (fun _=>rfl) rfl rfl underlying9 rfl rfl|exact BR rfl (fun _=>rfl) rfl underlying9 rfl (by assumption)
      simp only[nmx,seval];apply VE.cons
      ·first|exact Ev.skip (fun _=>rfl)|exact BG rfl (fun _=>rfl) rfl underlying34 rfl sizeOf9|exact BF rfl (fun _=>rfl) rfl underlying34 rfl sizeOf9
      simp only[nmx,seval];apply VE.cons
      ·first|exact Ev.skip (fun _=>rfl)|exact BK rfl (fun _=>rfl) rfl rfl underlying9 rfl rfl|exact BR rfl (fun _=>rfl) rfl underlying9 rfl (by assumption)
      simp only[nmx,seval];apply VE.cons
      ·first|exact Ev.skip (fun _=>rfl)|exact AK rfl (fun _=>rfl) rfl rfl (fun w=>Hp h_p5 hd8 is8 _ _ w)
      simp only[nmx,seval];apply VE.cons
      ·first|exact CY rfl gg rfl rfl|exact Ca rfl gg rfl rfl
      simp only[nmx,seval];exact VE.nil _
     ·kernel_rfl
     refine Cx ?_;apply vrd (by kernel_rfl)
     ·apply VE.cons
      ·first|exact BG rfl gg rfl underlying95 rfl sizeOf43|exact BF rfl gg rfl underlying95 rfl sizeOf43
      simp only[nmx,seval];apply VE.cons
      ·first|exact BK rfl gg rfl rfl underlying43 rfl rfl|exact BR rfl gg rfl underlying43 rfl (by assumption)
      simp only[nmx,seval];apply VE.cons
      ·exact Ap rfl gg
      simp only[nmx,seval];apply VE.cons
      ·exact Bc (k:=i) rfl gg rfl rfl underlying43 sizeOf23 (AW hc) (hi) (by decide)
      simp only[nmx,seval];apply VE.cons
      ·exact Cb rfl gg rfl underlying23 rfl (AW hc) hvi
      simp only[nmx,seval];apply VE.cons
      ·first|exact BG rfl gg rfl underlying34 rfl sizeOf23|exact BF rfl gg rfl underlying34 rfl sizeOf23
      simp only[nmx,seval];apply VE.cons
      ·first|exact BK rfl gg rfl rfl underlying23 rfl rfl|exact BR rfl gg rfl underlying23 rfl (by assumption)
      simp only[nmx,seval];apply VE.cons
      ·exact Aj (v:= .int .i64 (Ob bi ky')) [20] rfl gg rfl (eo func20) (fun ρ S w' hb' hR=>VO (c:=⟨se',is',su',fr',to',ky',true,pa',us2⟩) 20 (hL.bw hb') (hK.bw hb') (hH.bw hb') (Nat.lt_of_lt_of_le hb1 hb'.size) (A5 hv hb') h8 hbl hd.2.1.k8 hR (by simp) rfl)
      simp only[nmx,seval];apply VE.cons
      ·exact Ag rfl gg rfl rfl h_z
      simp only[nmx,seval];exact VE.nil _
     ·kernel_rfl
     change VOk _ _ _ _ _;cases z
     ·refine GQ rfl ?_
      have hbk:=hrok;refine GO ?_;change VOk _ _ _ _ _;apply vrp
      ·apply VE.cons
       ·exact BE (c:=((k+1:Nat):Int)) rfl gg rfl rfl (by rw[Ah (by omega) (by omega)];omega)
       simp only[nmx,seval];apply VE.cons
       ·exact Ap rfl gg
       simp only[nmx,seval];exact VE.nil _
      ·kernel_rfl
      refine⟨⟨k+1,by omega,KF hno hb hbk⟩,by show Rs.length-(k+1)<Rs.length-k;omega,?_⟩;first|exact Ar (fun i=>i==0||i==1||i==2||i==3||i==5||i==12||i==13||i==14) [9]|exact Ar (fun i=>i==0||i==1||i==2||i==3||i==5||i==12||i==13||i==14) [9,20]
     ·refine GP rfl ?_
      have hany:=V8 (p:=rok now i is bi) hb hrok;refine Fl ?_;apply vrp
      ·apply VE.cons
       ·exact CJ rfl gg
       simp only[nmx,seval];exact VE.nil _
      ·kernel_rfl
      refine Ci ?_;refine AD (AH results117 (AF rfl)) ?_;intro ρ w' hr;first|exact .inl ⟨hany,rfl,hr.1⟩|exact .inr ⟨hnone,_,rfl,FF 68 hr rfl,hr.1⟩
    ·have hbk:rok now i is bi b=false:=by
      unfold rok;rw[hrd];simp only[h_p2,h_p3,h_p4,h_p5];rcases h6 with rfl|⟨rfl,rfl⟩|⟨rfl,rfl,rfl⟩|⟨rfl,rfl,rfl,rfl⟩|⟨rfl,rfl,rfl,rfl,rfl⟩<;>rfl
     rcases h6 with rfl|⟨rfl,rfl⟩|⟨rfl,rfl,rfl⟩|⟨rfl,rfl,rfl,rfl⟩|⟨rfl,rfl,rfl,rfl,rfl⟩<;>
     (
      apply vrp
      ·apply VE.cons
       ·exact Ap rfl gg
       simp only[nmx,seval];apply VE.cons
       ·exact BB (p:=false) rfl gg rfl rfl (by decide)
       simp only[nmx,seval];apply VE.cons
       ·exact Ap rfl gg
       simp only[nmx,seval];apply VE.cons
       ·first|exact Ev.skip (fun _=>rfl)|exact BG rfl (fun _=>rfl) rfl underlying34 rfl sizeOf4|exact BF rfl (fun _=>rfl) rfl underlying34 rfl sizeOf4
       simp only[nmx,seval];apply VE.cons
       ·first|exact Ev.skip (fun _=>rfl)|exact BK rfl (fun _=>rfl) rfl rfl underlying4 rfl rfl|exact BR rfl (fun _=>rfl) rfl underlying4 rfl (by assumption)
       simp only[nmx,seval];apply VE.cons
       ·first|exact Ev.skip (fun _=>rfl)|exact D7 rfl (fun _=>rfl) rfl
       simp only[nmx,seval];apply VE.cons
       ·first|exact CY rfl gg rfl rfl|exact Ca rfl gg rfl rfl
       simp only[nmx,seval];apply VE.cons
       ·exact Ap rfl gg
       simp only[nmx,seval];apply VE.cons
       ·first|exact Ev.skip (fun _=>rfl)|exact BG rfl (fun _=>rfl) rfl underlying34 rfl sizeOf3|exact BF rfl (fun _=>rfl) rfl underlying34 rfl sizeOf3
       simp only[nmx,seval];apply VE.cons
       ·first|exact Ev.skip (fun _=>rfl)|exact BK rfl (fun _=>rfl) rfl rfl underlying3 rfl rfl|exact BR rfl (fun _=>rfl) rfl underlying3 rfl (by assumption)
       simp only[nmx,seval];apply VE.cons
       ·first|exact Ev.skip (fun _=>rfl)|exact Ap rfl (fun _=>rfl)
       simp only[nmx,seval];apply VE.cons
       ·first|exact Ev.skip (fun _=>rfl)|exact BM rfl (fun _=>rfl) rfl rfl h_p2
       simp only[nmx,seval];apply VE.cons
       ·first|exact CY rfl gg rfl rfl|exact Ca rfl gg rfl rfl
       simp only[nmx,seval];apply VE.cons
       ·exact Ap rfl gg
       simp only[nmx,seval];apply VE.cons
       ·first|exact Ev.skip (fun _=>rfl)|exact BG rfl (fun _=>rfl) rfl underlying95 rfl sizeOf3|exact BF rfl (fun _=>rfl) rfl underlying95 rfl sizeOf3
       simp only[nmx,seval];apply VE.cons
       ·first|exact Ev.skip (fun _=>rfl)|exact BK rfl (fun _=>rfl) rfl rfl underlying3 rfl rfl|exact BR rfl (fun _=>rfl) rfl underlying3 rfl (by assumption)
       simp only[nmx,seval];apply VE.cons
       ·first|exact Ev.skip (fun _=>rfl)|exact BG rfl (fun _=>rfl) rfl underlying34 rfl sizeOf3|exact BF rfl (fun _=>rfl) rfl underlying34 rfl sizeOf3
       simp only[nmx,seval];apply VE.cons
       ·first|exact Ev.skip (fun _=>rfl)|exact BK rfl (fun _=>rfl) rfl rfl underlying3 rfl rfl|exact BR rfl (fun _=>rfl) rfl underlying3 rfl (by assumption)
       simp only[nmx,seval];apply VE.cons
       ·first|exact Ev.skip (fun _=>rfl)|exact BM rfl (fun _=>rfl) rfl rfl h_p3
       simp only[nmx,seval];apply VE.cons
       ·first|exact CY rfl gg rfl rfl|exact Ca rfl gg rfl rfl
       simp only[nmx,seval];apply VE.cons
       ·exact Ap rfl gg
       simp only[nmx,seval];apply VE.cons
       ·first|exact Ev.skip (fun _=>rfl)|exact BG rfl (fun _=>rfl) rfl underlying95 rfl sizeOf3|exact BF rfl (fun _=>rfl) rfl underlying95 rfl sizeOf3
       simp only[nmx,seval];apply VE.cons
       ·first|exact Ev.skip (fun _=>rfl)|exact BK rfl (fun _=>rfl) rfl rfl underlying3 rfl rfl|exact BR rfl (fun _=>rfl) rfl underlying3 rfl (by assumption)
       simp only[nmx,seval];apply VE.cons
       ·first|exact Ev.skip (fun _=>rfl)|exact BG rfl (fun _=>rfl) rfl underlying34 rfl sizeOf3|exact BF rfl (fun _=>rfl) rfl underlying34 rfl sizeOf3
       simp only[nmx,seval];apply VE.cons
       ·first|exact Ev.skip (fun _=>rfl)|exact BK rfl (fun _=>rfl) rfl rfl underlying3 rfl rfl|exact BR rfl (fun _=>rfl) rfl underlying3 rfl (by assumption)
       simp only[nmx,seval];apply VE.cons
       ·first|exact Ev.skip (fun _=>rfl)|exact BV rfl (fun _=>rfl) rfl rfl h_p4
       simp only[nmx,seval];apply VE.cons
       ·first|exact CY rfl gg rfl rfl|exact Ca rfl gg rfl rfl
       simp only[nmx,seval];apply VE.cons
       ·exact Ap rfl gg
       simp only[nmx,seval];apply VE.cons
       ·first|exact Ev.skip (fun _=>rfl)|exact BG rfl (fun _=>rfl) rfl underlying34 rfl sizeOf9|exact BF rfl (fun _=>rfl) rfl underlying34 rfl sizeOf9
       simp only[nmx,seval];apply VE.cons
       ·first|exact Ev.skip (fun _=>rfl)|exact BK rfl (fun _=>rfl) rfl rfl underlying9 rfl rfl|exact BR rfl (fun _=>rfl) rfl underlying9 rfl (by assumption)
       simp only[nmx,seval];apply VE.cons
       ·first|exact Ev.skip (fun _=>rfl)|exact BG rfl (fun _=>rfl) rfl underlying34 rfl sizeOf9|exact BF rfl (fun _=>rfl) rfl underlying34 rfl sizeOf9
       simp only[nmx,seval];apply VE.cons
       ·first|exact Ev.skip (fun _=>rfl)|exact BK rfl (fun _=>rfl) rfl rfl underlying9 rfl rfl|exact BR rfl (fun _=>rfl) rfl underlying9 rfl (by assumption)
       simp only[nmx,seval];apply VE.cons
       ·first|exact Ev.skip (fun _=>rfl)|exact AK rfl (fun _=>rfl) rfl rfl (fun w=>Hp h_p5 hd8 is8 _ _ w)
       simp only[nmx,seval];apply VE.cons
       ·first|exact CY rfl gg rfl rfl|exact Ca rfl gg rfl rfl
       simp only[nmx,seval];exact VE.nil _
      ·kernel_rfl
      refine EO ?_;refine As ?_;change VOk _ _ _ _ _;apply vrp
      ·apply VE.cons
       ·exact BE (c:=((k+1:Nat):Int)) rfl gg rfl rfl (by rw[Ah (by omega) (by omega)];omega)
       simp only[nmx,seval];apply VE.cons
       ·exact Ap rfl gg
       simp only[nmx,seval];exact VE.nil _
      ·kernel_rfl
      refine⟨⟨k+1,by omega,KF hno hb hbk⟩,by show Rs.length-(k+1)<Rs.length-k;omega,?_⟩;first|exact Ar (fun i=>i==0||i==1||i==2||i==3||i==5||i==12||i==13||i==14) [9]|exact Ar (fun i=>i==0||i==1||i==2||i==3||i==5||i==12||i==13||i==14) [9,20]
     )
 ·exact Ar (fun i=>i==0||i==1||i==2||i==3||i==5||i==12||i==13||i==14) []
end Go.Proofs.YtafbhakmkbehiaaGreatDoor
