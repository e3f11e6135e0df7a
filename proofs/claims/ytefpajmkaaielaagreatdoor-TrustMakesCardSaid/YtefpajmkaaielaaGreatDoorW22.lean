import Derived.LaidHandle
import Derived.Test.YtefpajmkaaielaaGreatDoorW20
open Go.Proofs.Tryz
set_option maxHeartbeats 4000000
set_option maxRecDepth 100000
namespace Go.Proofs.YtefpajmkaaielaaGreatDoor
open Go.RowKit Go.Vx Go.ChangeShapes Go.WideShapes Go.ChangeAt Go.Lib
variable(w:World){ca:Bool}{fr now pa se to us use x1 x2:Int}{Rs:List (List Nat)}{b bi is rd su:List Nat}{us' vs:List Value}{i n r t:Nat}{S:Nat→Nat→Prop}{ρ:Nat→Nm}{G G':Nat→Prop}{α:Type}{kv rv vi:Value}
open TollMont
open Go.Toll (Gw)
open TollEc (F pp cb Jp Pt AZ add base nn neg)
open TollSha (sha Ap)
theorem XB{cv:Value}(hx1: ∀(p q:Operand) (w:World),(do eqGuard .and 3 p q (.int .i64 us) (.int .i64 1);binOp .and 3 (.int .i64 us) (.int .i64 1):Sem Value).run prog w= .ok (.int .i64 x1) w)(hx2: ∀(p q:Operand) (w:World),(do eqGuard .and 3 p q (.int .i64 us) (.int .i64 use);binOp .and 3 (.int .i64 us) (.int .i64 use):Sem Value).run prog w= .ok (.int .i64 x2) w)(hn1:decide (x1≠0)=true)(hn2:decide (x2≠0)=true)(ht1:decide (now<fr)=false)(ht2:decide (now>to)=false):CBy 14 #[CHV cv rv now use,.int .i64 0,.agg #[.int .i64 se,.string (AI is),.string (AI su),.int .i64 fr,.int .i64 to,kv,.bool false,.int .i64 pa,.int .i64 us]] w (.nilIface):=by
 go_enter func14,ntmps14
 refine AO ?_;iterate 14 refine AA ?_
 refine Nc ?_;refine Nf ?_;iterate 7 refine AA ?_
 refine JL ?_;iterate 3 refine k_g ?_
 iterate 2 refine AA ?_
 refine Na ?_;refine AB (by exact A0 (p:=true) rfl gg rfl rfl hn1) ?_;iterate 5 refine AA ?_
 refine Ng ?_;refine Nb ?_;iterate 11 refine AA ?_
 refine LF ?_;iterate 5 refine AA ?_
 refine Qw ?_;iterate 16 refine AA ?_
 exact AG (AD (AM results14 (AE rfl)) fun _ _ hr=>⟨rfl,hr.1⟩)
theorem nR{cv:Value}(hx1: ∀(p q:Operand) (w:World),(do eqGuard .and 3 p q (.int .i64 us) (.int .i64 1);binOp .and 3 (.int .i64 us) (.int .i64 1):Sem Value).run prog w= .ok (.int .i64 x1) w)(hx2: ∀(p q:Operand) (w:World),(do eqGuard .and 3 p q (.int .i64 us) (.int .i64 use);binOp .and 3 (.int .i64 us) (.int .i64 use):Sem Value).run prog w= .ok (.int .i64 x2) w)(hn1:decide (x1≠0)=true)(hn2:decide (x2≠0)=true)(ht1:decide (now<fr)=false)(ht2:decide (now>to)=true):CDy 14 #[CHV cv rv now use,.int .i64 0,.agg #[.int .i64 se,.string (AI is),.string (AI su),.int .i64 fr,.int .i64 to,kv,.bool false,.int .i64 pa,.int .i64 us]] w (EB 0 7):=by
 go_enter func14,ntmps14
 refine AO ?_;iterate 14 refine AA ?_
 refine Nc ?_;refine Nf ?_;iterate 7 refine AA ?_
 refine JL ?_;iterate 3 refine k_g ?_
 iterate 2 refine AA ?_
 refine Na ?_;refine AB (by exact A0 (p:=true) rfl gg rfl rfl hn1) ?_;iterate 5 refine AA ?_
 refine Ng ?_;refine Nb ?_;iterate 11 refine AA ?_
 refine LF ?_;iterate 5 refine AA ?_
 refine Xt ?_;iterate 7 refine AA ?_
 refine Xs ?_;iterate 2 refine AA ?_
 refine AG ?_;refine AD (AM results14 (AE rfl)) ?_;intro ρ w' hr;exact⟨_,rfl,J1 45 hr rfl,hr.1⟩
theorem XA{cv:Value}(hx1: ∀(p q:Operand) (w:World),(do eqGuard .and 3 p q (.int .i64 us) (.int .i64 1);binOp .and 3 (.int .i64 us) (.int .i64 1):Sem Value).run prog w= .ok (.int .i64 x1) w)(hx2: ∀(p q:Operand) (w:World),(do eqGuard .and 3 p q (.int .i64 us) (.int .i64 use);binOp .and 3 (.int .i64 us) (.int .i64 use):Sem Value).run prog w= .ok (.int .i64 x2) w)(hn1:decide (x1≠0)=true)(hn2:decide (x2≠0)=true)(ht1:decide (now<fr)=false)(ht2:decide (now>to)=false):CBy 14 #[CHV cv rv now use,.int .i64 0,.agg #[.int .i64 se,.string (AI is),.string (AI su),.int .i64 fr,.int .i64 to,kv,.bool true,.int .i64 pa,.int .i64 us]] w (.nilIface):=by
 go_enter func14,ntmps14
 refine AO ?_;iterate 14 refine AA ?_
 refine Nc ?_;refine Nf ?_;iterate 7 refine AA ?_
 refine JL ?_;iterate 3 refine k_g ?_
 iterate 2 refine AA ?_
 refine Na ?_;refine AB (by exact A0 (p:=true) rfl gg rfl rfl hn1) ?_;iterate 5 refine AA ?_
 refine Ng ?_;refine Nb ?_;iterate 11 refine AA ?_
 refine LF ?_;iterate 5 refine AA ?_
 refine Qw ?_;iterate 16 refine AA ?_
 exact AG (AD (AM results14 (AE rfl)) fun _ _ hr=>⟨rfl,hr.1⟩)
theorem nQ{cv:Value}(hx1: ∀(p q:Operand) (w:World),(do eqGuard .and 3 p q (.int .i64 us) (.int .i64 1);binOp .and 3 (.int .i64 us) (.int .i64 1):Sem Value).run prog w= .ok (.int .i64 x1) w)(hx2: ∀(p q:Operand) (w:World),(do eqGuard .and 3 p q (.int .i64 us) (.int .i64 use);binOp .and 3 (.int .i64 us) (.int .i64 use):Sem Value).run prog w= .ok (.int .i64 x2) w)(hn1:decide (x1≠0)=true)(hn2:decide (x2≠0)=true)(ht1:decide (now<fr)=false)(ht2:decide (now>to)=true):CDy 14 #[CHV cv rv now use,.int .i64 0,.agg #[.int .i64 se,.string (AI is),.string (AI su),.int .i64 fr,.int .i64 to,kv,.bool true,.int .i64 pa,.int .i64 us]] w (EB 0 7):=by
 go_enter func14,ntmps14
 refine AO ?_;iterate 14 refine AA ?_
 refine Nc ?_;refine Nf ?_;iterate 7 refine AA ?_
 refine JL ?_;iterate 3 refine k_g ?_
 iterate 2 refine AA ?_
 refine Na ?_;refine AB (by exact A0 (p:=true) rfl gg rfl rfl hn1) ?_;iterate 5 refine AA ?_
 refine Ng ?_;refine Nb ?_;iterate 11 refine AA ?_
 refine LF ?_;iterate 5 refine AA ?_
 refine Xt ?_;iterate 7 refine AA ?_
 refine Xs ?_;iterate 2 refine AA ?_
 refine AG ?_;refine AD (AM results14 (AE rfl)) ?_;intro ρ w' hr;exact⟨_,rfl,J1 45 hr rfl,hr.1⟩
theorem YV{w:World}{base:Nat}{m:Mem}{v:Value}{c:Crt}(id:Nat)(hL:Laid w)(hK:Au w)(hH:BD w)(hb1:8<w.heap.size)(hv:AJ w v b.length 1 (b.map b8) G)(h8: ∀x∈b,x<256)(hbl:b.length≤1048576)(k8: ∀x∈c.ky,x<256)(hR:RelOn base ρ S w (restr rd m))(hid:id∈rd)(hm:m id=some (.dat (Bg c))):
 CBy 25 (SV.cs ρ [.v v,.fn (AU 5) (.d id)]).toArray w (.int .i64 (DK b c.ky)):=by
 obtain⟨kv,e1,hk⟩:=Ca hR hid hm;have e:SV.cs ρ [.v v,.fn (AU 5) (.d id)]=[v,kv]:=by simp[SV.cs,SV.c,e1,CVV,AU,Value.cells]
 rw[e];exact uV w hL hK hH hb1 hv hk h8 k8 hbl
noncomputable def rok(now:Int)(i:Nat)(is bi b:List Nat):Bool:=match rdC b with
 |none=>false
 |some (d,_,_)=>d.ca && !decide (d.pa<(i:Int)) && !decide (now<d.fr) && !decide (now>d.to) && !decide (d.su≠is) && decide (DK bi d.ky=0)
theorem RX{p:α→Bool}{l:List α}{x:α}(h:(l.take i).any p=false)(hx:l[i]? =some x)(hp:p x=false):(l.take (i+1)).any p=false:=by
 rw[F8 hx,List.any_append,h];simp[hp]
theorem sM{p:α→Bool}{l:List α}{x:α}(hx:l[i]? =some x)(hp:p x=true):l.any p=true:=
 List.any_eq_true.2 ⟨x,List.mem_of_getElem? hx,hp⟩
theorem sQ{cv:Value}{F:Nat→Prop}(hL:Laid w)(hK:Au w)(hH:BD w)(hb1:8<w.heap.size)(hc:AJ w cv n 1 vs F)(hi:i<n)(_hi64:n≤1048576)(hvi:vs[i]? =some vi)(hv:AJ w vi bi.length 1 (bi.map b8) G')(h8: ∀x∈bi,x<256)(hbl:bi.length≤1048576)(is8: ∀x∈is,x<256)(hr1:AJ w rv Rs.length 1 us' G)(hr2:BZ w G Rs us')(hrl:Rs.length≤1048576)(hr8: ∀b∈Rs,(∀x∈b,x<256)∧b.length≤1048576):Calls prog 24 #[CHV cv rv now use,.int .i64 (i:Nat),.agg #[.int .i64 se,.string (AI is),.string (AI su),.int .i64 fr,.int .i64 to,kv,.bool ca,.int .i64 pa,.int .i64 us]] w fun e w'=>(Rs.any (rok now i is bi)=true∧e= .returned .nilIface∧Bw w w')∨(Rs.any (rok now i is bi)=false∧ ∃v,e= .returned v∧BO w w' v (EB i 8)∧Bw w w'):=by
 go_enter func24,ntmps24
 refine AO ?_;iterate 11 refine AA ?_
 refine pZ ?_;iterate 3 refine AA ?_
 refine B7 (α:={k:Nat // k≤Rs.length∧(Rs.take k).any (rok now i is bi)=false}) (fun(x:{k:Nat // k≤Rs.length∧(Rs.take k).any (rok now i is bi)=false}) f=>⟨(.v (CHV cv rv now use):: .v (.int .i64 (i:Nat)):: .v (.agg #[.int .i64 se,.string (AI is),.string (AI su),.int .i64 fr,.int .i64 to,kv,.bool ca,.int .i64 pa,.int .i64 us]):: .p 3 0:: .v (f 4):: .p 5 0::fv f 6 6 (.v rv:: .v (.int .i64 (Rs.length:Nat)):: .v (.int .i64 (x.1:Nat))::fv f 54 15 [])),AK [(5,.cells [.v (.int .i64 se),.v (.string (AI is)),.v (.string (AI su)),.v (.int .i64 fr),.v (.int .i64 to),.v kv,.v (.bool ca),.v (.int .i64 pa),.v (.int .i64 us)] 28),(3,.cells [.v cv,.v rv,.v (.int .i64 now),.v (.int .i64 use)] 42)]⟩) (fun x=>Rs.length-x.1) ?_ (⟨0,Nat.zero_le _,rfl⟩) ?_
 ·rintro⟨k,hk,hno⟩ f
  obtain⟨q,h_q⟩: ∃q,decide (((k:Nat):Int)<((Rs.length:Nat):Int))=q:=⟨_,rfl⟩
  change VOk _ _ _ _ _;simp only[fv,Nat.reduceAdd];iterate 2 refine k_g ?_
  refine Q2 ?_;iterate 2 refine k_g ?_
  cases q
  ·refine k_g ?_
   have hnone:Rs.any (rok now i is bi)=false:=by
    have he:k=Rs.length:=by have:=of_decide_eq_false h_q;omega
    rw[he,List.take_length]at hno;exact hno
   refine Aq ?_;change VOk _ _ _ _ _;iterate 3 refine AA ?_
   refine AB (by exact BG (D:=EB i 8) [] rfl rfl gg rfl (eo func23) (fun ρ S w' hb hR=>R2 _ _ w')) ?_;iterate 2 refine AA ?_
   refine AG ?_;refine AD (AM results24 (AE rfl)) ?_;intro ρ w' hr;first|exact .inl ⟨hany,rfl,hr.1⟩|exact .inr ⟨hnone,_,rfl,J1 68 hr rfl,hr.1⟩
  ·refine k_g ?_
   have hlt:k<Rs.length:=by have:=of_decide_eq_true h_q;omega
   obtain⟨b,hb⟩: ∃b,Rs[k]? =some b:=⟨_,List.getElem?_eq_getElem hlt⟩
   obtain⟨vk,hvk0,hvk⟩:=hr2.get hb;iterate 5 refine k_g ?_
   refine AB (by exact BU (k:=k) rfl gg rfl rfl underlying32 sizeOf26 (AW hr1) (hlt) (by decide)) ?_;refine AB (by exact B5 rfl gg rfl underlying26 rfl (AW hr1) hvk0) ?_;iterate 3 refine AA ?_
   rcases hrd:rdC b with _|⟨⟨se',is',su',fr',to',ky',ca',pa',us2⟩,r,t⟩
   ·have hb8:=hr8 b (List.mem_of_getElem? hb)
    have hbk:rok now i is bi b=false:=by unfold rok;rw[hrd]
    iterate 2 refine AA ?_
    refine AB (by exact Ah (v:= .tuple #[CZ,.int .i64 2]) rfl gg rfl (eo func22) (fun w' hw'=>qc w' (hL.bw hw') (Aa hvk hw') hb8.1 hb8.2 hrd)) ?_;iterate 11 refine AA ?_
    refine pU ?_;iterate 9 refine AA ?_
    refine DW ?_;iterate 6 refine AA ?_
    refine DW ?_;iterate 6 refine AA ?_
    refine DW ?_;iterate 6 refine AA ?_
    refine DW ?_;iterate 3 refine AA ?_
    refine Aq ?_;change VOk _ _ _ _ _;refine k_g ?_;refine Q1 ?_;iterate 2 refine AA ?_
    refine⟨⟨k+1,by omega,RX hno hb hbk⟩,by show Rs.length-(k+1)<Rs.length-k;omega,?_⟩;first|exact Al (fun i=>i==0||i==1||i==2||i==3||i==5||i==12||i==13||i==14) [9]|exact Al (fun i=>i==0||i==1||i==2||i==3||i==5||i==12||i==13||i==14) [9,20]
   ·have hb8:=hr8 b (List.mem_of_getElem? hb)
    have hd:=GL hb8.1 hb8.2 hrd;have hd8: ∀x∈su',x<256:=hd.2.1.s8;obtain⟨p2,h_p2⟩: ∃p,decide (pa'<((i:Nat):Int))=p:=⟨_,rfl⟩
    obtain⟨p3,h_p3⟩: ∃p,decide (now<fr')=p:=⟨_,rfl⟩
    obtain⟨p4,h_p4⟩: ∃p,decide (now>to')=p:=⟨_,rfl⟩
    obtain⟨p5,h_p5⟩: ∃p,decide (su'≠is)=p:=⟨_,rfl⟩
    have h6:(ca'=true∧p2=false∧p3=false∧p4=false∧p5=false)∨(ca'=false∨(ca'=true∧p2=true)∨(ca'=true∧p2=false∧p3=true)∨(ca'=true∧p2=false∧p3=false∧p4=true)∨(ca'=true∧p2=false∧p3=false∧p4=false∧p5=true)):=by cases ca'<;>cases p2<;>cases p3<;>cases p4<;>cases p5<;>simp
    iterate 2 refine AA ?_
    refine AB (by exact Cg (D:=Bg ⟨se',is',su',fr',to',ky',ca',pa',us2⟩) (ys:=[.int .i64 0]) [] rfl rfl gg rfl (eo func22) (fun ρ S w' hb' hR=>Yc w' (hL.bw hb') (Aa hvk hb') hb8.1 hb8.2 hrd)) ?_;iterate 4 refine AA ?_
    refine AB (by exact Az (vl:=[.v (.int .i64 se'),.v (.string (AI is')),.v (.string (AI su')),.v (.int .i64 fr'),.v (.int .i64 to'),.fn (AU 5) (.d 20),.v (.bool ca'),.v (.int .i64 pa'),.v (.int .i64 us2)]) [20,9] rfl gg rfl rfl rfl sizeOf28 rfl (fun ρ S w' _ hR=>by obtain⟨kv,e,h⟩:=Ca (id:=20) hR (by simp) rfl;exact Ch e h) rfl (by simp)) ?_;iterate 4 refine AA ?_
    rcases h6 with⟨rfl,rfl,rfl,rfl,rfl⟩|h6
    ·obtain⟨z,h_z⟩: ∃z,decide (DK bi ky'=0)=z:=⟨_,rfl⟩
     have hrok:rok now i is bi b=z:=by unfold rok;rw[hrd];simp only[h_p2,h_p3,h_p4,h_p5,h_z];rfl
     iterate 2 refine AA ?_
     refine C9 ?_;iterate 9 refine AA ?_
     refine AB (by first|exact Ev.skip (fun _=>rfl)|exact A4 rfl (fun _=>rfl) rfl rfl h_p2) ?_;iterate 6 refine AA ?_
     refine AB (by first|exact Ev.skip (fun _=>rfl)|exact A4 rfl (fun _=>rfl) rfl rfl h_p3) ?_;iterate 6 refine AA ?_
     refine AB (by first|exact Ev.skip (fun _=>rfl)|exact Bf rfl (fun _=>rfl) rfl rfl h_p4) ?_;iterate 6 refine AA ?_
     refine AB (by first|exact Ev.skip (fun _=>rfl)|exact AN rfl (fun _=>rfl) rfl rfl (fun w=>L5 h_p5 hd8 is8 _ _ w)) ?_;iterate 9 refine AA ?_
     refine X8 ?_;refine AB (by exact B5 rfl gg rfl underlying26 rfl (AW hc) hvi) ?_;refine AB (by first|exact Cn rfl gg rfl underlying28 rfl sizeOf26|exact Cm rfl gg rfl underlying28 rfl sizeOf26) ?_;refine AB (by first|exact Cl rfl gg rfl rfl underlying26 rfl rfl|exact Ck rfl gg rfl underlying26 rfl (by assumption)) ?_;refine AB (by exact Aj (v:= .int .i64 (DK bi ky')) [20] rfl gg rfl (eo func25) (fun ρ S w' hb' hR=>YV (c:=⟨se',is',su',fr',to',ky',true,pa',us2⟩) 20 (hL.bw hb') (hK.bw hb') (hH.bw hb') (Nat.lt_of_lt_of_le hb1 hb'.size) (Aa hv hb') h8 hbl hd.2.1.k8 hR (by simp) rfl)) ?_;refine AB (by exact Ax rfl gg rfl rfl h_z) ?_;refine k_g ?_;cases z
     ·refine k_g ?_
      have hbk:=hrok;iterate 2 refine k_g ?_
      refine Q1 ?_;iterate 2 refine AA ?_
      refine⟨⟨k+1,by omega,RX hno hb hbk⟩,by show Rs.length-(k+1)<Rs.length-k;omega,?_⟩;first|exact Al (fun i=>i==0||i==1||i==2||i==3||i==5||i==12||i==13||i==14) [9]|exact Al (fun i=>i==0||i==1||i==2||i==3||i==5||i==12||i==13||i==14) [9,20]
     ·refine k_g ?_
      have hany:=sM (p:=rok now i is bi) hb hrok;iterate 4 refine AA ?_
      refine AG ?_;refine AD (AM results24 (AE rfl)) ?_;intro ρ w' hr;first|exact .inl ⟨hany,rfl,hr.1⟩|exact .inr ⟨hnone,_,rfl,J1 68 hr rfl,hr.1⟩
    ·have hbk:rok now i is bi b=false:=by
      unfold rok;rw[hrd];simp only[h_p2,h_p3,h_p4,h_p5];rcases h6 with rfl|⟨rfl,rfl⟩|⟨rfl,rfl,rfl⟩|⟨rfl,rfl,rfl,rfl⟩|⟨rfl,rfl,rfl,rfl,rfl⟩<;>rfl
     rcases h6 with rfl|⟨rfl,rfl⟩|⟨rfl,rfl,rfl⟩|⟨rfl,rfl,rfl,rfl⟩|⟨rfl,rfl,rfl,rfl,rfl⟩<;>
     (
      iterate 2 refine AA ?_
      refine C9 ?_;iterate 9 refine AA ?_
      refine AB (by first|exact Ev.skip (fun _=>rfl)|exact A4 rfl (fun _=>rfl) rfl rfl h_p2) ?_;iterate 6 refine AA ?_
      refine AB (by first|exact Ev.skip (fun _=>rfl)|exact A4 rfl (fun _=>rfl) rfl rfl h_p3) ?_;iterate 6 refine AA ?_
      refine AB (by first|exact Ev.skip (fun _=>rfl)|exact Bf rfl (fun _=>rfl) rfl rfl h_p4) ?_;iterate 6 refine AA ?_
      refine AB (by first|exact Ev.skip (fun _=>rfl)|exact AN rfl (fun _=>rfl) rfl rfl (fun w=>L5 h_p5 hd8 is8 _ _ w)) ?_;iterate 3 refine AA ?_
      refine Aq ?_;change VOk _ _ _ _ _;refine k_g ?_;refine Q1 ?_;iterate 2 refine AA ?_
      refine⟨⟨k+1,by omega,RX hno hb hbk⟩,by show Rs.length-(k+1)<Rs.length-k;omega,?_⟩;first|exact Al (fun i=>i==0||i==1||i==2||i==3||i==5||i==12||i==13||i==14) [9]|exact Al (fun i=>i==0||i==1||i==2||i==3||i==5||i==12||i==13||i==14) [9,20]
     )
 ·exact Al (fun i=>i==0||i==1||i==2||i==3||i==5||i==12||i==13||i==14) []
theorem sP{cv:Value}{F:Nat→Prop}(hL:Laid w)(hK:Au w)(hH:BD w)(hb1:8<w.heap.size)(hc:AJ w cv n 1 vs F)(hi:i<n)(hi64:n≤1048576)(hvi:vs[i]? =some vi)(hv:AJ w vi bi.length 1 (bi.map b8) G')(h8: ∀x∈bi,x<256)(hbl:bi.length≤1048576)(is8: ∀x∈is,x<256)(hr1:AJ w rv Rs.length 1 us' G)(hr2:BZ w G Rs us')(hrl:Rs.length≤1048576)(hr8: ∀b∈Rs,(∀x∈b,x<256)∧b.length≤1048576)(h:Rs.any (rok now i is bi)=true):CBy 24 #[CHV cv rv now use,.int .i64 (i:Nat),.agg #[.int .i64 se,.string (AI is),.string (AI su),.int .i64 fr,.int .i64 to,kv,.bool ca,.int .i64 pa,.int .i64 us]] w .nilIface:=
 (sQ (se:=se) (su:=su) (fr:=fr) (to:=to) (pa:=pa) (us:=us) (ca:=ca) (kv:=kv) (use:=use) w hL hK hH hb1 hc hi hi64 hvi hv h8 hbl is8 hr1 hr2 hrl hr8).mono fun e w' hh=>by
  rcases hh with⟨_,h1,h2⟩|⟨h1,_⟩
  ·exact⟨h1,h2⟩
  ·rw[h]at h1;cases h1
theorem Gn{w w':World}(hb:Bw w w'){G:Nat→Prop}: ∀{Bs:List (List Nat)} {vs:List Value},BZ w G Bs vs→BZ w' G Bs vs
 | [],[],_=>trivial
 |_::_,_::_,h=>⟨Aa h.1 hb,Gn hb h.2⟩
theorem YZ{w:World}{base:Nat}{m:Mem}{cv:Value}{c:Crt}(id:Nat)(R:Ending→World→Prop)(hR:RelOn base ρ S w (restr rd m))(hid:id∈rd)(hm:m id=some (.dat (Bg c)))
 (h: ∀kv ca,c.ca=ca→Calls prog 14 #[CHV cv rv now use,.int .i64 0,.agg #[.int .i64 c.se,.string (AI c.is),.string (AI c.su),.int .i64 c.fr,.int .i64 c.to,kv,.bool ca,.int .i64 c.pa,.int .i64 c.us]] w R):Calls prog 14 (SV.cs ρ [.agg [.v cv,.v rv,.v (.int .i64 now),.v (.int .i64 use)],.v (.int .i64 0),.agg [.v (.int .i64 c.se),.v (.string (AI c.is)),.v (.string (AI c.su)),.v (.int .i64 c.fr),.v (.int .i64 c.to),.fn (AU 5) (.d id),.v (.bool c.ca),.v (.int .i64 c.pa),.v (.int .i64 c.us)]]).toArray w R:=by
 obtain⟨kv,e1,_⟩:=N5 hR hid hm;have e:SV.cs ρ [.agg [.v cv,.v rv,.v (.int .i64 now),.v (.int .i64 use)],.v (.int .i64 0),.agg [.v (.int .i64 c.se),.v (.string (AI c.is)),.v (.string (AI c.su)),.v (.int .i64 c.fr),.v (.int .i64 c.to),.fn (AU 5) (.d id),.v (.bool c.ca),.v (.int .i64 c.pa),.v (.int .i64 c.us)]]=[CHV cv rv now use,.int .i64 0,CVV c kv]:=by simp only[SV.cs,e1];rfl
 rw[e];exact h kv c.ca rfl
theorem qZ{w:World}{base:Nat}{m:Mem}{cv:Value}{c:Crt}(id:Nat)(R:Ending→World→Prop)(hR:RelOn base ρ S w (restr rd m))(hid:id∈rd)(hm:m id=some (.dat (Bg c)))
 (h: ∀kv,Calls prog 15 #[CHV cv rv now use,.int .i64 ((0:Nat):Int),.agg #[.int .i64 c.se,.string (AI c.is),.string (AI c.su),.int .i64 c.fr,.int .i64 c.to,kv,.bool c.ca,.int .i64 c.pa,.int .i64 c.us]] w R):Calls prog 15 (SV.cs ρ [.agg [.v cv,.v rv,.v (.int .i64 now),.v (.int .i64 use)],.v (.int .i64 0),.agg [.v (.int .i64 c.se),.v (.string (AI c.is)),.v (.string (AI c.su)),.v (.int .i64 c.fr),.v (.int .i64 c.to),.fn (AU 5) (.d id),.v (.bool c.ca),.v (.int .i64 c.pa),.v (.int .i64 c.us)]]).toArray w R:=by
 obtain⟨kv,e1,_⟩:=N5 hR hid hm;have e:SV.cs ρ [.agg [.v cv,.v rv,.v (.int .i64 now),.v (.int .i64 use)],.v (.int .i64 0),.agg [.v (.int .i64 c.se),.v (.string (AI c.is)),.v (.string (AI c.su)),.v (.int .i64 c.fr),.v (.int .i64 c.to),.fn (AU 5) (.d id),.v (.bool c.ca),.v (.int .i64 c.pa),.v (.int .i64 c.us)]]=[CHV cv rv now use,.int .i64 0,CVV c kv]:=by simp only[SV.cs,e1];rfl
 rw[e];exact h kv
theorem VO{cv:Value}{F:Nat→Prop}(hL:Laid w)(hK:Au w)(hH:BD w)(hb1:8<w.heap.size)(hc:AJ w cv n 1 vs F)(hi:i<n)(hi64:n≤1048576)(hvi:vs[i]? =some vi)(hv:AJ w vi bi.length 1 (bi.map b8) G')(h8: ∀x∈bi,x<256)(hbl:bi.length≤1048576)(is8: ∀x∈is,x<256)(hr1:AJ w rv Rs.length 1 us' G)(hr2:BZ w G Rs us')(hrl:Rs.length≤1048576)(hr8: ∀b∈Rs,(∀x∈b,x<256)∧b.length≤1048576)(hlast:i+1=n)(h:Rs.any (rok now i is bi)=true):CBy 15 #[CHV cv rv now use,.int .i64 (i:Nat),.agg #[.int .i64 se,.string (AI is),.string (AI su),.int .i64 fr,.int .i64 to,kv,.bool ca,.int .i64 pa,.int .i64 us]] w .nilIface:=by
 go_enter func15,ntmps15
 refine AO ?_;iterate 12 refine AA ?_
 refine Qx ?_;refine AB (by exact CF (c:=((n:Nat):Int)-1) rfl gg rfl rfl (by rw[Af (by omega) (by omega)])) ?_;refine AB (by exact Ax (p:=true) rfl gg rfl rfl (decide_eq_true (by omega))) ?_;iterate 4 refine k_g ?_
 iterate 3 refine AA ?_
 refine AB (by exact Ah (v:= .nilIface) rfl gg rfl (eo func24) (fun w' hw'=>sP w' (hL.bw hw') (hK.bw hw') (hH.bw hw') (Nat.lt_of_lt_of_le hb1 (Below.size hw')) (Aa hc hw') hi hi64 hvi (Aa hv hw') h8 hbl is8 (Aa hr1 hw') (Gn hw' hr2) hrl hr8 h)) ?_;iterate 2 refine AA ?_
 exact AG (AD (AM results15 (AE rfl)) fun _ _ hr=>⟨rfl,hr.1⟩)
theorem nU{cv:Value}{F:Nat→Prop}{c:Crt}(hL:Laid w)(hK:Au w)(hH:BD w)(hb1:8<w.heap.size)(hc:AJ w cv 1 1 [vi] F)(hv:AJ w vi bi.length 1 (bi.map b8) G')(h8: ∀x∈bi,x<256)(hbl:bi.length≤1048576)(hr1:AJ w rv Rs.length 1 us' G)(hr2:BZ w G Rs us')(hrl:Rs.length≤1048576)(hr8: ∀b∈Rs,(∀x∈b,x<256)∧b.length≤1048576)(hrd:rdC bi=some (c,r,t))(hx1: ∀(p q:Operand) (w:World),(do eqGuard .and 3 p q (.int .i64 c.us) (.int .i64 1);binOp .and 3 (.int .i64 c.us) (.int .i64 1):Sem Value).run prog w= .ok (.int .i64 x1) w)(hx2: ∀(p q:Operand) (w:World),(do eqGuard .and 3 p q (.int .i64 c.us) (.int .i64 use);binOp .and 3 (.int .i64 c.us) (.int .i64 use):Sem Value).run prog w= .ok (.int .i64 x2) w)(hn1:decide (x1≠0)=true)(hn2:decide (x2≠0)=true)(ht1:decide (now<c.fr)=false)(ht2:decide (now>c.to)=false)(hany:Rs.any (rok now 0 c.is bi)=true):Calls prog 9 #[CHV cv rv now use] w fun e w'=> ∃u,e= .returned (.tuple #[u,.nilIface])∧BO w w' u (Bg c)∧Bw w w':=by
 have hs:=GL h8 hbl hrd
 go_enter func9,ntmps9
 refine AO ?_;iterate 9 refine AA ?_
 iterate 4 refine k_g ?_
 iterate 2 refine AA ?_
 refine Qx ?_;iterate 3 refine AA ?_
 refine Ce 2 ?_;change VOk _ _ _ _ _;iterate 2 refine k_g ?_
 refine Xx ?_;iterate 15 refine AA ?_
 refine Xu ?_;iterate 4 refine AA ?_
 refine d_4 ?_;iterate 6 refine AA ?_
 refine Ho ?_;iterate 3 refine k_g ?_
 iterate 3 refine AA ?_
 refine pK ?_;iterate 6 refine AA ?_
 refine Ho ?_;iterate 3 refine k_g ?_
 iterate 3 refine AA ?_
 refine AB (by exact Aj (v:= .nilIface) [17] rfl gg rfl (eo func15) (fun ρ S w' hb hR=>qZ 17 _ hR (by simp) rfl (fun kv=>VO (i:=0) (n:=1) w' (hL.bw hb) (hK.bw hb) (hH.bw hb) (Nat.lt_of_lt_of_le hb1 (Below.size hb)) (Aa hc hb) (by decide) (by decide) rfl (Aa hv hb) h8 hbl hs.2.1.i8 (Aa hr1 hb) (Gn hb hr2) hrl hr8 rfl hany))) ?_;iterate 6 refine AA ?_
 refine Hp ?_;iterate 6 refine AA ?_
 refine JL ?_;iterate 3 refine k_g ?_
 refine AA ?_;refine d_4 ?_;iterate 2 refine k_g ?_
 refine pP ?_;iterate 4 refine AA ?_
 refine Qy ?_;iterate 3 refine k_g ?_
 refine Aq ?_;change VOk _ _ _ _ _;iterate 2 refine k_g ?_
 refine AA ?_;refine d_4 ?_;iterate 2 refine AA ?_
 refine AG ?_;refine AD (Av results9 (BN rfl rfl underlying28 rfl sizeOf28 rfl) (AE rfl)) ?_;intro ρ w' hr;exact⟨_,rfl,HI 17 hr rfl,hr.1⟩
theorem nT{cv:Value}{F:Nat→Prop}{c:Crt}(hL:Laid w)(_hK:Au w)(_hH:BD w)(_hb1:8<w.heap.size)(hc:AJ w cv 1 1 [vi] F)(hv:AJ w vi bi.length 1 (bi.map b8) G')(h8: ∀x∈bi,x<256)(hbl:bi.length≤1048576)(_hr1:AJ w rv Rs.length 1 us' G)(_hr2:BZ w G Rs us')(_hrl:Rs.length≤1048576)(_hr8: ∀b∈Rs,(∀x∈b,x<256)∧b.length≤1048576)(hrd:rdC bi=some (c,r,t))(hx1: ∀(p q:Operand) (w:World),(do eqGuard .and 3 p q (.int .i64 c.us) (.int .i64 1);binOp .and 3 (.int .i64 c.us) (.int .i64 1):Sem Value).run prog w= .ok (.int .i64 x1) w)(hx2: ∀(p q:Operand) (w:World),(do eqGuard .and 3 p q (.int .i64 c.us) (.int .i64 use);binOp .and 3 (.int .i64 c.us) (.int .i64 use):Sem Value).run prog w= .ok (.int .i64 x2) w)(hn1:decide (x1≠0)=true)(hn2:decide (x2≠0)=true)(ht1:decide (now<c.fr)=false)(ht2:decide (now>c.to)=true):Calls prog 9 #[CHV cv rv now use] w fun e w'=> ∃u,e= .returned (.tuple #[CZ,u])∧BO w w' u (EB 0 7)∧Bw w w':=by
 have hs:=GL h8 hbl hrd
 go_enter func9,ntmps9
 refine AO ?_;iterate 9 refine AA ?_
 iterate 4 refine k_g ?_
 iterate 2 refine AA ?_
 refine Qx ?_;iterate 3 refine AA ?_
 refine Ce 2 ?_;change VOk _ _ _ _ _;iterate 2 refine k_g ?_
 refine Xx ?_;iterate 15 refine AA ?_
 refine Xu ?_;iterate 4 refine AA ?_
 refine d_4 ?_;iterate 6 refine AA ?_
 refine Ho ?_;iterate 3 refine k_g ?_
 iterate 3 refine AA ?_
 refine AB (by exact BG (D:=EB 0 7) [17] rfl rfl gg rfl (eo func14) (fun ρ S w' hb hR=>YZ 17 _ hR (by simp) rfl (fun kv ca hca=>by cases ca with|true=>exact nQ w' hx1 hx2 hn1 hn2 ht1 ht2|false=>exact nR w' hx1 hx2 hn1 hn2 ht1 ht2))) ?_;iterate 6 refine AA ?_
 refine AB (by exact oI rfl gg rfl rfl) ?_;iterate 7 refine AA ?_
 refine YA ?_;iterate 4 refine k_g ?_
 refine HK ?_;refine AA ?_;refine d_4 ?_;iterate 2 refine AA ?_
 refine AG ?_;refine AD (Av results9 (BN rfl rfl underlying28 rfl sizeOf28 rfl) (AE rfl)) ?_;intro ρ w' hr;exact⟨_,rfl,J1 25 hr rfl,hr.1⟩
def EE(w:World):Prop:=w.cell? ⟨0,0,none⟩=some (.iface 118 (.agg #[.pointer (some ⟨11,39,none⟩)]))
theorem EE.bw{w w':World}(h:EE w)(hb1:8<w.heap.size)(hb:Bw w w'):EE w':=
 (Below.cell hb (p:=⟨0,0,none⟩) (show 0<w.heap.size by omega)).trans h
theorem qS{w:World}{base:Nat}{m:Mem}{a e:Int}(id:Nat)(hE:EE w)(hR:RelOn base ρ S w (restr rd m))(hid:id∈rd)(hm:m id=some (.dat (EB a e))):
 Calls prog 10 (SV.cs ρ [.d id]).toArray w fun ev w'=>ev= .returned (.tuple #[.int .i64 a,.int .i64 e])∧Bw w w':=by
 obtain⟨p,q,h1,h2,h3⟩:=Qv hR hid hm;have e1:SV.cs ρ [.d id]=[.iface 53 (.pointer (some ⟨p,0,none⟩))]:=by simp only[SV.cs,SV.c,h1]
 rw[e1];exact Jf p q a e w h2 h3 hE
theorem RF(p q:Option Addr)(a b c d:Nat)(x y:Int):prog.built 42 [(0,.slice p a b),(1,.slice q c d),(2,.int .i64 x),(3,.int .i64 y)]=some #[.slice p a b,.slice q c d,.int .i64 x,.int .i64 y]:=by kernel_rfl
theorem vC{cv:Value}{F:Nat→Prop}{c:Crt}(hL:Laid w)(hK:Au w)(hH:BD w)(hb1:8<w.heap.size)(hc:AJ w cv 1 1 [vi] F)(hv:AJ w vi bi.length 1 (bi.map b8) G')(h8: ∀x∈bi,x<256)(hbl:bi.length≤1048576)(_hE:EE w)(hr1:AJ w rv Rs.length 1 us' G)(hr2:BZ w G Rs us')(hrl:Rs.length≤1048576)(hr8: ∀b∈Rs,(∀x∈b,x<256)∧b.length≤1048576)(hrd:rdC bi=some (c,r,t))(hx1: ∀(p q:Operand) (w:World),(do eqGuard .and 3 p q (.int .i64 c.us) (.int .i64 1);binOp .and 3 (.int .i64 c.us) (.int .i64 1):Sem Value).run prog w= .ok (.int .i64 x1) w)(hx2: ∀(p q:Operand) (w:World),(do eqGuard .and 3 p q (.int .i64 c.us) (.int .i64 4);binOp .and 3 (.int .i64 c.us) (.int .i64 4):Sem Value).run prog w= .ok (.int .i64 x2) w)(hn1:decide (x1≠0)=true)(hn2:decide (x2≠0)=true)(ht1:decide (now<c.fr)=false)(ht2:decide (now>c.to)=false)(hany:Rs.any (rok now 0 c.is bi)=true):Calls prog 4 #[cv,rv,.int .i64 now,.int .i64 4] w fun e w'=> ∃u,e= .returned (.tuple #[u,.int .i64 0,.int .i64 0])∧BO w w' u (Bg c)∧Bw w w':=by
 have hc':=hc;have hr1':=hr1;obtain⟨ao,cap,ecv,_⟩:=hc;obtain⟨ao2,cap2,erv,_⟩:=hr1;subst ecv erv
 go_enter func4,ntmps4
 refine AO ?_;iterate 2 refine k_g ?_
 iterate 8 refine AA ?_
 refine X5 ?_;refine Qy ?_;iterate 2 refine AA ?_
 refine YD ?_;refine Xw ?_;iterate 3 refine AA ?_
 refine Xy ?_;iterate 2 refine AA ?_
 refine Xr ?_;iterate 11 refine AA ?_
 refine X7 ?_;refine AB (by exact Cg (D:=Bg c) (ys:=[.nilIface]) [] rfl rfl gg rfl (eo func9) (fun ρ S w' hb hR=>nU w' (hL.bw hb) (hK.bw hb) (hH.bw hb) (Nat.lt_of_lt_of_le hb1 (Below.size hb)) (Aa hc' hb) (Aa hv hb) h8 hbl (Aa hr1' hb) (Gn hb hr2) hrl hr8 hrd hx1 hx2 hn1 hn2 ht1 ht2 hany)) ?_;iterate 4 refine AA ?_
 refine d_5 ?_;iterate 6 refine AA ?_
 refine Hp ?_;iterate 5 refine k_g ?_
 refine AA ?_;refine d_5 ?_;iterate 3 refine AA ?_
 refine AG ?_;refine AD (B9 results4 (BN rfl rfl underlying28 rfl sizeOf28 rfl) (AE rfl) (AE rfl)) ?_;intro ρ w' hr;exact⟨_,rfl,HI 38 hr rfl,hr.1⟩
theorem vB{cv:Value}{F:Nat→Prop}{c:Crt}(hL:Laid w)(hK:Au w)(hH:BD w)(hb1:8<w.heap.size)(hc:AJ w cv 1 1 [vi] F)(hv:AJ w vi bi.length 1 (bi.map b8) G')(h8: ∀x∈bi,x<256)(hbl:bi.length≤1048576)(hE:EE w)(hr1:AJ w rv Rs.length 1 us' G)(hr2:BZ w G Rs us')(hrl:Rs.length≤1048576)(hr8: ∀b∈Rs,(∀x∈b,x<256)∧b.length≤1048576)(hrd:rdC bi=some (c,r,t))(hx1: ∀(p q:Operand) (w:World),(do eqGuard .and 3 p q (.int .i64 c.us) (.int .i64 1);binOp .and 3 (.int .i64 c.us) (.int .i64 1):Sem Value).run prog w= .ok (.int .i64 x1) w)(hx2: ∀(p q:Operand) (w:World),(do eqGuard .and 3 p q (.int .i64 c.us) (.int .i64 4);binOp .and 3 (.int .i64 c.us) (.int .i64 4):Sem Value).run prog w= .ok (.int .i64 x2) w)(hn1:decide (x1≠0)=true)(hn2:decide (x2≠0)=true)(ht1:decide (now<c.fr)=false)(ht2:decide (now>c.to)=true):CBy 4 #[cv,rv,.int .i64 now,.int .i64 4] w (.tuple #[CZ,.int .i64 0,.int .i64 7]):=by
 have hc':=hc;have hr1':=hr1;obtain⟨ao,cap,ecv,_⟩:=hc;obtain⟨ao2,cap2,erv,_⟩:=hr1;subst ecv erv
 go_enter func4,ntmps4
 refine AO ?_;iterate 2 refine k_g ?_
 iterate 8 refine AA ?_
 refine X5 ?_;refine Qy ?_;iterate 2 refine AA ?_
 refine YD ?_;refine Xw ?_;iterate 3 refine AA ?_
 refine Xy ?_;iterate 2 refine AA ?_
 refine Xr ?_;iterate 11 refine AA ?_
 refine X7 ?_;refine AB (by exact oS (D:=EB 0 7) (y:=CZ) [] rfl rfl gg rfl (eo func9) (fun ρ S w' hb hR=>nT w' (hL.bw hb) (hK.bw hb) (hH.bw hb) (Nat.lt_of_lt_of_le hb1 (Below.size hb)) (Aa hc' hb) (Aa hv hb) h8 hbl (Aa hr1' hb) (Gn hb hr2) hrl hr8 hrd hx1 hx2 hn1 hn2 ht1 ht2)) ?_;iterate 4 refine AA ?_
 refine d_5 ?_;iterate 6 refine AA ?_
 refine YA ?_;iterate 5 refine AA ?_
 refine AB (by exact Aj (v:= .tuple #[.int .i64 0,.int .i64 7]) [38] rfl gg rfl (eo func10) (fun ρ S w' hb hR=>qS 38 (hE.bw hb1 hb) hR (by simp) rfl)) ?_;iterate 8 refine AA ?_
 refine HK ?_;iterate 2 refine AA ?_
 refine d_5 ?_;iterate 3 refine AA ?_
 exact AG (AD (B9 results4 (Ad rfl rfl underlying28 rfl sizeOf28 rfl rfl) (AE rfl) (AE rfl)) fun _ _ hr=>⟨rfl,hr.1⟩)
def Gd:List (String×DataW Unit):=Rows.trustMakesRow.laid
theorem o8:prog.globalNamed "errors.errorType" =some 0:=by kernel_rfl
theorem o5:(prog.cutTypes.find? (·.1== "internal/reflectlite.rtype")).map (·.2)=some 118:=by kernel_rfl
theorem o6:((List.range 253).filter fun t=>prog.rowNamed t [101,114,114,111,114])=[39]:=by kernel_rfl
theorem o0:prog.types.size=253:=by kernel_rfl
theorem Xd:(Gd.filter fun x=>x.2.handleName?.isNone)=D7:=by kernel_rfl
theorem Xc:(Gd.filter fun x=>x.2.handleName?.isSome)=[("errors.errorType",Rows.laid_errors_errorType)]:=by kernel_rfl
theorem o7{W:World}(h:laidMetH prog Gd W):laidMetH prog D7 W∧handlesMet prog [("errors.errorType",Rows.laid_errors_errorType)] W:=by
 unfold laidMetH at h;rw[Xc,Xd]at h;refine⟨?_,h.2⟩;unfold D7;rw[MakeChecks.laidMetH_plain _ _ _ (by kernel_rfl)];exact h.1
theorem KG{W:World}(h:laidMetH prog Gd W):Laid W∧Au W∧BD W∧EE W∧8<W.heap.size:=by
 obtain⟨h1,h2⟩:=o7 h;obtain⟨a,b,c,d⟩:=fb h1;refine⟨a,b,c,?_,d⟩;obtain⟨name,u,ty,e1,e2,e3,e4,e5⟩:=h2 _ (List.mem_singleton.2 rfl);have en:name=[101,114,114,111,114]:=(Option.some.inj e1).symm;subst en;obtain rfl:=Option.some.inj (o5.symm.trans e2);have hm:ty∈(List.range 253).filter fun t=>prog.rowNamed t [101,114,114,111,114]:=List.mem_filter.2 ⟨List.mem_range.2 (by rw[←o0];exact e3),e4⟩
 rw[o6]at hm;obtain rfl:=List.mem_singleton.1 hm;have hh:typeHandle prog 39= .pointer (some ⟨11,39,none⟩):=by kernel_rfl
 rw[hh]at e5;have h0:=World.var?_cell o8 e5 0;exact h0
noncomputable def Wv(os:Os):World:=
 let w0:=World.holding prog os ⟨#[],#[],[]⟩
 {w0 with heap:=w0.heap.modify 0 fun
  | .cells _ t frozen=> .cells #[.iface 118 (.agg #[.pointer (some ⟨11,39,none⟩)])] t frozen
  |o=>o}
noncomputable def Mo(os:Os):World:=(Wv os).layVars prog D7
theorem kV(os:Os):(Mo os).os=os:=(World.layVars_os _ _ _).trans rfl
theorem kZ(os:Os)(args:Array Value):laidMetH prog Gd ((Mo os).forCall (fun _ _=>0) ⟨#[],args,[]⟩).memory:=by
 have e1:(D7.filter fun x=>(D7.map (·.1)).contains x.1)=D7:=List.filter_eq_self.2 fun x hx=>List.contains_iff_mem.2 (List.mem_map.2 ⟨x,hx,rfl⟩)
 have e2:(D7.filter fun x=> !(D7.map (·.1)).contains x.1)=[]:=List.filter_eq_nil_iff.2 fun x hx=>by rw[List.contains_iff_mem.2 (List.mem_map.2 ⟨x,hx,rfl⟩)];simp
 have h:laidMet prog D7 (Mo os):=laidMet_layVars (w0:=Wv os) (D7.map (·.1)) [] (by rw[e1];rfl) (by rw[e1];kernel_rfl) (by rw[e1];kernel_rfl) (by rw[e2];exact LaidIn.none);refine laidMetH_of_parts ?_ ?_
 ·rw[Xd]
  exact h.of_heap (by simp[World.memory,World.forCall,Input.heap])
 ·rw[Xc]
  kernel_rfl
end Go.Proofs.YtefpajmkaaielaaGreatDoor
