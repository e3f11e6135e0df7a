import Derived.Test.YtafbhakmkbehiaaGreatDoorZ32
import Derived.Test.YtafbhakmkbehiaaGreatDoorZ33
open Go.Proofs.Tryz
set_option maxHeartbeats 4000000
set_option maxRecDepth 100000
namespace Go.Proofs.YtafbhakmkbehiaaGreatDoor
open Go.RowKit Go.Vx
variable(w:World){ops:Array Oper}{t:Array TypeId}{rd:List Nat}{o:Oper}{P:Program}{s:VS}{w0:World}
open TollMont
open Go.Toll (Gw)
open TollEc (F pp cb Jp Pt Au add base nn neg)
open TollSha (sha CH)
theorem Vt(b e:ByteArray)(a f d k:Int)(q:Bool)(p:Option Addr)(m n:Nat):prog.built 34 [(0,.int .i64 a),(1,.string b),(2,.string e),(3,.int .i64 f),(4,.int .i64 d),(5,.slice p m n),(6,.bool q),(8,.int .i64 k)]=some #[.int .i64 a,.string b,.string e,.int .i64 f,.int .i64 d,.slice p m n,.bool q,.int .i64 0,.int .i64 k]:=by kernel_rfl
theorem Fq{t0 t1 t2 t3 t4 t5 t6 t8:Operand}{a f d k:Int}{b e:ByteArray}{q:Bool}{sy:SV}{n size:Nat}{l:List Value}(ho:o.op= .build 34 #[(0,t0),(1,t1),(2,t2),(3,t3),(4,t4),(5,t5),(6,t6),(8,t8)])(hgd:AQ ops o s)
 (h0:AE s t0= .v (.int .i64 a))(h1:AE s t1= .v (.string b))(h2:AE s t2= .v (.string e))(h3:AE s t3= .v (.int .i64 f))(h4:AE s t4= .v (.int .i64 d))(h5:AE s t5=sy)(h6:AE s t6= .v (.bool q))(h8:AE s t8= .v (.int .i64 k))(hr:Rdg w0 s.mem rd sy n size l):
 Ev prog ops w0 o s ⟨.agg [.v (.int .i64 a),.v (.string b),.v (.string e),.v (.int .i64 f),.v (.int .i64 d),sy,.v (.bool q),.v (.int .i64 0),.v (.int .i64 k)],[],[],[],rd⟩:=
 Ev.run _ _ hgd fun ρ S w hbw hR=>by
  have e0:=AI s ρ t0;rw[h0]at e0;have e1:=AI s ρ t1;rw[h1]at e1;have e2:=AI s ρ t2;rw[h2]at e2;have e3:=AI s ρ t3;rw[h3]at e3;have e4:=AI s ρ t4;rw[h4]at e4;have e5:=AI s ρ t5;rw[h5]at e5;have e6:=AI s ρ t6;rw[h6]at e6;have e8:=AI s ρ t8;rw[h8]at e8;obtain⟨_,ao,cap,hv,_⟩:=hr ρ S w hbw hR;rw[hv]at e5;simp only[execOp,ho,List.map_toArray,List.map_cons,List.map_nil,e0,e1,e2,e3,e4,e5,e6,e8,SV.c];rw[Sem.run_bind,run_build w 34 _ _ (Vt b e a f d k q ao n cap)];simp[SV.c,SV.cs,hv]
theorem C9{x y:Operand}{a:Nat}(ho:o.op= .call {callee:= .builtin .max,args:= #[x,y],argTypes:=t})(hgd:AQ ops o s)(hx:AE s x= .v (.int .i64 (a:Nat)))(hy:AE s y= .v (.int .i64 0)):
 Ev P ops w0 o s ⟨.v (.int .i64 (a:Nat)),[],[],[],[]⟩:=
 Ev.run _ _ hgd fun ρ S w hb hR=>by
  have e1:=AI s ρ x;rw[hx]at e1;have e2:=AI s ρ y;rw[hy]at e2;simp only[SV.c]at e1 e2;unfold execOp;simp only[ho,resolve,invoke,builtin,Sem.run_bind,Sem.run_pure,Result.andThen_ok,List.map_toArray,List.map_cons,List.map_nil,e1,e2,SV.c];by_cases h:a=0
  ·subst h;simp[Builtin.max_,Builtin.max2]
  ·simp[Builtin.max_,Builtin.max2]
   intro hh;omega
theorem SB:Calls prog 41 #[.int .u8 0] w fun e w'=>e= .returned (.string (AB [110,97]))∧Bw w w':=by
 go_enter func41,ntmps41
 refine Cg ?_;apply vrp
 ·apply VE.cons
  ·exact CJ rfl gg
  simp only[nmx,seval];exact VE.nil _
 ·kernel_rfl
 refine AU ?_;apply vrp
 ·apply VE.cons
  ·exact Ap rfl gg
  simp only[nmx,seval];apply VE.cons
  ·exact AK (c:= .int .u8 0) rfl gg rfl rfl (fun w=>by kernel_rfl)
  simp only[nmx,seval];apply VE.cons
  ·exact AK (c:= .int .u8 97) rfl gg rfl rfl (fun w=>by kernel_rfl)
  simp only[nmx,seval];apply VE.cons
  ·exact BL rfl rfl gg rfl (e:=5) (l:=[97].map b8) rfl (by decide) (fun _=>by kernel_rfl)
  simp only[nmx,seval];apply VE.cons
  ·exact Cc (bs:=[97]) rfl gg rfl underlying23 underlying5 underlying9 (BI rfl)
  simp only[nmx,seval];apply VE.cons
  ·exact AK (c:= .string (AB [110,97])) rfl gg rfl rfl (fun w=>by kernel_rfl)
  simp only[nmx,seval];apply VE.cons
  ·exact CJ rfl gg
  simp only[nmx,seval];exact VE.nil _
 ·kernel_rfl
 change VOk _ _ _ _ _;exact AG (AD (AH results41 (AF rfl)) fun _ _ hr=>⟨rfl,hr.1⟩)
theorem EK:Calls prog 41 #[.int .u8 1] w fun e w'=>e= .returned (.string (AB [110,98]))∧Bw w w':=by
 go_enter func41,ntmps41
 refine Cg ?_;apply vrp
 ·apply VE.cons
  ·exact CJ rfl gg
  simp only[nmx,seval];exact VE.nil _
 ·kernel_rfl
 refine AU ?_;apply vrp
 ·apply VE.cons
  ·exact Ap rfl gg
  simp only[nmx,seval];apply VE.cons
  ·exact AK (c:= .int .u8 1) rfl gg rfl rfl (fun w=>by kernel_rfl)
  simp only[nmx,seval];apply VE.cons
  ·exact AK (c:= .int .u8 98) rfl gg rfl rfl (fun w=>by kernel_rfl)
  simp only[nmx,seval];apply VE.cons
  ·exact BL rfl rfl gg rfl (e:=5) (l:=[98].map b8) rfl (by decide) (fun _=>by kernel_rfl)
  simp only[nmx,seval];apply VE.cons
  ·exact Cc (bs:=[98]) rfl gg rfl underlying23 underlying5 underlying9 (BI rfl)
  simp only[nmx,seval];apply VE.cons
  ·exact AK (c:= .string (AB [110,98])) rfl gg rfl rfl (fun w=>by kernel_rfl)
  simp only[nmx,seval];apply VE.cons
  ·exact CJ rfl gg
  simp only[nmx,seval];exact VE.nil _
 ·kernel_rfl
 change VOk _ _ _ _ _;exact AG (AD (AH results41 (AF rfl)) fun _ _ hr=>⟨rfl,hr.1⟩)
theorem Hj:Calls prog 41 #[.int .u8 2] w fun e w'=>e= .returned (.string (AB [110,99]))∧Bw w w':=by
 go_enter func41,ntmps41
 refine Cg ?_;apply vrp
 ·apply VE.cons
  ·exact CJ rfl gg
  simp only[nmx,seval];exact VE.nil _
 ·kernel_rfl
 refine AU ?_;apply vrp
 ·apply VE.cons
  ·exact Ap rfl gg
  simp only[nmx,seval];apply VE.cons
  ·exact AK (c:= .int .u8 2) rfl gg rfl rfl (fun w=>by kernel_rfl)
  simp only[nmx,seval];apply VE.cons
  ·exact AK (c:= .int .u8 99) rfl gg rfl rfl (fun w=>by kernel_rfl)
  simp only[nmx,seval];apply VE.cons
  ·exact BL rfl rfl gg rfl (e:=5) (l:=[99].map b8) rfl (by decide) (fun _=>by kernel_rfl)
  simp only[nmx,seval];apply VE.cons
  ·exact Cc (bs:=[99]) rfl gg rfl underlying23 underlying5 underlying9 (BI rfl)
  simp only[nmx,seval];apply VE.cons
  ·exact AK (c:= .string (AB [110,99])) rfl gg rfl rfl (fun w=>by kernel_rfl)
  simp only[nmx,seval];apply VE.cons
  ·exact CJ rfl gg
  simp only[nmx,seval];exact VE.nil _
 ·kernel_rfl
 change VOk _ _ _ _ _;exact AG (AD (AH results41 (AF rfl)) fun _ _ hr=>⟨rfl,hr.1⟩)
theorem Sd(hL:Laid w)(hK:B6 w)(hH:CQ w)(hb1:7<w.heap.size):Calls prog 16 #[.agg #[.int .u8 0,.int .u8 1,.int .u8 1,.int .i64 0,.int .i64 9,.bool false,.int .i64 0,.int .i64 5]] w fun e w'=> ∃v,e= .returned v∧BN w w' v ((wrT (tA.whole 41715360500048865528212135316396881002352046238176151486779771412335456336589 14839166437902177103810367222258322517155128531671763739276796972415279353084)).1.length) 1 5 ((wrT (tA.whole 41715360500048865528212135316396881002352046238176151486779771412335456336589 14839166437902177103810367222258322517155128531671763739276796972415279353084)).1.map b8)∧Bw w w':=by
 go_enter func16,ntmps16
 refine Cg ?_;apply vrp
 ·apply VE.cons
  ·exact G3 rfl rfl gg rfl
  simp only[nmx,seval];apply VE.cons
  ·exact CJ rfl gg
  simp only[nmx,seval];exact VE.nil _
 ·kernel_rfl
 refine AU ?_;apply vrp
 ·apply VE.cons
  ·first|exact BG rfl gg rfl underlying46 rfl sizeOf5|exact BF rfl gg rfl underlying46 rfl sizeOf5
  simp only[nmx,seval];apply VE.cons
  ·first|exact BK rfl gg rfl rfl underlying5 rfl rfl|exact BR rfl gg rfl underlying5 rfl (by assumption)
  simp only[nmx,seval];apply VE.cons
  ·exact oa [] rfl rfl gg rfl (eo func40) (n:=65) (size:=1) (l:=F7.map b8) (y:=B32 904625697166532776746648320380374280103671755200316906558262375061821325312) (by rfl) (fun ρ S w' hb hR=>Si w' (hL.bw hb))
  simp only[nmx,seval];apply VE.cons
  ·exact Ap rfl gg
  simp only[nmx,seval];apply VE.cons
  ·first|exact Cy rfl gg rfl rfl|exact C8 rfl gg rfl rfl
  simp only[nmx,seval];apply VE.cons
  ·first|exact Cy rfl gg rfl rfl|exact C8 rfl gg rfl rfl
  simp only[nmx,seval];apply VE.cons
  ·exact BZ rfl rfl gg zeroValue64
  simp only[nmx,seval];apply VE.cons
  ·exact BA rfl gg rfl rfl rfl sizeOf64 rfl (by simp) rfl
  simp only[nmx,seval];apply VE.cons
  ·exact CJ rfl gg
  simp only[nmx,seval];exact VE.nil _
 ·kernel_rfl
 refine AU ?_;apply vrp
 ·apply VE.cons
  ·first|exact BG rfl gg rfl underlying46 rfl sizeOf5|exact BF rfl gg rfl underlying46 rfl sizeOf5
  simp only[nmx,seval];apply VE.cons
  ·first|exact BK rfl gg rfl rfl underlying5 rfl rfl|exact BR rfl gg rfl underlying5 rfl (by assumption)
  simp only[nmx,seval];apply VE.cons
  ·exact oa [] rfl rfl gg rfl (eo func40) (n:=65) (size:=1) (l:=Bf.map b8) (y:=B32 904625697166532776746648320380374280103671755200316906558262375061821325313) (by rfl) (fun ρ S w' hb hR=>EQ w' (hL.bw hb))
  simp only[nmx,seval];apply VE.cons
  ·exact Ap rfl gg
  simp only[nmx,seval];apply VE.cons
  ·first|exact Cy rfl gg rfl rfl|exact C8 rfl gg rfl rfl
  simp only[nmx,seval];apply VE.cons
  ·first|exact Cy rfl gg rfl rfl|exact C8 rfl gg rfl rfl
  simp only[nmx,seval];apply VE.cons
  ·exact BZ rfl rfl gg zeroValue64
  simp only[nmx,seval];apply VE.cons
  ·exact BA rfl gg rfl rfl rfl sizeOf64 rfl (by simp) rfl
  simp only[nmx,seval];apply VE.cons
  ·exact CJ rfl gg
  simp only[nmx,seval];exact VE.nil _
 ·kernel_rfl
 refine AU ?_;apply vrd (by kernel_rfl)
 ·apply VE.cons
  ·first|exact BG rfl gg rfl underlying46 rfl sizeOf5|exact BF rfl gg rfl underlying46 rfl sizeOf5
  simp only[nmx,seval];apply VE.cons
  ·first|exact BK rfl gg rfl rfl underlying5 rfl rfl|exact BR rfl gg rfl underlying5 rfl (by assumption)
  simp only[nmx,seval];apply VE.cons
  ·exact Ad (v:= .string (AB [110,98])) rfl gg rfl (eo func41) (fun w' hw'=>EK w')
  simp only[nmx,seval];apply VE.cons
  ·first|exact BG rfl gg rfl underlying46 rfl sizeOf5|exact BF rfl gg rfl underlying46 rfl sizeOf5
  simp only[nmx,seval];apply VE.cons
  ·first|exact BK rfl gg rfl rfl underlying5 rfl rfl|exact BR rfl gg rfl underlying5 rfl (by assumption)
  simp only[nmx,seval];apply VE.cons
  ·exact Ad (v:= .string (AB [110,97])) rfl gg rfl (eo func41) (fun w' hw'=>SB w')
  simp only[nmx,seval];apply VE.cons
  ·first|exact BG rfl gg rfl underlying46 rfl sizeOf3|exact BF rfl gg rfl underlying46 rfl sizeOf3
  simp only[nmx,seval];apply VE.cons
  ·first|exact BK rfl gg rfl rfl underlying3 rfl rfl|exact BR rfl gg rfl underlying3 rfl (by assumption)
  simp only[nmx,seval];apply VE.cons
  ·exact C9 (a:=0) rfl gg rfl rfl
  simp only[nmx,seval];apply VE.cons
  ·exact AK (c:= .int .i64 0) rfl gg rfl rfl (fun w=>by kernel_rfl)
  simp only[nmx,seval];apply VE.cons
  ·first|exact BG rfl gg rfl underlying46 rfl sizeOf3|exact BF rfl gg rfl underlying46 rfl sizeOf3
  simp only[nmx,seval];apply VE.cons
  ·first|exact BK rfl gg rfl rfl underlying3 rfl rfl|exact BR rfl gg rfl underlying3 rfl (by assumption)
  simp only[nmx,seval];apply VE.cons
  ·exact C9 (a:=9) rfl gg rfl rfl
  simp only[nmx,seval];apply VE.cons
  ·exact AK (c:= .int .i64 9) rfl gg rfl rfl (fun w=>by kernel_rfl)
  simp only[nmx,seval];apply VE.cons
  ·exact Ap rfl gg
  simp only[nmx,seval];apply VE.cons
  ·first|exact BG rfl gg rfl underlying46 rfl sizeOf4|exact BF rfl gg rfl underlying46 rfl sizeOf4
  simp only[nmx,seval];apply VE.cons
  ·first|exact BK rfl gg rfl rfl underlying4 rfl rfl|exact BR rfl gg rfl underlying4 rfl (by assumption)
  simp only[nmx,seval];apply VE.cons
  ·first|exact BG rfl gg rfl underlying46 rfl sizeOf3|exact BF rfl gg rfl underlying46 rfl sizeOf3
  simp only[nmx,seval];apply VE.cons
  ·first|exact BK rfl gg rfl rfl underlying3 rfl rfl|exact BR rfl gg rfl underlying3 rfl (by assumption)
  simp only[nmx,seval];apply VE.cons
  ·exact B1 (c:= .int .u64 5) rfl gg rfl (fun w=>by kernel_rfl)
  simp only[nmx,seval];apply VE.cons
  ·exact AK (c:= .int .u64 5) rfl gg rfl rfl (fun w=>by kernel_rfl)
  simp only[nmx,seval];apply VE.cons
  ·exact B1 (c:= .int .i64 5) rfl gg rfl (fun w=>by kernel_rfl)
  simp only[nmx,seval];apply VE.cons
  ·exact AK (c:= .int .i64 5) rfl gg rfl rfl (fun w=>by kernel_rfl)
  simp only[nmx,seval];apply VE.cons
  ·exact Fq rfl gg rfl rfl rfl rfl rfl rfl rfl rfl (BI (id:=13) rfl)
  simp only[nmx,seval];apply VE.cons
  ·exact BZ rfl rfl gg zeroValue34
  simp only[nmx,seval];apply VE.cons
  ·exact Bh (vl:=[.v (.int .i64 7),.v (.string (AB [110,98])),.v (.string (AB [110,97])),.v (.int .i64 0),.v (.int .i64 9),.d 13,.v (.bool false),.v (.int .i64 0),.v (.int .i64 5)]) [13,7] rfl gg rfl rfl rfl sizeOf34 rfl (fun ρ S w' _ hR=>⟨DC _,by have hh:=Cf (id:=13) hR (by simp) rfl;simp only[SV.cs,SV.c,List.all_cons,List.all_nil,hh.2];rfl⟩) rfl (by simp)
  simp only[nmx,seval];exact VE.nil _
 ·kernel_rfl
 refine BP ?_;apply vrp
 ·apply VE.cons
  ·first|exact BG rfl gg rfl underlying46 rfl sizeOf4|exact BF rfl gg rfl underlying46 rfl sizeOf4
  simp only[nmx,seval];apply VE.cons
  ·first|exact BK rfl gg rfl rfl underlying4 rfl rfl|exact BR rfl gg rfl underlying4 rfl (by assumption)
  simp only[nmx,seval];exact VE.nil _
 ·kernel_rfl
 refine Cx ?_;apply vrp
 ·apply VE.cons
  ·first|exact BD rfl gg rfl rfl underlying34 rfl sizeOf34 rfl rfl|exact A2 rfl gg rfl underlying34 rfl sizeOf34 (by assumption) rfl|exact Bi rfl gg rfl rfl underlying34 rfl sizeOf34 rfl
  simp only[nmx,seval];apply VE.cons
  ·first|exact BD rfl gg rfl rfl underlying64 rfl sizeOf64 rfl rfl|exact A2 rfl gg rfl underlying64 rfl sizeOf64 (by assumption) rfl|exact Bi rfl gg rfl rfl underlying64 rfl sizeOf64 rfl
  simp only[nmx,seval];apply VE.cons
  ·exact IU [13] rfl rfl gg rfl (eo func30) (n:=(wrT (tA.whole 41715360500048865528212135316396881002352046238176151486779771412335456336589 14839166437902177103810367222258322517155128531671763739276796972415279353084)).1.length) (size:=1) (l:=(wrT (tA.whole 41715360500048865528212135316396881002352046238176151486779771412335456336589 14839166437902177103810367222258322517155128531671763739276796972415279353084)).1.map b8) (y:= .int .i64 0) (by simp) (fun ρ S w' hb hR=>qG (c:=tA) (d:=904625697166532776746648320380374280103671755200316906558262375061821325313) (r:=41715360500048865528212135316396881002352046238176151486779771412335456336589) (t:=14839166437902177103810367222258322517155128531671763739276796972415279353084) w' (hL.bw hb) (hK.bw hb) (hH.bw hb) (Nat.lt_of_lt_of_le hb1 hb.size) (EH (id:=13) hR (by simp) rfl) HN.fit JX (fun w2 h2=>HN.made ((hL.bw hb).bw h2) ((hK.bw hb).bw h2) ((hH.bw hb).bw h2) (Nat.lt_of_lt_of_le (Nat.lt_of_lt_of_le hb1 hb.size) h2.size)))
  simp only[nmx,seval];apply VE.cons
  ·exact Ap rfl gg
  simp only[nmx,seval];apply VE.cons
  ·first|exact Cy rfl gg rfl rfl|exact C8 rfl gg rfl rfl
  simp only[nmx,seval];apply VE.cons
  ·first|exact Cy rfl gg rfl rfl|exact C8 rfl gg rfl rfl
  simp only[nmx,seval];apply VE.cons
  ·exact CJ rfl gg
  simp only[nmx,seval];apply VE.cons
  ·exact CJ rfl gg
  simp only[nmx,seval];exact VE.nil _
 ·kernel_rfl
 refine BP ?_;apply vrp
 ·apply VE.cons
  ·exact Ap rfl gg
  simp only[nmx,seval];apply VE.cons
  ·exact BB (p:=false) rfl gg rfl rfl (by decide)
  simp only[nmx,seval];exact VE.nil _
 ·kernel_rfl
 refine Cx ?_;apply vrp
 ·apply VE.cons
  ·exact Ap rfl gg
  simp only[nmx,seval];apply VE.cons
  ·exact CJ rfl gg
  simp only[nmx,seval];exact VE.nil _
 ·kernel_rfl
 refine Ci ?_;refine AD (AH results16 (AF rfl)) ?_;intro ρ w' hr;exact⟨_,rfl,B8 hr rfl,hr.1⟩
theorem Sc(hL:Laid w)(hK:B6 w)(hH:CQ w)(hb1:7<w.heap.size):Calls prog 16 #[.agg #[.int .u8 1,.int .u8 1,.int .u8 1,.int .i64 0,.int .i64 9,.bool true,.int .i64 0,.int .i64 0]] w fun e w'=> ∃v,e= .returned v∧BN w w' v ((wrT (tB.whole 30679956977848723838440884760051000257939829302397608969779145279870536395341 39185289201640412552348515590654658371388438251048215679988567375092396546374)).1.length) 1 5 ((wrT (tB.whole 30679956977848723838440884760051000257939829302397608969779145279870536395341 39185289201640412552348515590654658371388438251048215679988567375092396546374)).1.map b8)∧Bw w w':=by
 go_enter func16,ntmps16
 refine Cg ?_;apply vrp
 ·apply VE.cons
  ·exact G3 rfl rfl gg rfl
  simp only[nmx,seval];apply VE.cons
  ·exact CJ rfl gg
  simp only[nmx,seval];exact VE.nil _
 ·kernel_rfl
 refine AU ?_;apply vrp
 ·apply VE.cons
  ·first|exact BG rfl gg rfl underlying46 rfl sizeOf5|exact BF rfl gg rfl underlying46 rfl sizeOf5
  simp only[nmx,seval];apply VE.cons
  ·first|exact BK rfl gg rfl rfl underlying5 rfl rfl|exact BR rfl gg rfl underlying5 rfl (by assumption)
  simp only[nmx,seval];apply VE.cons
  ·exact oa [] rfl rfl gg rfl (eo func40) (n:=65) (size:=1) (l:=Bf.map b8) (y:=B32 904625697166532776746648320380374280103671755200316906558262375061821325313) (by rfl) (fun ρ S w' hb hR=>EQ w' (hL.bw hb))
  simp only[nmx,seval];apply VE.cons
  ·exact Ap rfl gg
  simp only[nmx,seval];apply VE.cons
  ·first|exact Cy rfl gg rfl rfl|exact C8 rfl gg rfl rfl
  simp only[nmx,seval];apply VE.cons
  ·first|exact Cy rfl gg rfl rfl|exact C8 rfl gg rfl rfl
  simp only[nmx,seval];apply VE.cons
  ·exact BZ rfl rfl gg zeroValue64
  simp only[nmx,seval];apply VE.cons
  ·exact BA rfl gg rfl rfl rfl sizeOf64 rfl (by simp) rfl
  simp only[nmx,seval];apply VE.cons
  ·exact CJ rfl gg
  simp only[nmx,seval];exact VE.nil _
 ·kernel_rfl
 refine AU ?_;apply vrp
 ·apply VE.cons
  ·first|exact BG rfl gg rfl underlying46 rfl sizeOf5|exact BF rfl gg rfl underlying46 rfl sizeOf5
  simp only[nmx,seval];apply VE.cons
  ·first|exact BK rfl gg rfl rfl underlying5 rfl rfl|exact BR rfl gg rfl underlying5 rfl (by assumption)
  simp only[nmx,seval];apply VE.cons
  ·exact oa [] rfl rfl gg rfl (eo func40) (n:=65) (size:=1) (l:=Bf.map b8) (y:=B32 904625697166532776746648320380374280103671755200316906558262375061821325313) (by rfl) (fun ρ S w' hb hR=>EQ w' (hL.bw hb))
  simp only[nmx,seval];apply VE.cons
  ·exact Ap rfl gg
  simp only[nmx,seval];apply VE.cons
  ·first|exact Cy rfl gg rfl rfl|exact C8 rfl gg rfl rfl
  simp only[nmx,seval];apply VE.cons
  ·first|exact Cy rfl gg rfl rfl|exact C8 rfl gg rfl rfl
  simp only[nmx,seval];apply VE.cons
  ·exact BZ rfl rfl gg zeroValue64
  simp only[nmx,seval];apply VE.cons
  ·exact BA rfl gg rfl rfl rfl sizeOf64 rfl (by simp) rfl
  simp only[nmx,seval];apply VE.cons
  ·exact CJ rfl gg
  simp only[nmx,seval];exact VE.nil _
 ·kernel_rfl
 refine AU ?_;apply vrd (by kernel_rfl)
 ·apply VE.cons
  ·first|exact BG rfl gg rfl underlying46 rfl sizeOf5|exact BF rfl gg rfl underlying46 rfl sizeOf5
  simp only[nmx,seval];apply VE.cons
  ·first|exact BK rfl gg rfl rfl underlying5 rfl rfl|exact BR rfl gg rfl underlying5 rfl (by assumption)
  simp only[nmx,seval];apply VE.cons
  ·exact Ad (v:= .string (AB [110,98])) rfl gg rfl (eo func41) (fun w' hw'=>EK w')
  simp only[nmx,seval];apply VE.cons
  ·first|exact BG rfl gg rfl underlying46 rfl sizeOf5|exact BF rfl gg rfl underlying46 rfl sizeOf5
  simp only[nmx,seval];apply VE.cons
  ·first|exact BK rfl gg rfl rfl underlying5 rfl rfl|exact BR rfl gg rfl underlying5 rfl (by assumption)
  simp only[nmx,seval];apply VE.cons
  ·exact Ad (v:= .string (AB [110,98])) rfl gg rfl (eo func41) (fun w' hw'=>EK w')
  simp only[nmx,seval];apply VE.cons
  ·first|exact BG rfl gg rfl underlying46 rfl sizeOf3|exact BF rfl gg rfl underlying46 rfl sizeOf3
  simp only[nmx,seval];apply VE.cons
  ·first|exact BK rfl gg rfl rfl underlying3 rfl rfl|exact BR rfl gg rfl underlying3 rfl (by assumption)
  simp only[nmx,seval];apply VE.cons
  ·exact C9 (a:=0) rfl gg rfl rfl
  simp only[nmx,seval];apply VE.cons
  ·exact AK (c:= .int .i64 0) rfl gg rfl rfl (fun w=>by kernel_rfl)
  simp only[nmx,seval];apply VE.cons
  ·first|exact BG rfl gg rfl underlying46 rfl sizeOf3|exact BF rfl gg rfl underlying46 rfl sizeOf3
  simp only[nmx,seval];apply VE.cons
  ·first|exact BK rfl gg rfl rfl underlying3 rfl rfl|exact BR rfl gg rfl underlying3 rfl (by assumption)
  simp only[nmx,seval];apply VE.cons
  ·exact C9 (a:=9) rfl gg rfl rfl
  simp only[nmx,seval];apply VE.cons
  ·exact AK (c:= .int .i64 9) rfl gg rfl rfl (fun w=>by kernel_rfl)
  simp only[nmx,seval];apply VE.cons
  ·exact Ap rfl gg
  simp only[nmx,seval];apply VE.cons
  ·first|exact BG rfl gg rfl underlying46 rfl sizeOf4|exact BF rfl gg rfl underlying46 rfl sizeOf4
  simp only[nmx,seval];apply VE.cons
  ·first|exact BK rfl gg rfl rfl underlying4 rfl rfl|exact BR rfl gg rfl underlying4 rfl (by assumption)
  simp only[nmx,seval];apply VE.cons
  ·first|exact BG rfl gg rfl underlying46 rfl sizeOf3|exact BF rfl gg rfl underlying46 rfl sizeOf3
  simp only[nmx,seval];apply VE.cons
  ·first|exact BK rfl gg rfl rfl underlying3 rfl rfl|exact BR rfl gg rfl underlying3 rfl (by assumption)
  simp only[nmx,seval];apply VE.cons
  ·exact B1 (c:= .int .u64 0) rfl gg rfl (fun w=>by kernel_rfl)
  simp only[nmx,seval];apply VE.cons
  ·exact AK (c:= .int .u64 0) rfl gg rfl rfl (fun w=>by kernel_rfl)
  simp only[nmx,seval];apply VE.cons
  ·exact B1 (c:= .int .i64 0) rfl gg rfl (fun w=>by kernel_rfl)
  simp only[nmx,seval];apply VE.cons
  ·exact AK (c:= .int .i64 0) rfl gg rfl rfl (fun w=>by kernel_rfl)
  simp only[nmx,seval];apply VE.cons
  ·exact Fq rfl gg rfl rfl rfl rfl rfl rfl rfl rfl (BI (id:=13) rfl)
  simp only[nmx,seval];apply VE.cons
  ·exact BZ rfl rfl gg zeroValue34
  simp only[nmx,seval];apply VE.cons
  ·exact Bh (vl:=[.v (.int .i64 7),.v (.string (AB [110,98])),.v (.string (AB [110,98])),.v (.int .i64 0),.v (.int .i64 9),.d 13,.v (.bool true),.v (.int .i64 0),.v (.int .i64 0)]) [13,7] rfl gg rfl rfl rfl sizeOf34 rfl (fun ρ S w' _ hR=>⟨DC _,by have hh:=Cf (id:=13) hR (by simp) rfl;simp only[SV.cs,SV.c,List.all_cons,List.all_nil,hh.2];rfl⟩) rfl (by simp)
  simp only[nmx,seval];exact VE.nil _
 ·kernel_rfl
 refine BP ?_;apply vrp
 ·apply VE.cons
  ·first|exact BG rfl gg rfl underlying46 rfl sizeOf4|exact BF rfl gg rfl underlying46 rfl sizeOf4
  simp only[nmx,seval];apply VE.cons
  ·first|exact BK rfl gg rfl rfl underlying4 rfl rfl|exact BR rfl gg rfl underlying4 rfl (by assumption)
  simp only[nmx,seval];exact VE.nil _
 ·kernel_rfl
 refine EO ?_;apply vrp
 ·apply VE.cons
  ·first|exact BG rfl gg rfl underlying46 rfl sizeOf3|exact BF rfl gg rfl underlying46 rfl sizeOf3
  simp only[nmx,seval];apply VE.cons
  ·first|exact BK rfl gg rfl rfl underlying3 rfl rfl|exact BR rfl gg rfl underlying3 rfl (by assumption)
  simp only[nmx,seval];apply VE.cons
  ·exact B1 (c:= .int .u64 0) rfl gg rfl (fun w=>by kernel_rfl)
  simp only[nmx,seval];apply VE.cons
  ·exact AK (c:= .int .u64 0) rfl gg rfl rfl (fun w=>by kernel_rfl)
  simp only[nmx,seval];apply VE.cons
  ·exact B1 (c:= .int .i64 0) rfl gg rfl (fun w=>by kernel_rfl)
  simp only[nmx,seval];apply VE.cons
  ·first|exact BG rfl gg rfl underlying34 rfl sizeOf3|exact BF rfl gg rfl underlying34 rfl sizeOf3
  simp only[nmx,seval];apply VE.cons
  ·first|exact BK rfl gg rfl rfl underlying3 rfl rfl|exact BR rfl gg rfl underlying3 rfl (by assumption)
  simp only[nmx,seval];apply VE.cons
  ·exact AK (c:= .int .i64 2) rfl gg rfl rfl (fun w=>by kernel_rfl)
  simp only[nmx,seval];apply VE.cons
  ·first|exact BG rfl gg rfl underlying34 rfl sizeOf3|exact BF rfl gg rfl underlying34 rfl sizeOf3
  simp only[nmx,seval];apply VE.cons
  ·exact BA rfl gg rfl rfl rfl sizeOf3 rfl (by simp) rfl
  simp only[nmx,seval];apply VE.cons
  ·first|exact BG rfl gg rfl underlying34 rfl sizeOf3|exact BF rfl gg rfl underlying34 rfl sizeOf3
  simp only[nmx,seval];apply VE.cons
  ·exact BA rfl gg rfl rfl rfl sizeOf3 rfl (by simp) rfl
  simp only[nmx,seval];exact VE.nil _
 ·kernel_rfl
 refine AU ?_;apply vrp
 ·apply VE.cons
  ·first|exact BD rfl gg rfl rfl underlying34 rfl sizeOf34 rfl rfl|exact A2 rfl gg rfl underlying34 rfl sizeOf34 (by assumption) rfl|exact Bi rfl gg rfl rfl underlying34 rfl sizeOf34 rfl
  simp only[nmx,seval];apply VE.cons
  ·first|exact BD rfl gg rfl rfl underlying64 rfl sizeOf64 rfl rfl|exact A2 rfl gg rfl underlying64 rfl sizeOf64 (by assumption) rfl|exact Bi rfl gg rfl rfl underlying64 rfl sizeOf64 rfl
  simp only[nmx,seval];apply VE.cons
  ·exact IU [13] rfl rfl gg rfl (eo func30) (n:=(wrT (tB.whole 30679956977848723838440884760051000257939829302397608969779145279870536395341 39185289201640412552348515590654658371388438251048215679988567375092396546374)).1.length) (size:=1) (l:=(wrT (tB.whole 30679956977848723838440884760051000257939829302397608969779145279870536395341 39185289201640412552348515590654658371388438251048215679988567375092396546374)).1.map b8) (y:= .int .i64 0) (by simp) (fun ρ S w' hb hR=>qG (c:=tB) (d:=904625697166532776746648320380374280103671755200316906558262375061821325313) (r:=30679956977848723838440884760051000257939829302397608969779145279870536395341) (t:=39185289201640412552348515590654658371388438251048215679988567375092396546374) w' (hL.bw hb) (hK.bw hb) (hH.bw hb) (Nat.lt_of_lt_of_le hb1 hb.size) (EH (id:=13) hR (by simp) rfl) JQ.fit JP (fun w2 h2=>JQ.made ((hL.bw hb).bw h2) ((hK.bw hb).bw h2) ((hH.bw hb).bw h2) (Nat.lt_of_lt_of_le (Nat.lt_of_lt_of_le hb1 hb.size) h2.size)))
  simp only[nmx,seval];apply VE.cons
  ·exact Ap rfl gg
  simp only[nmx,seval];apply VE.cons
  ·first|exact Cy rfl gg rfl rfl|exact C8 rfl gg rfl rfl
  simp only[nmx,seval];apply VE.cons
  ·first|exact Cy rfl gg rfl rfl|exact C8 rfl gg rfl rfl
  simp only[nmx,seval];apply VE.cons
  ·exact CJ rfl gg
  simp only[nmx,seval];apply VE.cons
  ·exact CJ rfl gg
  simp only[nmx,seval];exact VE.nil _
 ·kernel_rfl
 refine BP ?_;apply vrp
 ·apply VE.cons
  ·exact Ap rfl gg
  simp only[nmx,seval];apply VE.cons
  ·exact BB (p:=false) rfl gg rfl rfl (by decide)
  simp only[nmx,seval];exact VE.nil _
 ·kernel_rfl
 refine Cx ?_;apply vrp
 ·apply VE.cons
  ·exact Ap rfl gg
  simp only[nmx,seval];apply VE.cons
  ·exact CJ rfl gg
  simp only[nmx,seval];exact VE.nil _
 ·kernel_rfl
 refine Ci ?_;refine AD (AH results16 (AF rfl)) ?_;intro ρ w' hr;exact⟨_,rfl,B8 hr rfl,hr.1⟩
theorem SP(hL:Laid w)(hK:B6 w)(hH:CQ w)(hb1:7<w.heap.size):Calls prog 16 #[.agg #[.int .u8 2,.int .u8 2,.int .u8 2,.int .i64 0,.int .i64 9,.bool true,.int .i64 0,.int .i64 0]] w fun e w'=> ∃v,e= .returned v∧BN w w' v ((wrT (tC.whole 5772946469002268839201089702960858817498068566099924351286408167159961794623 73400036896012591577527421159254660793469944321502378633467049890175108587207)).1.length) 1 5 ((wrT (tC.whole 5772946469002268839201089702960858817498068566099924351286408167159961794623 73400036896012591577527421159254660793469944321502378633467049890175108587207)).1.map b8)∧Bw w w':=by
 go_enter func16,ntmps16
 refine Cg ?_;apply vrp
 ·apply VE.cons
  ·exact G3 rfl rfl gg rfl
  simp only[nmx,seval];apply VE.cons
  ·exact CJ rfl gg
  simp only[nmx,seval];exact VE.nil _
 ·kernel_rfl
 refine AU ?_;apply vrp
 ·apply VE.cons
  ·first|exact BG rfl gg rfl underlying46 rfl sizeOf5|exact BF rfl gg rfl underlying46 rfl sizeOf5
  simp only[nmx,seval];apply VE.cons
  ·first|exact BK rfl gg rfl rfl underlying5 rfl rfl|exact BR rfl gg rfl underlying5 rfl (by assumption)
  simp only[nmx,seval];apply VE.cons
  ·exact oa [] rfl rfl gg rfl (eo func40) (n:=65) (size:=1) (l:=Ee.map b8) (y:=B32 904625697166532776746648320380374280103671755200316906558262375061821325314) (by rfl) (fun ρ S w' hb hR=>Jx w' (hL.bw hb))
  simp only[nmx,seval];apply VE.cons
  ·exact Ap rfl gg
  simp only[nmx,seval];apply VE.cons
  ·first|exact Cy rfl gg rfl rfl|exact C8 rfl gg rfl rfl
  simp only[nmx,seval];apply VE.cons
  ·first|exact Cy rfl gg rfl rfl|exact C8 rfl gg rfl rfl
  simp only[nmx,seval];apply VE.cons
  ·exact BZ rfl rfl gg zeroValue64
  simp only[nmx,seval];apply VE.cons
  ·exact BA rfl gg rfl rfl rfl sizeOf64 rfl (by simp) rfl
  simp only[nmx,seval];apply VE.cons
  ·exact CJ rfl gg
  simp only[nmx,seval];exact VE.nil _
 ·kernel_rfl
 refine AU ?_;apply vrp
 ·apply VE.cons
  ·first|exact BG rfl gg rfl underlying46 rfl sizeOf5|exact BF rfl gg rfl underlying46 rfl sizeOf5
  simp only[nmx,seval];apply VE.cons
  ·first|exact BK rfl gg rfl rfl underlying5 rfl rfl|exact BR rfl gg rfl underlying5 rfl (by assumption)
  simp only[nmx,seval];apply VE.cons
  ·exact oa [] rfl rfl gg rfl (eo func40) (n:=65) (size:=1) (l:=Ee.map b8) (y:=B32 904625697166532776746648320380374280103671755200316906558262375061821325314) (by rfl) (fun ρ S w' hb hR=>Jx w' (hL.bw hb))
  simp only[nmx,seval];apply VE.cons
  ·exact Ap rfl gg
  simp only[nmx,seval];apply VE.cons
  ·first|exact Cy rfl gg rfl rfl|exact C8 rfl gg rfl rfl
  simp only[nmx,seval];apply VE.cons
  ·first|exact Cy rfl gg rfl rfl|exact C8 rfl gg rfl rfl
  simp only[nmx,seval];apply VE.cons
  ·exact BZ rfl rfl gg zeroValue64
  simp only[nmx,seval];apply VE.cons
  ·exact BA rfl gg rfl rfl rfl sizeOf64 rfl (by simp) rfl
  simp only[nmx,seval];apply VE.cons
  ·exact CJ rfl gg
  simp only[nmx,seval];exact VE.nil _
 ·kernel_rfl
 refine AU ?_;apply vrd (by kernel_rfl)
 ·apply VE.cons
  ·first|exact BG rfl gg rfl underlying46 rfl sizeOf5|exact BF rfl gg rfl underlying46 rfl sizeOf5
  simp only[nmx,seval];apply VE.cons
  ·first|exact BK rfl gg rfl rfl underlying5 rfl rfl|exact BR rfl gg rfl underlying5 rfl (by assumption)
  simp only[nmx,seval];apply VE.cons
  ·exact Ad (v:= .string (AB [110,99])) rfl gg rfl (eo func41) (fun w' hw'=>Hj w')
  simp only[nmx,seval];apply VE.cons
  ·first|exact BG rfl gg rfl underlying46 rfl sizeOf5|exact BF rfl gg rfl underlying46 rfl sizeOf5
  simp only[nmx,seval];apply VE.cons
  ·first|exact BK rfl gg rfl rfl underlying5 rfl rfl|exact BR rfl gg rfl underlying5 rfl (by assumption)
  simp only[nmx,seval];apply VE.cons
  ·exact Ad (v:= .string (AB [110,99])) rfl gg rfl (eo func41) (fun w' hw'=>Hj w')
  simp only[nmx,seval];apply VE.cons
  ·first|exact BG rfl gg rfl underlying46 rfl sizeOf3|exact BF rfl gg rfl underlying46 rfl sizeOf3
  simp only[nmx,seval];apply VE.cons
  ·first|exact BK rfl gg rfl rfl underlying3 rfl rfl|exact BR rfl gg rfl underlying3 rfl (by assumption)
  simp only[nmx,seval];apply VE.cons
  ·exact C9 (a:=0) rfl gg rfl rfl
  simp only[nmx,seval];apply VE.cons
  ·exact AK (c:= .int .i64 0) rfl gg rfl rfl (fun w=>by kernel_rfl)
  simp only[nmx,seval];apply VE.cons
  ·first|exact BG rfl gg rfl underlying46 rfl sizeOf3|exact BF rfl gg rfl underlying46 rfl sizeOf3
  simp only[nmx,seval];apply VE.cons
  ·first|exact BK rfl gg rfl rfl underlying3 rfl rfl|exact BR rfl gg rfl underlying3 rfl (by assumption)
  simp only[nmx,seval];apply VE.cons
  ·exact C9 (a:=9) rfl gg rfl rfl
  simp only[nmx,seval];apply VE.cons
  ·exact AK (c:= .int .i64 9) rfl gg rfl rfl (fun w=>by kernel_rfl)
  simp only[nmx,seval];apply VE.cons
  ·exact Ap rfl gg
  simp only[nmx,seval];apply VE.cons
  ·first|exact BG rfl gg rfl underlying46 rfl sizeOf4|exact BF rfl gg rfl underlying46 rfl sizeOf4
  simp only[nmx,seval];apply VE.cons
  ·first|exact BK rfl gg rfl rfl underlying4 rfl rfl|exact BR rfl gg rfl underlying4 rfl (by assumption)
  simp only[nmx,seval];apply VE.cons
  ·first|exact BG rfl gg rfl underlying46 rfl sizeOf3|exact BF rfl gg rfl underlying46 rfl sizeOf3
  simp only[nmx,seval];apply VE.cons
  ·first|exact BK rfl gg rfl rfl underlying3 rfl rfl|exact BR rfl gg rfl underlying3 rfl (by assumption)
  simp only[nmx,seval];apply VE.cons
  ·exact B1 (c:= .int .u64 0) rfl gg rfl (fun w=>by kernel_rfl)
  simp only[nmx,seval];apply VE.cons
  ·exact AK (c:= .int .u64 0) rfl gg rfl rfl (fun w=>by kernel_rfl)
  simp only[nmx,seval];apply VE.cons
  ·exact B1 (c:= .int .i64 0) rfl gg rfl (fun w=>by kernel_rfl)
  simp only[nmx,seval];apply VE.cons
  ·exact AK (c:= .int .i64 0) rfl gg rfl rfl (fun w=>by kernel_rfl)
  simp only[nmx,seval];apply VE.cons
  ·exact Fq rfl gg rfl rfl rfl rfl rfl rfl rfl rfl (BI (id:=13) rfl)
  simp only[nmx,seval];apply VE.cons
  ·exact BZ rfl rfl gg zeroValue34
  simp only[nmx,seval];apply VE.cons
  ·exact Bh (vl:=[.v (.int .i64 7),.v (.string (AB [110,99])),.v (.string (AB [110,99])),.v (.int .i64 0),.v (.int .i64 9),.d 13,.v (.bool true),.v (.int .i64 0),.v (.int .i64 0)]) [13,7] rfl gg rfl rfl rfl sizeOf34 rfl (fun ρ S w' _ hR=>⟨DC _,by have hh:=Cf (id:=13) hR (by simp) rfl;simp only[SV.cs,SV.c,List.all_cons,List.all_nil,hh.2];rfl⟩) rfl (by simp)
  simp only[nmx,seval];exact VE.nil _
 ·kernel_rfl
 refine BP ?_;apply vrp
 ·apply VE.cons
  ·first|exact BG rfl gg rfl underlying46 rfl sizeOf4|exact BF rfl gg rfl underlying46 rfl sizeOf4
  simp only[nmx,seval];apply VE.cons
  ·first|exact BK rfl gg rfl rfl underlying4 rfl rfl|exact BR rfl gg rfl underlying4 rfl (by assumption)
  simp only[nmx,seval];exact VE.nil _
 ·kernel_rfl
 refine EO ?_;apply vrp
 ·apply VE.cons
  ·first|exact BG rfl gg rfl underlying46 rfl sizeOf3|exact BF rfl gg rfl underlying46 rfl sizeOf3
  simp only[nmx,seval];apply VE.cons
  ·first|exact BK rfl gg rfl rfl underlying3 rfl rfl|exact BR rfl gg rfl underlying3 rfl (by assumption)
  simp only[nmx,seval];apply VE.cons
  ·exact B1 (c:= .int .u64 0) rfl gg rfl (fun w=>by kernel_rfl)
  simp only[nmx,seval];apply VE.cons
  ·exact AK (c:= .int .u64 0) rfl gg rfl rfl (fun w=>by kernel_rfl)
  simp only[nmx,seval];apply VE.cons
  ·exact B1 (c:= .int .i64 0) rfl gg rfl (fun w=>by kernel_rfl)
  simp only[nmx,seval];apply VE.cons
  ·first|exact BG rfl gg rfl underlying34 rfl sizeOf3|exact BF rfl gg rfl underlying34 rfl sizeOf3
  simp only[nmx,seval];apply VE.cons
  ·first|exact BK rfl gg rfl rfl underlying3 rfl rfl|exact BR rfl gg rfl underlying3 rfl (by assumption)
  simp only[nmx,seval];apply VE.cons
  ·exact AK (c:= .int .i64 2) rfl gg rfl rfl (fun w=>by kernel_rfl)
  simp only[nmx,seval];apply VE.cons
  ·first|exact BG rfl gg rfl underlying34 rfl sizeOf3|exact BF rfl gg rfl underlying34 rfl sizeOf3
  simp only[nmx,seval];apply VE.cons
  ·exact BA rfl gg rfl rfl rfl sizeOf3 rfl (by simp) rfl
  simp only[nmx,seval];apply VE.cons
  ·first|exact BG rfl gg rfl underlying34 rfl sizeOf3|exact BF rfl gg rfl underlying34 rfl sizeOf3
  simp only[nmx,seval];apply VE.cons
  ·exact BA rfl gg rfl rfl rfl sizeOf3 rfl (by simp) rfl
  simp only[nmx,seval];exact VE.nil _
 ·kernel_rfl
 refine AU ?_;apply vrp
 ·apply VE.cons
  ·first|exact BD rfl gg rfl rfl underlying34 rfl sizeOf34 rfl rfl|exact A2 rfl gg rfl underlying34 rfl sizeOf34 (by assumption) rfl|exact Bi rfl gg rfl rfl underlying34 rfl sizeOf34 rfl
  simp only[nmx,seval];apply VE.cons
  ·first|exact BD rfl gg rfl rfl underlying64 rfl sizeOf64 rfl rfl|exact A2 rfl gg rfl underlying64 rfl sizeOf64 (by assumption) rfl|exact Bi rfl gg rfl rfl underlying64 rfl sizeOf64 rfl
  simp only[nmx,seval];apply VE.cons
  ·exact IU [13] rfl rfl gg rfl (eo func30) (n:=(wrT (tC.whole 5772946469002268839201089702960858817498068566099924351286408167159961794623 73400036896012591577527421159254660793469944321502378633467049890175108587207)).1.length) (size:=1) (l:=(wrT (tC.whole 5772946469002268839201089702960858817498068566099924351286408167159961794623 73400036896012591577527421159254660793469944321502378633467049890175108587207)).1.map b8) (y:= .int .i64 0) (by simp) (fun ρ S w' hb hR=>qG (c:=tC) (d:=904625697166532776746648320380374280103671755200316906558262375061821325314) (r:=5772946469002268839201089702960858817498068566099924351286408167159961794623) (t:=73400036896012591577527421159254660793469944321502378633467049890175108587207) w' (hL.bw hb) (hK.bw hb) (hH.bw hb) (Nat.lt_of_lt_of_le hb1 hb.size) (EH (id:=13) hR (by simp) rfl) JN.fit JM (fun w2 h2=>JN.made ((hL.bw hb).bw h2) ((hK.bw hb).bw h2) ((hH.bw hb).bw h2) (Nat.lt_of_lt_of_le (Nat.lt_of_lt_of_le hb1 hb.size) h2.size)))
  simp only[nmx,seval];apply VE.cons
  ·exact Ap rfl gg
  simp only[nmx,seval];apply VE.cons
  ·first|exact Cy rfl gg rfl rfl|exact C8 rfl gg rfl rfl
  simp only[nmx,seval];apply VE.cons
  ·first|exact Cy rfl gg rfl rfl|exact C8 rfl gg rfl rfl
  simp only[nmx,seval];apply VE.cons
  ·exact CJ rfl gg
  simp only[nmx,seval];apply VE.cons
  ·exact CJ rfl gg
  simp only[nmx,seval];exact VE.nil _
 ·kernel_rfl
 refine BP ?_;apply vrp
 ·apply VE.cons
  ·exact Ap rfl gg
  simp only[nmx,seval];apply VE.cons
  ·exact BB (p:=false) rfl gg rfl rfl (by decide)
  simp only[nmx,seval];exact VE.nil _
 ·kernel_rfl
 refine Cx ?_;apply vrp
 ·apply VE.cons
  ·exact Ap rfl gg
  simp only[nmx,seval];apply VE.cons
  ·exact CJ rfl gg
  simp only[nmx,seval];exact VE.nil _
 ·kernel_rfl
 refine Ci ?_;refine AD (AH results16 (AF rfl)) ?_;intro ρ w' hr;exact⟨_,rfl,B8 hr rfl,hr.1⟩
theorem SL(hL:Laid w)(hK:B6 w)(hH:CQ w)(hb1:7<w.heap.size):Calls prog 16 #[.agg #[.int .u8 1,.int .u8 1,.int .u8 1,.int .i64 0,.int .i64 3,.bool true,.int .i64 0,.int .i64 0]] w fun e w'=> ∃v,e= .returned v∧BN w w' v ((wrT (tD.whole 29656910196704293304467896668974446919777439603270438697424484323895296126424 20489625032818899542978692778137431390965977524520967209241850401761964079055)).1.length) 1 5 ((wrT (tD.whole 29656910196704293304467896668974446919777439603270438697424484323895296126424 20489625032818899542978692778137431390965977524520967209241850401761964079055)).1.map b8)∧Bw w w':=by
 go_enter func16,ntmps16
 refine Cg ?_;apply vrp
 ·apply VE.cons
  ·exact G3 rfl rfl gg rfl
  simp only[nmx,seval];apply VE.cons
  ·exact CJ rfl gg
  simp only[nmx,seval];exact VE.nil _
 ·kernel_rfl
 refine AU ?_;apply vrp
 ·apply VE.cons
  ·first|exact BG rfl gg rfl underlying46 rfl sizeOf5|exact BF rfl gg rfl underlying46 rfl sizeOf5
  simp only[nmx,seval];apply VE.cons
  ·first|exact BK rfl gg rfl rfl underlying5 rfl rfl|exact BR rfl gg rfl underlying5 rfl (by assumption)
  simp only[nmx,seval];apply VE.cons
  ·exact oa [] rfl rfl gg rfl (eo func40) (n:=65) (size:=1) (l:=Bf.map b8) (y:=B32 904625697166532776746648320380374280103671755200316906558262375061821325313) (by rfl) (fun ρ S w' hb hR=>EQ w' (hL.bw hb))
  simp only[nmx,seval];apply VE.cons
  ·exact Ap rfl gg
  simp only[nmx,seval];apply VE.cons
  ·first|exact Cy rfl gg rfl rfl|exact C8 rfl gg rfl rfl
  simp only[nmx,seval];apply VE.cons
  ·first|exact Cy rfl gg rfl rfl|exact C8 rfl gg rfl rfl
  simp only[nmx,seval];apply VE.cons
  ·exact BZ rfl rfl gg zeroValue64
  simp only[nmx,seval];apply VE.cons
  ·exact BA rfl gg rfl rfl rfl sizeOf64 rfl (by simp) rfl
  simp only[nmx,seval];apply VE.cons
  ·exact CJ rfl gg
  simp only[nmx,seval];exact VE.nil _
 ·kernel_rfl
 refine AU ?_;apply vrp
 ·apply VE.cons
  ·first|exact BG rfl gg rfl underlying46 rfl sizeOf5|exact BF rfl gg rfl underlying46 rfl sizeOf5
  simp only[nmx,seval];apply VE.cons
  ·first|exact BK rfl gg rfl rfl underlying5 rfl rfl|exact BR rfl gg rfl underlying5 rfl (by assumption)
  simp only[nmx,seval];apply VE.cons
  ·exact oa [] rfl rfl gg rfl (eo func40) (n:=65) (size:=1) (l:=Bf.map b8) (y:=B32 904625697166532776746648320380374280103671755200316906558262375061821325313) (by rfl) (fun ρ S w' hb hR=>EQ w' (hL.bw hb))
  simp only[nmx,seval];apply VE.cons
  ·exact Ap rfl gg
  simp only[nmx,seval];apply VE.cons
  ·first|exact Cy rfl gg rfl rfl|exact C8 rfl gg rfl rfl
  simp only[nmx,seval];apply VE.cons
  ·first|exact Cy rfl gg rfl rfl|exact C8 rfl gg rfl rfl
  simp only[nmx,seval];apply VE.cons
  ·exact BZ rfl rfl gg zeroValue64
  simp only[nmx,seval];apply VE.cons
  ·exact BA rfl gg rfl rfl rfl sizeOf64 rfl (by simp) rfl
  simp only[nmx,seval];apply VE.cons
  ·exact CJ rfl gg
  simp only[nmx,seval];exact VE.nil _
 ·kernel_rfl
 refine AU ?_;apply vrd (by kernel_rfl)
 ·apply VE.cons
  ·first|exact BG rfl gg rfl underlying46 rfl sizeOf5|exact BF rfl gg rfl underlying46 rfl sizeOf5
  simp only[nmx,seval];apply VE.cons
  ·first|exact BK rfl gg rfl rfl underlying5 rfl rfl|exact BR rfl gg rfl underlying5 rfl (by assumption)
  simp only[nmx,seval];apply VE.cons
  ·exact Ad (v:= .string (AB [110,98])) rfl gg rfl (eo func41) (fun w' hw'=>EK w')
  simp only[nmx,seval];apply VE.cons
  ·first|exact BG rfl gg rfl underlying46 rfl sizeOf5|exact BF rfl gg rfl underlying46 rfl sizeOf5
  simp only[nmx,seval];apply VE.cons
  ·first|exact BK rfl gg rfl rfl underlying5 rfl rfl|exact BR rfl gg rfl underlying5 rfl (by assumption)
  simp only[nmx,seval];apply VE.cons
  ·exact Ad (v:= .string (AB [110,98])) rfl gg rfl (eo func41) (fun w' hw'=>EK w')
  simp only[nmx,seval];apply VE.cons
  ·first|exact BG rfl gg rfl underlying46 rfl sizeOf3|exact BF rfl gg rfl underlying46 rfl sizeOf3
  simp only[nmx,seval];apply VE.cons
  ·first|exact BK rfl gg rfl rfl underlying3 rfl rfl|exact BR rfl gg rfl underlying3 rfl (by assumption)
  simp only[nmx,seval];apply VE.cons
  ·exact C9 (a:=0) rfl gg rfl rfl
  simp only[nmx,seval];apply VE.cons
  ·exact AK (c:= .int .i64 0) rfl gg rfl rfl (fun w=>by kernel_rfl)
  simp only[nmx,seval];apply VE.cons
  ·first|exact BG rfl gg rfl underlying46 rfl sizeOf3|exact BF rfl gg rfl underlying46 rfl sizeOf3
  simp only[nmx,seval];apply VE.cons
  ·first|exact BK rfl gg rfl rfl underlying3 rfl rfl|exact BR rfl gg rfl underlying3 rfl (by assumption)
  simp only[nmx,seval];apply VE.cons
  ·exact C9 (a:=3) rfl gg rfl rfl
  simp only[nmx,seval];apply VE.cons
  ·exact AK (c:= .int .i64 3) rfl gg rfl rfl (fun w=>by kernel_rfl)
  simp only[nmx,seval];apply VE.cons
  ·exact Ap rfl gg
  simp only[nmx,seval];apply VE.cons
  ·first|exact BG rfl gg rfl underlying46 rfl sizeOf4|exact BF rfl gg rfl underlying46 rfl sizeOf4
  simp only[nmx,seval];apply VE.cons
  ·first|exact BK rfl gg rfl rfl underlying4 rfl rfl|exact BR rfl gg rfl underlying4 rfl (by assumption)
  simp only[nmx,seval];apply VE.cons
  ·first|exact BG rfl gg rfl underlying46 rfl sizeOf3|exact BF rfl gg rfl underlying46 rfl sizeOf3
  simp only[nmx,seval];apply VE.cons
  ·first|exact BK rfl gg rfl rfl underlying3 rfl rfl|exact BR rfl gg rfl underlying3 rfl (by assumption)
  simp only[nmx,seval];apply VE.cons
  ·exact B1 (c:= .int .u64 0) rfl gg rfl (fun w=>by kernel_rfl)
  simp only[nmx,seval];apply VE.cons
  ·exact AK (c:= .int .u64 0) rfl gg rfl rfl (fun w=>by kernel_rfl)
  simp only[nmx,seval];apply VE.cons
  ·exact B1 (c:= .int .i64 0) rfl gg rfl (fun w=>by kernel_rfl)
  simp only[nmx,seval];apply VE.cons
  ·exact AK (c:= .int .i64 0) rfl gg rfl rfl (fun w=>by kernel_rfl)
  simp only[nmx,seval];apply VE.cons
  ·exact Fq rfl gg rfl rfl rfl rfl rfl rfl rfl rfl (BI (id:=13) rfl)
  simp only[nmx,seval];apply VE.cons
  ·exact BZ rfl rfl gg zeroValue34
  simp only[nmx,seval];apply VE.cons
  ·exact Bh (vl:=[.v (.int .i64 7),.v (.string (AB [110,98])),.v (.string (AB [110,98])),.v (.int .i64 0),.v (.int .i64 3),.d 13,.v (.bool true),.v (.int .i64 0),.v (.int .i64 0)]) [13,7] rfl gg rfl rfl rfl sizeOf34 rfl (fun ρ S w' _ hR=>⟨DC _,by have hh:=Cf (id:=13) hR (by simp) rfl;simp only[SV.cs,SV.c,List.all_cons,List.all_nil,hh.2];rfl⟩) rfl (by simp)
  simp only[nmx,seval];exact VE.nil _
 ·kernel_rfl
 refine BP ?_;apply vrp
 ·apply VE.cons
  ·first|exact BG rfl gg rfl underlying46 rfl sizeOf4|exact BF rfl gg rfl underlying46 rfl sizeOf4
  simp only[nmx,seval];apply VE.cons
  ·first|exact BK rfl gg rfl rfl underlying4 rfl rfl|exact BR rfl gg rfl underlying4 rfl (by assumption)
  simp only[nmx,seval];exact VE.nil _
 ·kernel_rfl
 refine EO ?_;apply vrp
 ·apply VE.cons
  ·first|exact BG rfl gg rfl underlying46 rfl sizeOf3|exact BF rfl gg rfl underlying46 rfl sizeOf3
  simp only[nmx,seval];apply VE.cons
  ·first|exact BK rfl gg rfl rfl underlying3 rfl rfl|exact BR rfl gg rfl underlying3 rfl (by assumption)
  simp only[nmx,seval];apply VE.cons
  ·exact B1 (c:= .int .u64 0) rfl gg rfl (fun w=>by kernel_rfl)
  simp only[nmx,seval];apply VE.cons
  ·exact AK (c:= .int .u64 0) rfl gg rfl rfl (fun w=>by kernel_rfl)
  simp only[nmx,seval];apply VE.cons
  ·exact B1 (c:= .int .i64 0) rfl gg rfl (fun w=>by kernel_rfl)
  simp only[nmx,seval];apply VE.cons
  ·first|exact BG rfl gg rfl underlying34 rfl sizeOf3|exact BF rfl gg rfl underlying34 rfl sizeOf3
  simp only[nmx,seval];apply VE.cons
  ·first|exact BK rfl gg rfl rfl underlying3 rfl rfl|exact BR rfl gg rfl underlying3 rfl (by assumption)
  simp only[nmx,seval];apply VE.cons
  ·exact AK (c:= .int .i64 2) rfl gg rfl rfl (fun w=>by kernel_rfl)
  simp only[nmx,seval];apply VE.cons
  ·first|exact BG rfl gg rfl underlying34 rfl sizeOf3|exact BF rfl gg rfl underlying34 rfl sizeOf3
  simp only[nmx,seval];apply VE.cons
  ·exact BA rfl gg rfl rfl rfl sizeOf3 rfl (by simp) rfl
  simp only[nmx,seval];apply VE.cons
  ·first|exact BG rfl gg rfl underlying34 rfl sizeOf3|exact BF rfl gg rfl underlying34 rfl sizeOf3
  simp only[nmx,seval];apply VE.cons
  ·exact BA rfl gg rfl rfl rfl sizeOf3 rfl (by simp) rfl
  simp only[nmx,seval];exact VE.nil _
 ·kernel_rfl
 refine AU ?_;apply vrp
 ·apply VE.cons
  ·first|exact BD rfl gg rfl rfl underlying34 rfl sizeOf34 rfl rfl|exact A2 rfl gg rfl underlying34 rfl sizeOf34 (by assumption) rfl|exact Bi rfl gg rfl rfl underlying34 rfl sizeOf34 rfl
  simp only[nmx,seval];apply VE.cons
  ·first|exact BD rfl gg rfl rfl underlying64 rfl sizeOf64 rfl rfl|exact A2 rfl gg rfl underlying64 rfl sizeOf64 (by assumption) rfl|exact Bi rfl gg rfl rfl underlying64 rfl sizeOf64 rfl
  simp only[nmx,seval];apply VE.cons
  ·exact IU [13] rfl rfl gg rfl (eo func30) (n:=(wrT (tD.whole 29656910196704293304467896668974446919777439603270438697424484323895296126424 20489625032818899542978692778137431390965977524520967209241850401761964079055)).1.length) (size:=1) (l:=(wrT (tD.whole 29656910196704293304467896668974446919777439603270438697424484323895296126424 20489625032818899542978692778137431390965977524520967209241850401761964079055)).1.map b8) (y:= .int .i64 0) (by simp) (fun ρ S w' hb hR=>qG (c:=tD) (d:=904625697166532776746648320380374280103671755200316906558262375061821325313) (r:=29656910196704293304467896668974446919777439603270438697424484323895296126424) (t:=20489625032818899542978692778137431390965977524520967209241850401761964079055) w' (hL.bw hb) (hK.bw hb) (hH.bw hb) (Nat.lt_of_lt_of_le hb1 hb.size) (EH (id:=13) hR (by simp) rfl) I6.fit Iz (fun w2 h2=>I6.made ((hL.bw hb).bw h2) ((hK.bw hb).bw h2) ((hH.bw hb).bw h2) (Nat.lt_of_lt_of_le (Nat.lt_of_lt_of_le hb1 hb.size) h2.size)))
  simp only[nmx,seval];apply VE.cons
  ·exact Ap rfl gg
  simp only[nmx,seval];apply VE.cons
  ·first|exact Cy rfl gg rfl rfl|exact C8 rfl gg rfl rfl
  simp only[nmx,seval];apply VE.cons
  ·first|exact Cy rfl gg rfl rfl|exact C8 rfl gg rfl rfl
  simp only[nmx,seval];apply VE.cons
  ·exact CJ rfl gg
  simp only[nmx,seval];apply VE.cons
  ·exact CJ rfl gg
  simp only[nmx,seval];exact VE.nil _
 ·kernel_rfl
 refine BP ?_;apply vrp
 ·apply VE.cons
  ·exact Ap rfl gg
  simp only[nmx,seval];apply VE.cons
  ·exact BB (p:=false) rfl gg rfl rfl (by decide)
  simp only[nmx,seval];exact VE.nil _
 ·kernel_rfl
 refine Cx ?_;apply vrp
 ·apply VE.cons
  ·exact Ap rfl gg
  simp only[nmx,seval];apply VE.cons
  ·exact CJ rfl gg
  simp only[nmx,seval];exact VE.nil _
 ·kernel_rfl
 refine Ci ?_;refine AD (AH results16 (AF rfl)) ?_;intro ρ w' hr;exact⟨_,rfl,B8 hr rfl,hr.1⟩
theorem SK(hL:Laid w)(hK:B6 w)(hH:CQ w)(hb1:7<w.heap.size):Calls prog 16 #[.agg #[.int .u8 1,.int .u8 1,.int .u8 1,.int .i64 0,.int .i64 9,.bool false,.int .i64 0,.int .i64 0]] w fun e w'=> ∃v,e= .returned v∧BN w w' v ((wrT (tE.whole 212630159700969180254328110574554626609795834104908156330181484691328363726 89621253626434868007929885493167276122920611870865619631395310279036515555574)).1.length) 1 5 ((wrT (tE.whole 212630159700969180254328110574554626609795834104908156330181484691328363726 89621253626434868007929885493167276122920611870865619631395310279036515555574)).1.map b8)∧Bw w w':=by
 go_enter func16,ntmps16
 refine Cg ?_;apply vrp
 ·apply VE.cons
  ·exact G3 rfl rfl gg rfl
  simp only[nmx,seval];apply VE.cons
  ·exact CJ rfl gg
  simp only[nmx,seval];exact VE.nil _
 ·kernel_rfl
 refine AU ?_;apply vrp
 ·apply VE.cons
  ·first|exact BG rfl gg rfl underlying46 rfl sizeOf5|exact BF rfl gg rfl underlying46 rfl sizeOf5
  simp only[nmx,seval];apply VE.cons
  ·first|exact BK rfl gg rfl rfl underlying5 rfl rfl|exact BR rfl gg rfl underlying5 rfl (by assumption)
  simp only[nmx,seval];apply VE.cons
  ·exact oa [] rfl rfl gg rfl (eo func40) (n:=65) (size:=1) (l:=Bf.map b8) (y:=B32 904625697166532776746648320380374280103671755200316906558262375061821325313) (by rfl) (fun ρ S w' hb hR=>EQ w' (hL.bw hb))
  simp only[nmx,seval];apply VE.cons
  ·exact Ap rfl gg
  simp only[nmx,seval];apply VE.cons
  ·first|exact Cy rfl gg rfl rfl|exact C8 rfl gg rfl rfl
  simp only[nmx,seval];apply VE.cons
  ·first|exact Cy rfl gg rfl rfl|exact C8 rfl gg rfl rfl
  simp only[nmx,seval];apply VE.cons
  ·exact BZ rfl rfl gg zeroValue64
  simp only[nmx,seval];apply VE.cons
  ·exact BA rfl gg rfl rfl rfl sizeOf64 rfl (by simp) rfl
  simp only[nmx,seval];apply VE.cons
  ·exact CJ rfl gg
  simp only[nmx,seval];exact VE.nil _
 ·kernel_rfl
 refine AU ?_;apply vrp
 ·apply VE.cons
  ·first|exact BG rfl gg rfl underlying46 rfl sizeOf5|exact BF rfl gg rfl underlying46 rfl sizeOf5
  simp only[nmx,seval];apply VE.cons
  ·first|exact BK rfl gg rfl rfl underlying5 rfl rfl|exact BR rfl gg rfl underlying5 rfl (by assumption)
  simp only[nmx,seval];apply VE.cons
  ·exact oa [] rfl rfl gg rfl (eo func40) (n:=65) (size:=1) (l:=Bf.map b8) (y:=B32 904625697166532776746648320380374280103671755200316906558262375061821325313) (by rfl) (fun ρ S w' hb hR=>EQ w' (hL.bw hb))
  simp only[nmx,seval];apply VE.cons
  ·exact Ap rfl gg
  simp only[nmx,seval];apply VE.cons
  ·first|exact Cy rfl gg rfl rfl|exact C8 rfl gg rfl rfl
  simp only[nmx,seval];apply VE.cons
  ·first|exact Cy rfl gg rfl rfl|exact C8 rfl gg rfl rfl
  simp only[nmx,seval];apply VE.cons
  ·exact BZ rfl rfl gg zeroValue64
  simp only[nmx,seval];apply VE.cons
  ·exact BA rfl gg rfl rfl rfl sizeOf64 rfl (by simp) rfl
  simp only[nmx,seval];apply VE.cons
  ·exact CJ rfl gg
  simp only[nmx,seval];exact VE.nil _
 ·kernel_rfl
 refine AU ?_;apply vrd (by kernel_rfl)
 ·apply VE.cons
  ·first|exact BG rfl gg rfl underlying46 rfl sizeOf5|exact BF rfl gg rfl underlying46 rfl sizeOf5
  simp only[nmx,seval];apply VE.cons
  ·first|exact BK rfl gg rfl rfl underlying5 rfl rfl|exact BR rfl gg rfl underlying5 rfl (by assumption)
  simp only[nmx,seval];apply VE.cons
  ·exact Ad (v:= .string (AB [110,98])) rfl gg rfl (eo func41) (fun w' hw'=>EK w')
  simp only[nmx,seval];apply VE.cons
  ·first|exact BG rfl gg rfl underlying46 rfl sizeOf5|exact BF rfl gg rfl underlying46 rfl sizeOf5
  simp only[nmx,seval];apply VE.cons
  ·first|exact BK rfl gg rfl rfl underlying5 rfl rfl|exact BR rfl gg rfl underlying5 rfl (by assumption)
  simp only[nmx,seval];apply VE.cons
  ·exact Ad (v:= .string (AB [110,98])) rfl gg rfl (eo func41) (fun w' hw'=>EK w')
  simp only[nmx,seval];apply VE.cons
  ·first|exact BG rfl gg rfl underlying46 rfl sizeOf3|exact BF rfl gg rfl underlying46 rfl sizeOf3
  simp only[nmx,seval];apply VE.cons
  ·first|exact BK rfl gg rfl rfl underlying3 rfl rfl|exact BR rfl gg rfl underlying3 rfl (by assumption)
  simp only[nmx,seval];apply VE.cons
  ·exact C9 (a:=0) rfl gg rfl rfl
  simp only[nmx,seval];apply VE.cons
  ·exact AK (c:= .int .i64 0) rfl gg rfl rfl (fun w=>by kernel_rfl)
  simp only[nmx,seval];apply VE.cons
  ·first|exact BG rfl gg rfl underlying46 rfl sizeOf3|exact BF rfl gg rfl underlying46 rfl sizeOf3
  simp only[nmx,seval];apply VE.cons
  ·first|exact BK rfl gg rfl rfl underlying3 rfl rfl|exact BR rfl gg rfl underlying3 rfl (by assumption)
  simp only[nmx,seval];apply VE.cons
  ·exact C9 (a:=9) rfl gg rfl rfl
  simp only[nmx,seval];apply VE.cons
  ·exact AK (c:= .int .i64 9) rfl gg rfl rfl (fun w=>by kernel_rfl)
  simp only[nmx,seval];apply VE.cons
  ·exact Ap rfl gg
  simp only[nmx,seval];apply VE.cons
  ·first|exact BG rfl gg rfl underlying46 rfl sizeOf4|exact BF rfl gg rfl underlying46 rfl sizeOf4
  simp only[nmx,seval];apply VE.cons
  ·first|exact BK rfl gg rfl rfl underlying4 rfl rfl|exact BR rfl gg rfl underlying4 rfl (by assumption)
  simp only[nmx,seval];apply VE.cons
  ·first|exact BG rfl gg rfl underlying46 rfl sizeOf3|exact BF rfl gg rfl underlying46 rfl sizeOf3
  simp only[nmx,seval];apply VE.cons
  ·first|exact BK rfl gg rfl rfl underlying3 rfl rfl|exact BR rfl gg rfl underlying3 rfl (by assumption)
  simp only[nmx,seval];apply VE.cons
  ·exact B1 (c:= .int .u64 0) rfl gg rfl (fun w=>by kernel_rfl)
  simp only[nmx,seval];apply VE.cons
  ·exact AK (c:= .int .u64 0) rfl gg rfl rfl (fun w=>by kernel_rfl)
  simp only[nmx,seval];apply VE.cons
  ·exact B1 (c:= .int .i64 0) rfl gg rfl (fun w=>by kernel_rfl)
  simp only[nmx,seval];apply VE.cons
  ·exact AK (c:= .int .i64 0) rfl gg rfl rfl (fun w=>by kernel_rfl)
  simp only[nmx,seval];apply VE.cons
  ·exact Fq rfl gg rfl rfl rfl rfl rfl rfl rfl rfl (BI (id:=13) rfl)
  simp only[nmx,seval];apply VE.cons
  ·exact BZ rfl rfl gg zeroValue34
  simp only[nmx,seval];apply VE.cons
  ·exact Bh (vl:=[.v (.int .i64 7),.v (.string (AB [110,98])),.v (.string (AB [110,98])),.v (.int .i64 0),.v (.int .i64 9),.d 13,.v (.bool false),.v (.int .i64 0),.v (.int .i64 0)]) [13,7] rfl gg rfl rfl rfl sizeOf34 rfl (fun ρ S w' _ hR=>⟨DC _,by have hh:=Cf (id:=13) hR (by simp) rfl;simp only[SV.cs,SV.c,List.all_cons,List.all_nil,hh.2];rfl⟩) rfl (by simp)
  simp only[nmx,seval];exact VE.nil _
 ·kernel_rfl
 refine BP ?_;apply vrp
 ·apply VE.cons
  ·first|exact BG rfl gg rfl underlying46 rfl sizeOf4|exact BF rfl gg rfl underlying46 rfl sizeOf4
  simp only[nmx,seval];apply VE.cons
  ·first|exact BK rfl gg rfl rfl underlying4 rfl rfl|exact BR rfl gg rfl underlying4 rfl (by assumption)
  simp only[nmx,seval];exact VE.nil _
 ·kernel_rfl
 refine Cx ?_;apply vrp
 ·apply VE.cons
  ·first|exact BD rfl gg rfl rfl underlying34 rfl sizeOf34 rfl rfl|exact A2 rfl gg rfl underlying34 rfl sizeOf34 (by assumption) rfl|exact Bi rfl gg rfl rfl underlying34 rfl sizeOf34 rfl
  simp only[nmx,seval];apply VE.cons
  ·first|exact BD rfl gg rfl rfl underlying64 rfl sizeOf64 rfl rfl|exact A2 rfl gg rfl underlying64 rfl sizeOf64 (by assumption) rfl|exact Bi rfl gg rfl rfl underlying64 rfl sizeOf64 rfl
  simp only[nmx,seval];apply VE.cons
  ·exact IU [13] rfl rfl gg rfl (eo func30) (n:=(wrT (tE.whole 212630159700969180254328110574554626609795834104908156330181484691328363726 89621253626434868007929885493167276122920611870865619631395310279036515555574)).1.length) (size:=1) (l:=(wrT (tE.whole 212630159700969180254328110574554626609795834104908156330181484691328363726 89621253626434868007929885493167276122920611870865619631395310279036515555574)).1.map b8) (y:= .int .i64 0) (by simp) (fun ρ S w' hb hR=>qG (c:=tE) (d:=904625697166532776746648320380374280103671755200316906558262375061821325313) (r:=212630159700969180254328110574554626609795834104908156330181484691328363726) (t:=89621253626434868007929885493167276122920611870865619631395310279036515555574) w' (hL.bw hb) (hK.bw hb) (hH.bw hb) (Nat.lt_of_lt_of_le hb1 hb.size) (EH (id:=13) hR (by simp) rfl) Iy.fit Ir (fun w2 h2=>Iy.made ((hL.bw hb).bw h2) ((hK.bw hb).bw h2) ((hH.bw hb).bw h2) (Nat.lt_of_lt_of_le (Nat.lt_of_lt_of_le hb1 hb.size) h2.size)))
  simp only[nmx,seval];apply VE.cons
  ·exact Ap rfl gg
  simp only[nmx,seval];apply VE.cons
  ·first|exact Cy rfl gg rfl rfl|exact C8 rfl gg rfl rfl
  simp only[nmx,seval];apply VE.cons
  ·first|exact Cy rfl gg rfl rfl|exact C8 rfl gg rfl rfl
  simp only[nmx,seval];apply VE.cons
  ·exact CJ rfl gg
  simp only[nmx,seval];apply VE.cons
  ·exact CJ rfl gg
  simp only[nmx,seval];exact VE.nil _
 ·kernel_rfl
 refine BP ?_;apply vrp
 ·apply VE.cons
  ·exact Ap rfl gg
  simp only[nmx,seval];apply VE.cons
  ·exact BB (p:=false) rfl gg rfl rfl (by decide)
  simp only[nmx,seval];exact VE.nil _
 ·kernel_rfl
 refine Cx ?_;apply vrp
 ·apply VE.cons
  ·exact Ap rfl gg
  simp only[nmx,seval];apply VE.cons
  ·exact CJ rfl gg
  simp only[nmx,seval];exact VE.nil _
 ·kernel_rfl
 refine Ci ?_;refine AD (AH results16 (AF rfl)) ?_;intro ρ w' hr;exact⟨_,rfl,B8 hr rfl,hr.1⟩
theorem SJ(hL:Laid w)(hK:B6 w)(hH:CQ w)(hb1:7<w.heap.size):Calls prog 16 #[.agg #[.int .u8 1,.int .u8 1,.int .u8 1,.int .i64 0,.int .i64 9,.bool true,.int .i64 0,.int .i64 1]] w fun e w'=> ∃v,e= .returned v∧BN w w' v ((wrT (tF.whole 91641478266143319200409962979497838403251612625275892787359574695720535655184 34359785920783616614347124149629303463568371124378962494315311719422531698393)).1.length) 1 5 ((wrT (tF.whole 91641478266143319200409962979497838403251612625275892787359574695720535655184 34359785920783616614347124149629303463568371124378962494315311719422531698393)).1.map b8)∧Bw w w':=by
 go_enter func16,ntmps16
 refine Cg ?_;apply vrp
 ·apply VE.cons
  ·exact G3 rfl rfl gg rfl
  simp only[nmx,seval];apply VE.cons
  ·exact CJ rfl gg
  simp only[nmx,seval];exact VE.nil _
 ·kernel_rfl
 refine AU ?_;apply vrp
 ·apply VE.cons
  ·first|exact BG rfl gg rfl underlying46 rfl sizeOf5|exact BF rfl gg rfl underlying46 rfl sizeOf5
  simp only[nmx,seval];apply VE.cons
  ·first|exact BK rfl gg rfl rfl underlying5 rfl rfl|exact BR rfl gg rfl underlying5 rfl (by assumption)
  simp only[nmx,seval];apply VE.cons
  ·exact oa [] rfl rfl gg rfl (eo func40) (n:=65) (size:=1) (l:=Bf.map b8) (y:=B32 904625697166532776746648320380374280103671755200316906558262375061821325313) (by rfl) (fun ρ S w' hb hR=>EQ w' (hL.bw hb))
  simp only[nmx,seval];apply VE.cons
  ·exact Ap rfl gg
  simp only[nmx,seval];apply VE.cons
  ·first|exact Cy rfl gg rfl rfl|exact C8 rfl gg rfl rfl
  simp only[nmx,seval];apply VE.cons
  ·first|exact Cy rfl gg rfl rfl|exact C8 rfl gg rfl rfl
  simp only[nmx,seval];apply VE.cons
  ·exact BZ rfl rfl gg zeroValue64
  simp only[nmx,seval];apply VE.cons
  ·exact BA rfl gg rfl rfl rfl sizeOf64 rfl (by simp) rfl
  simp only[nmx,seval];apply VE.cons
  ·exact CJ rfl gg
  simp only[nmx,seval];exact VE.nil _
 ·kernel_rfl
 refine AU ?_;apply vrp
 ·apply VE.cons
  ·first|exact BG rfl gg rfl underlying46 rfl sizeOf5|exact BF rfl gg rfl underlying46 rfl sizeOf5
  simp only[nmx,seval];apply VE.cons
  ·first|exact BK rfl gg rfl rfl underlying5 rfl rfl|exact BR rfl gg rfl underlying5 rfl (by assumption)
  simp only[nmx,seval];apply VE.cons
  ·exact oa [] rfl rfl gg rfl (eo func40) (n:=65) (size:=1) (l:=Bf.map b8) (y:=B32 904625697166532776746648320380374280103671755200316906558262375061821325313) (by rfl) (fun ρ S w' hb hR=>EQ w' (hL.bw hb))
  simp only[nmx,seval];apply VE.cons
  ·exact Ap rfl gg
  simp only[nmx,seval];apply VE.cons
  ·first|exact Cy rfl gg rfl rfl|exact C8 rfl gg rfl rfl
  simp only[nmx,seval];apply VE.cons
  ·first|exact Cy rfl gg rfl rfl|exact C8 rfl gg rfl rfl
  simp only[nmx,seval];apply VE.cons
  ·exact BZ rfl rfl gg zeroValue64
  simp only[nmx,seval];apply VE.cons
  ·exact BA rfl gg rfl rfl rfl sizeOf64 rfl (by simp) rfl
  simp only[nmx,seval];apply VE.cons
  ·exact CJ rfl gg
  simp only[nmx,seval];exact VE.nil _
 ·kernel_rfl
 refine AU ?_;apply vrd (by kernel_rfl)
 ·apply VE.cons
  ·first|exact BG rfl gg rfl underlying46 rfl sizeOf5|exact BF rfl gg rfl underlying46 rfl sizeOf5
  simp only[nmx,seval];apply VE.cons
  ·first|exact BK rfl gg rfl rfl underlying5 rfl rfl|exact BR rfl gg rfl underlying5 rfl (by assumption)
  simp only[nmx,seval];apply VE.cons
  ·exact Ad (v:= .string (AB [110,98])) rfl gg rfl (eo func41) (fun w' hw'=>EK w')
  simp only[nmx,seval];apply VE.cons
  ·first|exact BG rfl gg rfl underlying46 rfl sizeOf5|exact BF rfl gg rfl underlying46 rfl sizeOf5
  simp only[nmx,seval];apply VE.cons
  ·first|exact BK rfl gg rfl rfl underlying5 rfl rfl|exact BR rfl gg rfl underlying5 rfl (by assumption)
  simp only[nmx,seval];apply VE.cons
  ·exact Ad (v:= .string (AB [110,98])) rfl gg rfl (eo func41) (fun w' hw'=>EK w')
  simp only[nmx,seval];apply VE.cons
  ·first|exact BG rfl gg rfl underlying46 rfl sizeOf3|exact BF rfl gg rfl underlying46 rfl sizeOf3
  simp only[nmx,seval];apply VE.cons
  ·first|exact BK rfl gg rfl rfl underlying3 rfl rfl|exact BR rfl gg rfl underlying3 rfl (by assumption)
  simp only[nmx,seval];apply VE.cons
  ·exact C9 (a:=0) rfl gg rfl rfl
  simp only[nmx,seval];apply VE.cons
  ·exact AK (c:= .int .i64 0) rfl gg rfl rfl (fun w=>by kernel_rfl)
  simp only[nmx,seval];apply VE.cons
  ·first|exact BG rfl gg rfl underlying46 rfl sizeOf3|exact BF rfl gg rfl underlying46 rfl sizeOf3
  simp only[nmx,seval];apply VE.cons
  ·first|exact BK rfl gg rfl rfl underlying3 rfl rfl|exact BR rfl gg rfl underlying3 rfl (by assumption)
  simp only[nmx,seval];apply VE.cons
  ·exact C9 (a:=9) rfl gg rfl rfl
  simp only[nmx,seval];apply VE.cons
  ·exact AK (c:= .int .i64 9) rfl gg rfl rfl (fun w=>by kernel_rfl)
  simp only[nmx,seval];apply VE.cons
  ·exact Ap rfl gg
  simp only[nmx,seval];apply VE.cons
  ·first|exact BG rfl gg rfl underlying46 rfl sizeOf4|exact BF rfl gg rfl underlying46 rfl sizeOf4
  simp only[nmx,seval];apply VE.cons
  ·first|exact BK rfl gg rfl rfl underlying4 rfl rfl|exact BR rfl gg rfl underlying4 rfl (by assumption)
  simp only[nmx,seval];apply VE.cons
  ·first|exact BG rfl gg rfl underlying46 rfl sizeOf3|exact BF rfl gg rfl underlying46 rfl sizeOf3
  simp only[nmx,seval];apply VE.cons
  ·first|exact BK rfl gg rfl rfl underlying3 rfl rfl|exact BR rfl gg rfl underlying3 rfl (by assumption)
  simp only[nmx,seval];apply VE.cons
  ·exact B1 (c:= .int .u64 1) rfl gg rfl (fun w=>by kernel_rfl)
  simp only[nmx,seval];apply VE.cons
  ·exact AK (c:= .int .u64 1) rfl gg rfl rfl (fun w=>by kernel_rfl)
  simp only[nmx,seval];apply VE.cons
  ·exact B1 (c:= .int .i64 1) rfl gg rfl (fun w=>by kernel_rfl)
  simp only[nmx,seval];apply VE.cons
  ·exact AK (c:= .int .i64 1) rfl gg rfl rfl (fun w=>by kernel_rfl)
  simp only[nmx,seval];apply VE.cons
  ·exact Fq rfl gg rfl rfl rfl rfl rfl rfl rfl rfl (BI (id:=13) rfl)
  simp only[nmx,seval];apply VE.cons
  ·exact BZ rfl rfl gg zeroValue34
  simp only[nmx,seval];apply VE.cons
  ·exact Bh (vl:=[.v (.int .i64 7),.v (.string (AB [110,98])),.v (.string (AB [110,98])),.v (.int .i64 0),.v (.int .i64 9),.d 13,.v (.bool true),.v (.int .i64 0),.v (.int .i64 1)]) [13,7] rfl gg rfl rfl rfl sizeOf34 rfl (fun ρ S w' _ hR=>⟨DC _,by have hh:=Cf (id:=13) hR (by simp) rfl;simp only[SV.cs,SV.c,List.all_cons,List.all_nil,hh.2];rfl⟩) rfl (by simp)
  simp only[nmx,seval];exact VE.nil _
 ·kernel_rfl
 refine BP ?_;apply vrp
 ·apply VE.cons
  ·first|exact BG rfl gg rfl underlying46 rfl sizeOf4|exact BF rfl gg rfl underlying46 rfl sizeOf4
  simp only[nmx,seval];apply VE.cons
  ·first|exact BK rfl gg rfl rfl underlying4 rfl rfl|exact BR rfl gg rfl underlying4 rfl (by assumption)
  simp only[nmx,seval];exact VE.nil _
 ·kernel_rfl
 refine EO ?_;apply vrp
 ·apply VE.cons
  ·first|exact BG rfl gg rfl underlying46 rfl sizeOf3|exact BF rfl gg rfl underlying46 rfl sizeOf3
  simp only[nmx,seval];apply VE.cons
  ·first|exact BK rfl gg rfl rfl underlying3 rfl rfl|exact BR rfl gg rfl underlying3 rfl (by assumption)
  simp only[nmx,seval];apply VE.cons
  ·exact B1 (c:= .int .u64 0) rfl gg rfl (fun w=>by kernel_rfl)
  simp only[nmx,seval];apply VE.cons
  ·exact AK (c:= .int .u64 0) rfl gg rfl rfl (fun w=>by kernel_rfl)
  simp only[nmx,seval];apply VE.cons
  ·exact B1 (c:= .int .i64 0) rfl gg rfl (fun w=>by kernel_rfl)
  simp only[nmx,seval];apply VE.cons
  ·first|exact BG rfl gg rfl underlying34 rfl sizeOf3|exact BF rfl gg rfl underlying34 rfl sizeOf3
  simp only[nmx,seval];apply VE.cons
  ·first|exact BK rfl gg rfl rfl underlying3 rfl rfl|exact BR rfl gg rfl underlying3 rfl (by assumption)
  simp only[nmx,seval];apply VE.cons
  ·exact AK (c:= .int .i64 3) rfl gg rfl rfl (fun w=>by kernel_rfl)
  simp only[nmx,seval];apply VE.cons
  ·first|exact BG rfl gg rfl underlying34 rfl sizeOf3|exact BF rfl gg rfl underlying34 rfl sizeOf3
  simp only[nmx,seval];apply VE.cons
  ·exact BA rfl gg rfl rfl rfl sizeOf3 rfl (by simp) rfl
  simp only[nmx,seval];apply VE.cons
  ·first|exact BG rfl gg rfl underlying34 rfl sizeOf3|exact BF rfl gg rfl underlying34 rfl sizeOf3
  simp only[nmx,seval];apply VE.cons
  ·exact BA rfl gg rfl rfl rfl sizeOf3 rfl (by simp) rfl
  simp only[nmx,seval];exact VE.nil _
 ·kernel_rfl
 refine AU ?_;apply vrp
 ·apply VE.cons
  ·first|exact BD rfl gg rfl rfl underlying34 rfl sizeOf34 rfl rfl|exact A2 rfl gg rfl underlying34 rfl sizeOf34 (by assumption) rfl|exact Bi rfl gg rfl rfl underlying34 rfl sizeOf34 rfl
  simp only[nmx,seval];apply VE.cons
  ·first|exact BD rfl gg rfl rfl underlying64 rfl sizeOf64 rfl rfl|exact A2 rfl gg rfl underlying64 rfl sizeOf64 (by assumption) rfl|exact Bi rfl gg rfl rfl underlying64 rfl sizeOf64 rfl
  simp only[nmx,seval];apply VE.cons
  ·exact IU [13] rfl rfl gg rfl (eo func30) (n:=(wrT (tF.whole 91641478266143319200409962979497838403251612625275892787359574695720535655184 34359785920783616614347124149629303463568371124378962494315311719422531698393)).1.length) (size:=1) (l:=(wrT (tF.whole 91641478266143319200409962979497838403251612625275892787359574695720535655184 34359785920783616614347124149629303463568371124378962494315311719422531698393)).1.map b8) (y:= .int .i64 0) (by simp) (fun ρ S w' hb hR=>qG (c:=tF) (d:=904625697166532776746648320380374280103671755200316906558262375061821325313) (r:=91641478266143319200409962979497838403251612625275892787359574695720535655184) (t:=34359785920783616614347124149629303463568371124378962494315311719422531698393) w' (hL.bw hb) (hK.bw hb) (hH.bw hb) (Nat.lt_of_lt_of_le hb1 hb.size) (EH (id:=13) hR (by simp) rfl) HG.fit Iq (fun w2 h2=>HG.made ((hL.bw hb).bw h2) ((hK.bw hb).bw h2) ((hH.bw hb).bw h2) (Nat.lt_of_lt_of_le (Nat.lt_of_lt_of_le hb1 hb.size) h2.size)))
  simp only[nmx,seval];apply VE.cons
  ·exact Ap rfl gg
  simp only[nmx,seval];apply VE.cons
  ·first|exact Cy rfl gg rfl rfl|exact C8 rfl gg rfl rfl
  simp only[nmx,seval];apply VE.cons
  ·first|exact Cy rfl gg rfl rfl|exact C8 rfl gg rfl rfl
  simp only[nmx,seval];apply VE.cons
  ·exact CJ rfl gg
  simp only[nmx,seval];apply VE.cons
  ·exact CJ rfl gg
  simp only[nmx,seval];exact VE.nil _
 ·kernel_rfl
 refine BP ?_;apply vrp
 ·apply VE.cons
  ·exact Ap rfl gg
  simp only[nmx,seval];apply VE.cons
  ·exact BB (p:=false) rfl gg rfl rfl (by decide)
  simp only[nmx,seval];exact VE.nil _
 ·kernel_rfl
 refine Cx ?_;apply vrp
 ·apply VE.cons
  ·exact Ap rfl gg
  simp only[nmx,seval];apply VE.cons
  ·exact CJ rfl gg
  simp only[nmx,seval];exact VE.nil _
 ·kernel_rfl
 refine Ci ?_;refine AD (AH results16 (AF rfl)) ?_;intro ρ w' hr;exact⟨_,rfl,B8 hr rfl,hr.1⟩
theorem SI(hL:Laid w)(hK:B6 w)(hH:CQ w)(hb1:7<w.heap.size):Calls prog 16 #[.agg #[.int .u8 2,.int .u8 1,.int .u8 1,.int .i64 0,.int .i64 9,.bool false,.int .i64 0,.int .i64 5]] w fun e w'=> ∃v,e= .returned v∧BN w w' v ((wrT (tG.whole 1114083266420058096696744489585543328269632961737434276984120145359717981390 86081644980612971697070882193903715326289650179523083670499400885591605164653)).1.length) 1 5 ((wrT (tG.whole 1114083266420058096696744489585543328269632961737434276984120145359717981390 86081644980612971697070882193903715326289650179523083670499400885591605164653)).1.map b8)∧Bw w w':=by
 go_enter func16,ntmps16
 refine Cg ?_;apply vrp
 ·apply VE.cons
  ·exact G3 rfl rfl gg rfl
  simp only[nmx,seval];apply VE.cons
  ·exact CJ rfl gg
  simp only[nmx,seval];exact VE.nil _
 ·kernel_rfl
 refine AU ?_;apply vrp
 ·apply VE.cons
  ·first|exact BG rfl gg rfl underlying46 rfl sizeOf5|exact BF rfl gg rfl underlying46 rfl sizeOf5
  simp only[nmx,seval];apply VE.cons
  ·first|exact BK rfl gg rfl rfl underlying5 rfl rfl|exact BR rfl gg rfl underlying5 rfl (by assumption)
  simp only[nmx,seval];apply VE.cons
  ·exact oa [] rfl rfl gg rfl (eo func40) (n:=65) (size:=1) (l:=Ee.map b8) (y:=B32 904625697166532776746648320380374280103671755200316906558262375061821325314) (by rfl) (fun ρ S w' hb hR=>Jx w' (hL.bw hb))
  simp only[nmx,seval];apply VE.cons
  ·exact Ap rfl gg
  simp only[nmx,seval];apply VE.cons
  ·first|exact Cy rfl gg rfl rfl|exact C8 rfl gg rfl rfl
  simp only[nmx,seval];apply VE.cons
  ·first|exact Cy rfl gg rfl rfl|exact C8 rfl gg rfl rfl
  simp only[nmx,seval];apply VE.cons
  ·exact BZ rfl rfl gg zeroValue64
  simp only[nmx,seval];apply VE.cons
  ·exact BA rfl gg rfl rfl rfl sizeOf64 rfl (by simp) rfl
  simp only[nmx,seval];apply VE.cons
  ·exact CJ rfl gg
  simp only[nmx,seval];exact VE.nil _
 ·kernel_rfl
 refine AU ?_;apply vrp
 ·apply VE.cons
  ·first|exact BG rfl gg rfl underlying46 rfl sizeOf5|exact BF rfl gg rfl underlying46 rfl sizeOf5
  simp only[nmx,seval];apply VE.cons
  ·first|exact BK rfl gg rfl rfl underlying5 rfl rfl|exact BR rfl gg rfl underlying5 rfl (by assumption)
  simp only[nmx,seval];apply VE.cons
  ·exact oa [] rfl rfl gg rfl (eo func40) (n:=65) (size:=1) (l:=Bf.map b8) (y:=B32 904625697166532776746648320380374280103671755200316906558262375061821325313) (by rfl) (fun ρ S w' hb hR=>EQ w' (hL.bw hb))
  simp only[nmx,seval];apply VE.cons
  ·exact Ap rfl gg
  simp only[nmx,seval];apply VE.cons
  ·first|exact Cy rfl gg rfl rfl|exact C8 rfl gg rfl rfl
  simp only[nmx,seval];apply VE.cons
  ·first|exact Cy rfl gg rfl rfl|exact C8 rfl gg rfl rfl
  simp only[nmx,seval];apply VE.cons
  ·exact BZ rfl rfl gg zeroValue64
  simp only[nmx,seval];apply VE.cons
  ·exact BA rfl gg rfl rfl rfl sizeOf64 rfl (by simp) rfl
  simp only[nmx,seval];apply VE.cons
  ·exact CJ rfl gg
  simp only[nmx,seval];exact VE.nil _
 ·kernel_rfl
 refine AU ?_;apply vrd (by kernel_rfl)
 ·apply VE.cons
  ·first|exact BG rfl gg rfl underlying46 rfl sizeOf5|exact BF rfl gg rfl underlying46 rfl sizeOf5
  simp only[nmx,seval];apply VE.cons
  ·first|exact BK rfl gg rfl rfl underlying5 rfl rfl|exact BR rfl gg rfl underlying5 rfl (by assumption)
  simp only[nmx,seval];apply VE.cons
  ·exact Ad (v:= .string (AB [110,98])) rfl gg rfl (eo func41) (fun w' hw'=>EK w')
  simp only[nmx,seval];apply VE.cons
  ·first|exact BG rfl gg rfl underlying46 rfl sizeOf5|exact BF rfl gg rfl underlying46 rfl sizeOf5
  simp only[nmx,seval];apply VE.cons
  ·first|exact BK rfl gg rfl rfl underlying5 rfl rfl|exact BR rfl gg rfl underlying5 rfl (by assumption)
  simp only[nmx,seval];apply VE.cons
  ·exact Ad (v:= .string (AB [110,99])) rfl gg rfl (eo func41) (fun w' hw'=>Hj w')
  simp only[nmx,seval];apply VE.cons
  ·first|exact BG rfl gg rfl underlying46 rfl sizeOf3|exact BF rfl gg rfl underlying46 rfl sizeOf3
  simp only[nmx,seval];apply VE.cons
  ·first|exact BK rfl gg rfl rfl underlying3 rfl rfl|exact BR rfl gg rfl underlying3 rfl (by assumption)
  simp only[nmx,seval];apply VE.cons
  ·exact C9 (a:=0) rfl gg rfl rfl
  simp only[nmx,seval];apply VE.cons
  ·exact AK (c:= .int .i64 0) rfl gg rfl rfl (fun w=>by kernel_rfl)
  simp only[nmx,seval];apply VE.cons
  ·first|exact BG rfl gg rfl underlying46 rfl sizeOf3|exact BF rfl gg rfl underlying46 rfl sizeOf3
  simp only[nmx,seval];apply VE.cons
  ·first|exact BK rfl gg rfl rfl underlying3 rfl rfl|exact BR rfl gg rfl underlying3 rfl (by assumption)
  simp only[nmx,seval];apply VE.cons
  ·exact C9 (a:=9) rfl gg rfl rfl
  simp only[nmx,seval];apply VE.cons
  ·exact AK (c:= .int .i64 9) rfl gg rfl rfl (fun w=>by kernel_rfl)
  simp only[nmx,seval];apply VE.cons
  ·exact Ap rfl gg
  simp only[nmx,seval];apply VE.cons
  ·first|exact BG rfl gg rfl underlying46 rfl sizeOf4|exact BF rfl gg rfl underlying46 rfl sizeOf4
  simp only[nmx,seval];apply VE.cons
  ·first|exact BK rfl gg rfl rfl underlying4 rfl rfl|exact BR rfl gg rfl underlying4 rfl (by assumption)
  simp only[nmx,seval];apply VE.cons
  ·first|exact BG rfl gg rfl underlying46 rfl sizeOf3|exact BF rfl gg rfl underlying46 rfl sizeOf3
  simp only[nmx,seval];apply VE.cons
  ·first|exact BK rfl gg rfl rfl underlying3 rfl rfl|exact BR rfl gg rfl underlying3 rfl (by assumption)
  simp only[nmx,seval];apply VE.cons
  ·exact B1 (c:= .int .u64 5) rfl gg rfl (fun w=>by kernel_rfl)
  simp only[nmx,seval];apply VE.cons
  ·exact AK (c:= .int .u64 5) rfl gg rfl rfl (fun w=>by kernel_rfl)
  simp only[nmx,seval];apply VE.cons
  ·exact B1 (c:= .int .i64 5) rfl gg rfl (fun w=>by kernel_rfl)
  simp only[nmx,seval];apply VE.cons
  ·exact AK (c:= .int .i64 5) rfl gg rfl rfl (fun w=>by kernel_rfl)
  simp only[nmx,seval];apply VE.cons
  ·exact Fq rfl gg rfl rfl rfl rfl rfl rfl rfl rfl (BI (id:=13) rfl)
  simp only[nmx,seval];apply VE.cons
  ·exact BZ rfl rfl gg zeroValue34
  simp only[nmx,seval];apply VE.cons
  ·exact Bh (vl:=[.v (.int .i64 7),.v (.string (AB [110,98])),.v (.string (AB [110,99])),.v (.int .i64 0),.v (.int .i64 9),.d 13,.v (.bool false),.v (.int .i64 0),.v (.int .i64 5)]) [13,7] rfl gg rfl rfl rfl sizeOf34 rfl (fun ρ S w' _ hR=>⟨DC _,by have hh:=Cf (id:=13) hR (by simp) rfl;simp only[SV.cs,SV.c,List.all_cons,List.all_nil,hh.2];rfl⟩) rfl (by simp)
  simp only[nmx,seval];exact VE.nil _
 ·kernel_rfl
 refine BP ?_;apply vrp
 ·apply VE.cons
  ·first|exact BG rfl gg rfl underlying46 rfl sizeOf4|exact BF rfl gg rfl underlying46 rfl sizeOf4
  simp only[nmx,seval];apply VE.cons
  ·first|exact BK rfl gg rfl rfl underlying4 rfl rfl|exact BR rfl gg rfl underlying4 rfl (by assumption)
  simp only[nmx,seval];exact VE.nil _
 ·kernel_rfl
 refine Cx ?_;apply vrp
 ·apply VE.cons
  ·first|exact BD rfl gg rfl rfl underlying34 rfl sizeOf34 rfl rfl|exact A2 rfl gg rfl underlying34 rfl sizeOf34 (by assumption) rfl|exact Bi rfl gg rfl rfl underlying34 rfl sizeOf34 rfl
  simp only[nmx,seval];apply VE.cons
  ·first|exact BD rfl gg rfl rfl underlying64 rfl sizeOf64 rfl rfl|exact A2 rfl gg rfl underlying64 rfl sizeOf64 (by assumption) rfl|exact Bi rfl gg rfl rfl underlying64 rfl sizeOf64 rfl
  simp only[nmx,seval];apply VE.cons
  ·exact IU [13] rfl rfl gg rfl (eo func30) (n:=(wrT (tG.whole 1114083266420058096696744489585543328269632961737434276984120145359717981390 86081644980612971697070882193903715326289650179523083670499400885591605164653)).1.length) (size:=1) (l:=(wrT (tG.whole 1114083266420058096696744489585543328269632961737434276984120145359717981390 86081644980612971697070882193903715326289650179523083670499400885591605164653)).1.map b8) (y:= .int .i64 0) (by simp) (fun ρ S w' hb hR=>qG (c:=tG) (d:=904625697166532776746648320380374280103671755200316906558262375061821325313) (r:=1114083266420058096696744489585543328269632961737434276984120145359717981390) (t:=86081644980612971697070882193903715326289650179523083670499400885591605164653) w' (hL.bw hb) (hK.bw hb) (hH.bw hb) (Nat.lt_of_lt_of_le hb1 hb.size) (EH (id:=13) hR (by simp) rfl) HD.fit Ip (fun w2 h2=>HD.made ((hL.bw hb).bw h2) ((hK.bw hb).bw h2) ((hH.bw hb).bw h2) (Nat.lt_of_lt_of_le (Nat.lt_of_lt_of_le hb1 hb.size) h2.size)))
  simp only[nmx,seval];apply VE.cons
  ·exact Ap rfl gg
  simp only[nmx,seval];apply VE.cons
  ·first|exact Cy rfl gg rfl rfl|exact C8 rfl gg rfl rfl
  simp only[nmx,seval];apply VE.cons
  ·first|exact Cy rfl gg rfl rfl|exact C8 rfl gg rfl rfl
  simp only[nmx,seval];apply VE.cons
  ·exact CJ rfl gg
  simp only[nmx,seval];apply VE.cons
  ·exact CJ rfl gg
  simp only[nmx,seval];exact VE.nil _
 ·kernel_rfl
 refine BP ?_;apply vrp
 ·apply VE.cons
  ·exact Ap rfl gg
  simp only[nmx,seval];apply VE.cons
  ·exact BB (p:=false) rfl gg rfl rfl (by decide)
  simp only[nmx,seval];exact VE.nil _
 ·kernel_rfl
 refine Cx ?_;apply vrp
 ·apply VE.cons
  ·exact Ap rfl gg
  simp only[nmx,seval];apply VE.cons
  ·exact CJ rfl gg
  simp only[nmx,seval];exact VE.nil _
 ·kernel_rfl
 refine Ci ?_;refine AD (AH results16 (AF rfl)) ?_;intro ρ w' hr;exact⟨_,rfl,B8 hr rfl,hr.1⟩
end Go.Proofs.YtafbhakmkbehiaaGreatDoor
