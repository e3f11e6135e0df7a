import Derived.LaidHandle
import Derived.Test.YtafbhakmkbehiaaGreatDoorZ36
open Go.Proofs.Tryz
set_option maxHeartbeats 4000000
set_option maxRecDepth 100000
namespace Go.Proofs.YtafbhakmkbehiaaGreatDoor
open Go.RowKit Go.Vx Go.ChangeShapes Go.WideShapes Go.ChangeAt Go.Lib
variable(w:World){ca:Bool}{fr now pa se to us use x1 x2:Int}{Rs:List (List Nat)}{bi is rd su:List Nat}{us' vs:List Value}{i n r t:Nat}{S:Nat→Nat→Prop}{ρ:Nat→Nm}{G G':Nat→Prop}{cv kv rv vi:Value}
open TollMont
open Go.Toll (Gw)
open TollEc (F pp cb Jp Pt Au add base nn neg)
open TollSha (sha CH)
theorem WA{F:Nat→Prop}(hL:Laid w)(hK:B6 w)(hH:CQ w)(hb1:7<w.heap.size)(hc:AO w cv n 1 vs F)(hi:i<n)(hi64:n≤1048576)(hvi:vs[i]? =some vi)(hv:AO w vi bi.length 1 (bi.map b8) G')(h8: ∀x∈bi,x<256)(hbl:bi.length≤1048576)(is8: ∀x∈is,x<256)(hr1:AO w rv Rs.length 1 us' G)(hr2:A7 w G Rs us')(hrl:Rs.length≤1048576)(hr8: ∀b∈Rs,(∀x∈b,x<256)∧b.length≤1048576)(h:Rs.any (rok now i is bi)=true):Calls prog 117 #[CHV cv rv now use,.int .i64 (i:Nat),.agg #[.int .i64 se,.string (AB is),.string (AB su),.int .i64 fr,.int .i64 to,kv,.bool ca,.int .i64 pa,.int .i64 us]] w fun e w'=>e= .returned .nilIface∧Bw w w':=
 (NZ (se:=se) (su:=su) (fr:=fr) (to:=to) (pa:=pa) (us:=us) (ca:=ca) (kv:=kv) (use:=use) w hL hK hH hb1 hc hi hi64 hvi hv h8 hbl is8 hr1 hr2 hrl hr8).mono fun e w' hh=>by
  rcases hh with⟨_,h1,h2⟩|⟨h1,_⟩
  ·exact⟨h1,h2⟩
  ·rw[h]at h1;cases h1
theorem WC{F:Nat→Prop}(hL:Laid w)(hK:B6 w)(hH:CQ w)(hb1:7<w.heap.size)(hc:AO w cv n 1 vs F)(hi:i<n)(hi64:n≤1048576)(hvi:vs[i]? =some vi)(hv:AO w vi bi.length 1 (bi.map b8) G')(h8: ∀x∈bi,x<256)(hbl:bi.length≤1048576)(is8: ∀x∈is,x<256)(hr1:AO w rv Rs.length 1 us' G)(hr2:A7 w G Rs us')(hrl:Rs.length≤1048576)(hr8: ∀b∈Rs,(∀x∈b,x<256)∧b.length≤1048576)(h:Rs.any (rok now i is bi)=false):Calls prog 117 #[CHV cv rv now use,.int .i64 (i:Nat),.agg #[.int .i64 se,.string (AB is),.string (AB su),.int .i64 fr,.int .i64 to,kv,.bool ca,.int .i64 pa,.int .i64 us]] w fun e w'=> ∃v,e= .returned v∧Ae w w' v (Cp i 8)∧Bw w w':=
 (NZ (se:=se) (su:=su) (fr:=fr) (to:=to) (pa:=pa) (us:=us) (ca:=ca) (kv:=kv) (use:=use) w hL hK hH hb1 hc hi hi64 hvi hv h8 hbl is8 hr1 hr2 hrl hr8).mono fun e w' hh=>by
  rcases hh with⟨h1,_⟩|⟨_,h1⟩
  ·rw[h]at h1;cases h1
  ·exact h1
theorem FB{w w':World}(hb:Bw w w'){G:Nat→Prop}: ∀{Bs:List (List Nat)} {vs:List Value},A7 w G Bs vs→A7 w' G Bs vs
 | [],[],_=>trivial
 |_::_,_::_,h=>⟨A5 h.1 hb,FB hb h.2⟩
theorem J1{w:World}{base:Nat}{m:Mem}{c:Crt}(id:Nat)(R:Ending→World→Prop)(hR:RelOn base ρ S w (restr rd m))(hid:id∈rd)(hm:m id=some (.dat (G5 c)))
 (h: ∀kv ca,c.ca=ca→Calls prog 74 #[CHV cv rv now use,.int .i64 0,.agg #[.int .i64 c.se,.string (AB c.is),.string (AB c.su),.int .i64 c.fr,.int .i64 c.to,kv,.bool ca,.int .i64 c.pa,.int .i64 c.us]] w R):Calls prog 74 (SV.cs ρ [.agg [.v cv,.v rv,.v (.int .i64 now),.v (.int .i64 use)],.v (.int .i64 0),.agg [.v (.int .i64 c.se),.v (.string (AB c.is)),.v (.string (AB c.su)),.v (.int .i64 c.fr),.v (.int .i64 c.to),.fn (AN 5) (.d id),.v (.bool c.ca),.v (.int .i64 c.pa),.v (.int .i64 c.us)]]).toArray w R:=by
 obtain⟨kv,e1,_⟩:=cX hR hid hm;have e:SV.cs ρ [.agg [.v cv,.v rv,.v (.int .i64 now),.v (.int .i64 use)],.v (.int .i64 0),.agg [.v (.int .i64 c.se),.v (.string (AB c.is)),.v (.string (AB c.su)),.v (.int .i64 c.fr),.v (.int .i64 c.to),.fn (AN 5) (.d id),.v (.bool c.ca),.v (.int .i64 c.pa),.v (.int .i64 c.us)]]=[CHV cv rv now use,.int .i64 0,CVV c kv]:=by simp only[SV.cs,e1];rfl
 rw[e];exact h kv c.ca rfl
theorem M1{w:World}{base:Nat}{m:Mem}{c:Crt}(id:Nat)(R:Ending→World→Prop)(hR:RelOn base ρ S w (restr rd m))(hid:id∈rd)(hm:m id=some (.dat (G5 c)))
 (h: ∀kv,Calls prog 75 #[CHV cv rv now use,.int .i64 ((0:Nat):Int),.agg #[.int .i64 c.se,.string (AB c.is),.string (AB c.su),.int .i64 c.fr,.int .i64 c.to,kv,.bool c.ca,.int .i64 c.pa,.int .i64 c.us]] w R):Calls prog 75 (SV.cs ρ [.agg [.v cv,.v rv,.v (.int .i64 now),.v (.int .i64 use)],.v (.int .i64 0),.agg [.v (.int .i64 c.se),.v (.string (AB c.is)),.v (.string (AB c.su)),.v (.int .i64 c.fr),.v (.int .i64 c.to),.fn (AN 5) (.d id),.v (.bool c.ca),.v (.int .i64 c.pa),.v (.int .i64 c.us)]]).toArray w R:=by
 obtain⟨kv,e1,_⟩:=cX hR hid hm;have e:SV.cs ρ [.agg [.v cv,.v rv,.v (.int .i64 now),.v (.int .i64 use)],.v (.int .i64 0),.agg [.v (.int .i64 c.se),.v (.string (AB c.is)),.v (.string (AB c.su)),.v (.int .i64 c.fr),.v (.int .i64 c.to),.fn (AN 5) (.d id),.v (.bool c.ca),.v (.int .i64 c.pa),.v (.int .i64 c.us)]]=[CHV cv rv now use,.int .i64 0,CVV c kv]:=by simp only[SV.cs,e1];rfl
 rw[e];exact h kv
theorem SG{F:Nat→Prop}(hL:Laid w)(hK:B6 w)(hH:CQ w)(hb1:7<w.heap.size)(hc:AO w cv n 1 vs F)(hi:i<n)(hi64:n≤1048576)(hvi:vs[i]? =some vi)(hv:AO w vi bi.length 1 (bi.map b8) G')(h8: ∀x∈bi,x<256)(hbl:bi.length≤1048576)(is8: ∀x∈is,x<256)(hr1:AO w rv Rs.length 1 us' G)(hr2:A7 w G Rs us')(hrl:Rs.length≤1048576)(hr8: ∀b∈Rs,(∀x∈b,x<256)∧b.length≤1048576)(hlast:i+1=n)(h:Rs.any (rok now i is bi)=true):Calls prog 75 #[CHV cv rv now use,.int .i64 (i:Nat),.agg #[.int .i64 se,.string (AB is),.string (AB su),.int .i64 fr,.int .i64 to,kv,.bool ca,.int .i64 pa,.int .i64 us]] w fun e w'=>e= .returned .nilIface∧Bw w w':=by
 go_enter func75,ntmps75
 refine Cg ?_;apply vrp
 ·apply VE.cons
  ·exact G3 rfl rfl gg rfl
  simp only[nmx,seval];apply VE.cons
  ·exact G3 rfl rfl gg rfl
  simp only[nmx,seval];apply VE.cons
  ·exact CJ rfl gg
  simp only[nmx,seval];exact VE.nil _
 ·kernel_rfl
 refine BP ?_;apply vrp
 ·apply VE.cons
  ·exact Ap rfl gg
  simp only[nmx,seval];apply VE.cons
  ·first|exact BG rfl gg rfl underlying95 rfl sizeOf43|exact BF rfl gg rfl underlying95 rfl sizeOf43
  simp only[nmx,seval];apply VE.cons
  ·first|exact BK rfl gg rfl rfl underlying43 rfl rfl|exact BR rfl gg rfl underlying43 rfl (by assumption)
  simp only[nmx,seval];apply VE.cons
  ·exact BU rfl gg rfl underlying43 (AW hc)
  simp only[nmx,seval];apply VE.cons
  ·exact Bu (c:=((n:Nat):Int)-1) rfl gg rfl rfl (by rw[Ah (by omega) (by omega)])
  simp only[nmx,seval];apply VE.cons
  ·exact Ag (p:=true) rfl gg rfl rfl (decide_eq_true (by omega))
  simp only[nmx,seval];exact VE.nil _
 ·kernel_rfl
 refine E7 ?_;apply vrp
 ·apply VE.cons
  ·first|exact BD rfl gg rfl rfl underlying95 rfl sizeOf95 rfl rfl|exact A2 rfl gg rfl underlying95 rfl sizeOf95 (by assumption) rfl|exact Bi rfl gg rfl rfl underlying95 rfl sizeOf95 rfl
  simp only[nmx,seval];apply VE.cons
  ·exact Ap rfl gg
  simp only[nmx,seval];apply VE.cons
  ·first|exact BD rfl gg rfl rfl underlying34 rfl sizeOf34 rfl rfl|exact A2 rfl gg rfl underlying34 rfl sizeOf34 (by assumption) rfl|exact Bi rfl gg rfl rfl underlying34 rfl sizeOf34 rfl
  simp only[nmx,seval];apply VE.cons
  ·exact Ad (v:= .nilIface) rfl gg rfl (eo func117) (fun w' hw'=>WA w' (hL.bw hw') (hK.bw hw') (hH.bw hw') (Nat.lt_of_lt_of_le hb1 (Below.size hw')) (A5 hc hw') hi hi64 hvi (A5 hv hw') h8 hbl is8 (A5 hr1 hw') (FB hw' hr2) hrl hr8 h)
  simp only[nmx,seval];apply VE.cons
  ·exact CJ rfl gg
  simp only[nmx,seval];exact VE.nil _
 ·kernel_rfl
 change VOk _ _ _ _ _;exact AG (AD (AH results75 (AF rfl)) fun _ _ hr=>⟨rfl,hr.1⟩)
theorem Se{F:Nat→Prop}(hL:Laid w)(hK:B6 w)(hH:CQ w)(hb1:7<w.heap.size)(hc:AO w cv n 1 vs F)(hi:i<n)(hi64:n≤1048576)(hvi:vs[i]? =some vi)(hv:AO w vi bi.length 1 (bi.map b8) G')(h8: ∀x∈bi,x<256)(hbl:bi.length≤1048576)(is8: ∀x∈is,x<256)(hr1:AO w rv Rs.length 1 us' G)(hr2:A7 w G Rs us')(hrl:Rs.length≤1048576)(hr8: ∀b∈Rs,(∀x∈b,x<256)∧b.length≤1048576)(hlast:i+1=n)(h:Rs.any (rok now i is bi)=false):Calls prog 75 #[CHV cv rv now use,.int .i64 (i:Nat),.agg #[.int .i64 se,.string (AB is),.string (AB su),.int .i64 fr,.int .i64 to,kv,.bool ca,.int .i64 pa,.int .i64 us]] w fun e w'=> ∃v,e= .returned v∧Ae w w' v (Cp i 8)∧Bw w w':=by
 go_enter func75,ntmps75
 refine Cg ?_;apply vrp
 ·apply VE.cons
  ·exact G3 rfl rfl gg rfl
  simp only[nmx,seval];apply VE.cons
  ·exact G3 rfl rfl gg rfl
  simp only[nmx,seval];apply VE.cons
  ·exact CJ rfl gg
  simp only[nmx,seval];exact VE.nil _
 ·kernel_rfl
 refine BP ?_;apply vrp
 ·apply VE.cons
  ·exact Ap rfl gg
  simp only[nmx,seval];apply VE.cons
  ·first|exact BG rfl gg rfl underlying95 rfl sizeOf43|exact BF rfl gg rfl underlying95 rfl sizeOf43
  simp only[nmx,seval];apply VE.cons
  ·first|exact BK rfl gg rfl rfl underlying43 rfl rfl|exact BR rfl gg rfl underlying43 rfl (by assumption)
  simp only[nmx,seval];apply VE.cons
  ·exact BU rfl gg rfl underlying43 (AW hc)
  simp only[nmx,seval];apply VE.cons
  ·exact Bu (c:=((n:Nat):Int)-1) rfl gg rfl rfl (by rw[Ah (by omega) (by omega)])
  simp only[nmx,seval];apply VE.cons
  ·exact Ag (p:=true) rfl gg rfl rfl (decide_eq_true (by omega))
  simp only[nmx,seval];exact VE.nil _
 ·kernel_rfl
 refine E7 ?_;apply vrp
 ·apply VE.cons
  ·first|exact BD rfl gg rfl rfl underlying95 rfl sizeOf95 rfl rfl|exact A2 rfl gg rfl underlying95 rfl sizeOf95 (by assumption) rfl|exact Bi rfl gg rfl rfl underlying95 rfl sizeOf95 rfl
  simp only[nmx,seval];apply VE.cons
  ·exact Ap rfl gg
  simp only[nmx,seval];apply VE.cons
  ·first|exact BD rfl gg rfl rfl underlying34 rfl sizeOf34 rfl rfl|exact A2 rfl gg rfl underlying34 rfl sizeOf34 (by assumption) rfl|exact Bi rfl gg rfl rfl underlying34 rfl sizeOf34 rfl
  simp only[nmx,seval];apply VE.cons
  ·exact Al (D:=Cp i 8) [] rfl rfl gg rfl (eo func117) (fun ρ S w' hb hR=>WC w' (hL.bw hb) (hK.bw hb) (hH.bw hb) (Nat.lt_of_lt_of_le hb1 (Below.size hb)) (A5 hc hb) hi hi64 hvi (A5 hv hb) h8 hbl is8 (A5 hr1 hb) (FB hb hr2) hrl hr8 h)
  simp only[nmx,seval];apply VE.cons
  ·exact CJ rfl gg
  simp only[nmx,seval];exact VE.nil _
 ·kernel_rfl
 refine Ci ?_;refine AD (AH results75 (AF rfl)) ?_;intro ρ w' hr;exact⟨_,rfl,FF 18 hr rfl,hr.1⟩
theorem UP{F:Nat→Prop}{c:Crt}(hL:Laid w)(hK:B6 w)(hH:CQ w)(hb1:7<w.heap.size)(hc:AO w cv 1 1 [vi] F)(hv:AO w vi bi.length 1 (bi.map b8) G')(h8: ∀x∈bi,x<256)(hbl:bi.length≤1048576)(hr1:AO w rv Rs.length 1 us' G)(hr2:A7 w G Rs us')(hrl:Rs.length≤1048576)(hr8: ∀b∈Rs,(∀x∈b,x<256)∧b.length≤1048576)(hrd:rdC bi=some (c,r,t))(hx1: ∀(p q:Operand) (w:World),(do eqGuard .and 3 p q (.int .i64 c.us) (.int .i64 1);binOp .and 3 (.int .i64 c.us) (.int .i64 1):Sem Value).run prog w= .ok (.int .i64 x1) w)(hx2: ∀(p q:Operand) (w:World),(do eqGuard .and 3 p q (.int .i64 c.us) (.int .i64 use);binOp .and 3 (.int .i64 c.us) (.int .i64 use):Sem Value).run prog w= .ok (.int .i64 x2) w)(hn1:decide (x1≠0)=true)(hn2:decide (x2≠0)=true)(ht1:decide (now<c.fr)=false)(ht2:decide (now>c.to)=false)(hany:Rs.any (rok now 0 c.is bi)=true):Calls prog 42 #[CHV cv rv now use] w fun e w'=> ∃u,e= .returned (.tuple #[u,.nilIface])∧Ae w w' u (G5 c)∧Bw w w':=by
 have hs:=iG h8 hbl hrd
 go_enter func42,ntmps42
 refine Cg ?_;apply vrp
 ·apply VE.cons
  ·exact G3 rfl rfl gg rfl
  simp only[nmx,seval];apply VE.cons
  ·exact BZ rfl rfl gg zeroValue34
  simp only[nmx,seval];apply VE.cons
  ·exact CJ rfl gg
  simp only[nmx,seval];exact VE.nil _
 ·kernel_rfl
 refine AU ?_;apply vrp
 ·apply VE.cons
  ·exact BZ rfl rfl gg zeroValue34
  simp only[nmx,seval];exact VE.nil _
 ·kernel_rfl
 refine BP ?_;apply vrp
 ·apply VE.cons
  ·first|exact BG rfl gg rfl underlying95 rfl sizeOf43|exact BF rfl gg rfl underlying95 rfl sizeOf43
  simp only[nmx,seval];apply VE.cons
  ·first|exact BK rfl gg rfl rfl underlying43 rfl rfl|exact BR rfl gg rfl underlying43 rfl (by assumption)
  simp only[nmx,seval];apply VE.cons
  ·exact BU rfl gg rfl underlying43 (AW hc)
  simp only[nmx,seval];apply VE.cons
  ·exact Ap rfl gg
  simp only[nmx,seval];exact VE.nil _
 ·kernel_rfl
 refine FH ?_;refine Br 2 ?_;refine AU ?_;apply vrp
 ·apply VE.cons
  ·exact BM (p:=true) rfl gg rfl rfl (by decide)
  simp only[nmx,seval];exact VE.nil _
 ·kernel_rfl
 refine AU ?_;refine GP rfl ?_;refine E9 ?_;refine mX ?_;apply vrp
 ·apply VE.cons
  ·exact Ap rfl gg
  simp only[nmx,seval];apply VE.cons
  ·exact CJ rfl gg
  simp only[nmx,seval];exact VE.nil _
 ·kernel_rfl
 refine AU ?_;apply vrp
 ·apply VE.cons
  ·first|exact BD rfl gg rfl rfl underlying95 rfl sizeOf95 rfl rfl|exact A2 rfl gg rfl underlying95 rfl sizeOf95 (by assumption) rfl|exact Bi rfl gg rfl rfl underlying95 rfl sizeOf95 rfl
  simp only[nmx,seval];apply VE.cons
  ·exact Ap rfl gg
  simp only[nmx,seval];apply VE.cons
  ·exact DL (D:=G5 c) (ys:=[.nilIface]) [] rfl rfl gg rfl (eo func73) (fun ρ S w' hb hR=>IY (i:=0) w' (hL.bw hb) (A5 hc hb) (by decide) rfl (A5 hv hb) h8 hbl hrd)
  simp only[nmx,seval];apply VE.cons
  ·exact Ap rfl gg
  simp only[nmx,seval];apply VE.cons
  ·first|exact Cy rfl gg rfl rfl|exact C8 rfl gg rfl rfl
  simp only[nmx,seval];apply VE.cons
  ·first|exact Cy rfl gg rfl rfl|exact C8 rfl gg rfl rfl
  simp only[nmx,seval];apply VE.cons
  ·exact BZ rfl rfl gg zeroValue34
  simp only[nmx,seval];apply VE.cons
  ·first|exact Bh (vl:=[.v (.int .i64 c.se),.v (.string (AB c.is)),.v (.string (AB c.su)),.v (.int .i64 c.fr),.v (.int .i64 c.to),.fn (AN 5) (.d 17),.v (.bool c.ca),.v (.int .i64 c.pa),.v (.int .i64 c.us)]) [17,6] rfl gg rfl rfl rfl sizeOf34 rfl (fun ρ S w' _ hR=>by obtain⟨kv,e,h⟩:=Nb (id:=17) hR (by simp) rfl;exact QL e h) rfl (by simp)|exact Bh (vl:=[.v (.int .i64 c.se),.v (.string (AB c.is)),.v (.string (AB c.su)),.v (.int .i64 c.fr),.v (.int .i64 c.to),.fn (AN 5) (.d 17),.v (.bool c.ca),.v (.int .i64 c.pa),.v (.int .i64 c.us)]) [17,4] rfl gg rfl rfl rfl sizeOf34 rfl (fun ρ S w' _ hR=>⟨DC _,by obtain⟨kv,e,h⟩:=Nb (id:=17) hR (by simp) rfl;exact(QL e h).2⟩) rfl (by simp)|exact Bh (vl:=[.v (.int .i64 c.se),.v (.string (AB c.is)),.v (.string (AB c.su)),.v (.int .i64 c.fr),.v (.int .i64 c.to),.fn (AN 5) (.d 17),.v (.bool c.ca),.v (.int .i64 c.pa),.v (.int .i64 c.us)]) [17,2] rfl gg rfl rfl rfl sizeOf34 rfl (fun ρ S w' _ hR=>⟨DC _,by obtain⟨kv,e,h⟩:=Nb (id:=17) hR (by simp) rfl;exact(QL e h).2⟩) rfl (by simp)|exact BA rfl gg rfl rfl rfl sizeOf34 rfl (by simp) rfl
  simp only[nmx,seval];apply VE.cons
  ·exact CJ rfl gg
  simp only[nmx,seval];exact VE.nil _
 ·kernel_rfl
 refine BP ?_;apply vrp
 ·apply VE.cons
  ·exact Ap rfl gg
  simp only[nmx,seval];apply VE.cons
  ·exact AK (c:= .bool true) rfl gg rfl rfl (fun w=>Gg _ w)
  simp only[nmx,seval];exact VE.nil _
 ·kernel_rfl
 refine EO ?_;apply vrp
 ·apply VE.cons
  ·first|exact BD rfl gg rfl rfl underlying95 rfl sizeOf95 rfl rfl|exact A2 rfl gg rfl underlying95 rfl sizeOf95 (by assumption) rfl|exact Bi rfl gg rfl rfl underlying95 rfl sizeOf95 rfl
  simp only[nmx,seval];apply VE.cons
  ·exact Ap rfl gg
  simp only[nmx,seval];apply VE.cons
  ·first|exact BD rfl gg rfl rfl underlying34 rfl sizeOf34 rfl rfl|exact A2 rfl gg rfl underlying34 rfl sizeOf34 (by assumption) rfl|exact Bi rfl gg rfl rfl underlying34 rfl sizeOf34 rfl
  simp only[nmx,seval];apply VE.cons
  ·exact Aj (v:= .nilIface) [17] rfl gg rfl (eo func74) (fun ρ S w' hb hR=>J1 17 _ hR (by simp) rfl (fun kv ca hca=>by cases ca with|true=>exact Ml w' hx1 hx2 hn1 hn2 ht1 ht2|false=>exact Mm w' hx1 hx2 hn1 hn2 ht1 ht2))
  simp only[nmx,seval];apply VE.cons
  ·exact CJ rfl gg
  simp only[nmx,seval];exact VE.nil _
 ·kernel_rfl
 refine BP ?_;apply vrp
 ·apply VE.cons
  ·exact Ap rfl gg
  simp only[nmx,seval];apply VE.cons
  ·exact AK (c:= .bool true) rfl gg rfl rfl (fun w=>Gg _ w)
  simp only[nmx,seval];exact VE.nil _
 ·kernel_rfl
 refine EO ?_;apply vrp
 ·apply VE.cons
  ·first|exact BD rfl gg rfl rfl underlying95 rfl sizeOf95 rfl rfl|exact A2 rfl gg rfl underlying95 rfl sizeOf95 (by assumption) rfl|exact Bi rfl gg rfl rfl underlying95 rfl sizeOf95 rfl
  simp only[nmx,seval];apply VE.cons
  ·exact Ap rfl gg
  simp only[nmx,seval];apply VE.cons
  ·first|exact BD rfl gg rfl rfl underlying34 rfl sizeOf34 rfl rfl|exact A2 rfl gg rfl underlying34 rfl sizeOf34 (by assumption) rfl|exact Bi rfl gg rfl rfl underlying34 rfl sizeOf34 rfl
  simp only[nmx,seval];apply VE.cons
  ·exact Aj (v:= .nilIface) [17] rfl gg rfl (eo func75) (fun ρ S w' hb hR=>M1 17 _ hR (by simp) rfl (fun kv=>SG (i:=0) (n:=1) w' (hL.bw hb) (hK.bw hb) (hH.bw hb) (Nat.lt_of_lt_of_le hb1 (Below.size hb)) (A5 hc hb) (by decide) (by decide) rfl (A5 hv hb) h8 hbl hs.2.1.i8 (A5 hr1 hb) (FB hb hr2) hrl hr8 rfl hany))
  simp only[nmx,seval];apply VE.cons
  ·exact CJ rfl gg
  simp only[nmx,seval];exact VE.nil _
 ·kernel_rfl
 refine BP ?_;apply vrp
 ·apply VE.cons
  ·exact Ap rfl gg
  simp only[nmx,seval];apply VE.cons
  ·exact AK (c:= .bool false) rfl gg rfl rfl (fun w=>L9 _ w)
  simp only[nmx,seval];exact VE.nil _
 ·kernel_rfl
 refine Cx ?_;apply vrp
 ·apply VE.cons
  ·exact Ap rfl gg
  simp only[nmx,seval];apply VE.cons
  ·exact Ag (p:=true) rfl gg rfl rfl (by decide)
  simp only[nmx,seval];exact VE.nil _
 ·kernel_rfl
 refine EO ?_;apply vrp
 ·apply VE.cons
  ·first|exact BD rfl gg rfl rfl underlying34 rfl sizeOf34 rfl rfl|exact A2 rfl gg rfl underlying34 rfl sizeOf34 (by assumption) rfl|exact Bi rfl gg rfl rfl underlying34 rfl sizeOf34 rfl
  simp only[nmx,seval];apply VE.cons
  ·first|exact Bh (vl:=[.v (.int .i64 c.se),.v (.string (AB c.is)),.v (.string (AB c.su)),.v (.int .i64 c.fr),.v (.int .i64 c.to),.fn (AN 5) (.d 17),.v (.bool c.ca),.v (.int .i64 c.pa),.v (.int .i64 c.us)]) [17,6] rfl gg rfl rfl rfl sizeOf34 rfl (fun ρ S w' _ hR=>by obtain⟨kv,e,h⟩:=Nb (id:=17) hR (by simp) rfl;exact QL e h) rfl (by simp)|exact Bh (vl:=[.v (.int .i64 c.se),.v (.string (AB c.is)),.v (.string (AB c.su)),.v (.int .i64 c.fr),.v (.int .i64 c.to),.fn (AN 5) (.d 17),.v (.bool c.ca),.v (.int .i64 c.pa),.v (.int .i64 c.us)]) [17,4] rfl gg rfl rfl rfl sizeOf34 rfl (fun ρ S w' _ hR=>⟨DC _,by obtain⟨kv,e,h⟩:=Nb (id:=17) hR (by simp) rfl;exact(QL e h).2⟩) rfl (by simp)|exact Bh (vl:=[.v (.int .i64 c.se),.v (.string (AB c.is)),.v (.string (AB c.su)),.v (.int .i64 c.fr),.v (.int .i64 c.to),.fn (AN 5) (.d 17),.v (.bool c.ca),.v (.int .i64 c.pa),.v (.int .i64 c.us)]) [17,2] rfl gg rfl rfl rfl sizeOf34 rfl (fun ρ S w' _ hR=>⟨DC _,by obtain⟨kv,e,h⟩:=Nb (id:=17) hR (by simp) rfl;exact(QL e h).2⟩) rfl (by simp)|exact BA rfl gg rfl rfl rfl sizeOf34 rfl (by simp) rfl
  simp only[nmx,seval];exact VE.nil _
 ·kernel_rfl
 change VOk _ _ _ _ _;apply vrp
 ·apply VE.cons
  ·exact BE (c:=1) rfl gg rfl rfl (by decide)
  simp only[nmx,seval];apply VE.cons
  ·exact Ap rfl gg
  simp only[nmx,seval];exact VE.nil _
 ·kernel_rfl
 refine AU ?_;apply vrp
 ·apply VE.cons
  ·exact BM (p:=false) rfl gg rfl rfl (by decide)
  simp only[nmx,seval];exact VE.nil _
 ·kernel_rfl
 refine AU ?_;refine GQ rfl ?_;refine As ?_;refine AU ?_;apply vrp
 ·apply VE.cons
  ·first|exact BD rfl gg rfl rfl underlying34 rfl sizeOf34 rfl rfl|exact A2 rfl gg rfl underlying34 rfl sizeOf34 (by assumption) rfl|exact Bi rfl gg rfl rfl underlying34 rfl sizeOf34 rfl
  simp only[nmx,seval];apply VE.cons
  ·first|exact Bh (vl:=[.v (.int .i64 c.se),.v (.string (AB c.is)),.v (.string (AB c.su)),.v (.int .i64 c.fr),.v (.int .i64 c.to),.fn (AN 5) (.d 17),.v (.bool c.ca),.v (.int .i64 c.pa),.v (.int .i64 c.us)]) [17,6] rfl gg rfl rfl rfl sizeOf34 rfl (fun ρ S w' _ hR=>by obtain⟨kv,e,h⟩:=Nb (id:=17) hR (by simp) rfl;exact QL e h) rfl (by simp)|exact Bh (vl:=[.v (.int .i64 c.se),.v (.string (AB c.is)),.v (.string (AB c.su)),.v (.int .i64 c.fr),.v (.int .i64 c.to),.fn (AN 5) (.d 17),.v (.bool c.ca),.v (.int .i64 c.pa),.v (.int .i64 c.us)]) [17,4] rfl gg rfl rfl rfl sizeOf34 rfl (fun ρ S w' _ hR=>⟨DC _,by obtain⟨kv,e,h⟩:=Nb (id:=17) hR (by simp) rfl;exact(QL e h).2⟩) rfl (by simp)|exact Bh (vl:=[.v (.int .i64 c.se),.v (.string (AB c.is)),.v (.string (AB c.su)),.v (.int .i64 c.fr),.v (.int .i64 c.to),.fn (AN 5) (.d 17),.v (.bool c.ca),.v (.int .i64 c.pa),.v (.int .i64 c.us)]) [17,2] rfl gg rfl rfl rfl sizeOf34 rfl (fun ρ S w' _ hR=>⟨DC _,by obtain⟨kv,e,h⟩:=Nb (id:=17) hR (by simp) rfl;exact(QL e h).2⟩) rfl (by simp)|exact BA rfl gg rfl rfl rfl sizeOf34 rfl (by simp) rfl
  simp only[nmx,seval];apply VE.cons
  ·exact CJ rfl gg
  simp only[nmx,seval];exact VE.nil _
 ·kernel_rfl
 refine Ci ?_;refine AD (Av results42 (Am rfl rfl underlying34 rfl sizeOf34 rfl) (AF rfl)) ?_;intro ρ w' hr;exact⟨_,rfl,gR 17 hr rfl,hr.1⟩
theorem UN{F:Nat→Prop}{c:Crt}(hL:Laid w)(_hK:B6 w)(_hH:CQ w)(_hb1:7<w.heap.size)(hc:AO w cv 1 1 [vi] F)(hv:AO w vi bi.length 1 (bi.map b8) G')(h8: ∀x∈bi,x<256)(hbl:bi.length≤1048576)(_hr1:AO w rv Rs.length 1 us' G)(_hr2:A7 w G Rs us')(_hrl:Rs.length≤1048576)(_hr8: ∀b∈Rs,(∀x∈b,x<256)∧b.length≤1048576)(hrd:rdC bi=some (c,r,t))(hx1: ∀(p q:Operand) (w:World),(do eqGuard .and 3 p q (.int .i64 c.us) (.int .i64 1);binOp .and 3 (.int .i64 c.us) (.int .i64 1):Sem Value).run prog w= .ok (.int .i64 x1) w)(hx2: ∀(p q:Operand) (w:World),(do eqGuard .and 3 p q (.int .i64 c.us) (.int .i64 use);binOp .and 3 (.int .i64 c.us) (.int .i64 use):Sem Value).run prog w= .ok (.int .i64 x2) w)(hn1:decide (x1≠0)=true)(hn2:decide (x2≠0)=true)(ht1:decide (now<c.fr)=false)(ht2:decide (now>c.to)=true):Calls prog 42 #[CHV cv rv now use] w fun e w'=> ∃u,e= .returned (.tuple #[CZ,u])∧Ae w w' u (Cp 0 7)∧Bw w w':=by
 have hs:=iG h8 hbl hrd
 go_enter func42,ntmps42
 refine Cg ?_;apply vrp
 ·apply VE.cons
  ·exact G3 rfl rfl gg rfl
  simp only[nmx,seval];apply VE.cons
  ·exact BZ rfl rfl gg zeroValue34
  simp only[nmx,seval];apply VE.cons
  ·exact CJ rfl gg
  simp only[nmx,seval];exact VE.nil _
 ·kernel_rfl
 refine AU ?_;apply vrp
 ·apply VE.cons
  ·exact BZ rfl rfl gg zeroValue34
  simp only[nmx,seval];exact VE.nil _
 ·kernel_rfl
 refine BP ?_;apply vrp
 ·apply VE.cons
  ·first|exact BG rfl gg rfl underlying95 rfl sizeOf43|exact BF rfl gg rfl underlying95 rfl sizeOf43
  simp only[nmx,seval];apply VE.cons
  ·first|exact BK rfl gg rfl rfl underlying43 rfl rfl|exact BR rfl gg rfl underlying43 rfl (by assumption)
  simp only[nmx,seval];apply VE.cons
  ·exact BU rfl gg rfl underlying43 (AW hc)
  simp only[nmx,seval];apply VE.cons
  ·exact Ap rfl gg
  simp only[nmx,seval];exact VE.nil _
 ·kernel_rfl
 refine FH ?_;refine Br 2 ?_;refine AU ?_;apply vrp
 ·apply VE.cons
  ·exact BM (p:=true) rfl gg rfl rfl (by decide)
  simp only[nmx,seval];exact VE.nil _
 ·kernel_rfl
 refine AU ?_;refine GP rfl ?_;refine E9 ?_;refine mX ?_;apply vrp
 ·apply VE.cons
  ·exact Ap rfl gg
  simp only[nmx,seval];apply VE.cons
  ·exact CJ rfl gg
  simp only[nmx,seval];exact VE.nil _
 ·kernel_rfl
 refine AU ?_;apply vrp
 ·apply VE.cons
  ·first|exact BD rfl gg rfl rfl underlying95 rfl sizeOf95 rfl rfl|exact A2 rfl gg rfl underlying95 rfl sizeOf95 (by assumption) rfl|exact Bi rfl gg rfl rfl underlying95 rfl sizeOf95 rfl
  simp only[nmx,seval];apply VE.cons
  ·exact Ap rfl gg
  simp only[nmx,seval];apply VE.cons
  ·exact DL (D:=G5 c) (ys:=[.nilIface]) [] rfl rfl gg rfl (eo func73) (fun ρ S w' hb hR=>IY (i:=0) w' (hL.bw hb) (A5 hc hb) (by decide) rfl (A5 hv hb) h8 hbl hrd)
  simp only[nmx,seval];apply VE.cons
  ·exact Ap rfl gg
  simp only[nmx,seval];apply VE.cons
  ·first|exact Cy rfl gg rfl rfl|exact C8 rfl gg rfl rfl
  simp only[nmx,seval];apply VE.cons
  ·first|exact Cy rfl gg rfl rfl|exact C8 rfl gg rfl rfl
  simp only[nmx,seval];apply VE.cons
  ·exact BZ rfl rfl gg zeroValue34
  simp only[nmx,seval];apply VE.cons
  ·first|exact Bh (vl:=[.v (.int .i64 c.se),.v (.string (AB c.is)),.v (.string (AB c.su)),.v (.int .i64 c.fr),.v (.int .i64 c.to),.fn (AN 5) (.d 17),.v (.bool c.ca),.v (.int .i64 c.pa),.v (.int .i64 c.us)]) [17,6] rfl gg rfl rfl rfl sizeOf34 rfl (fun ρ S w' _ hR=>by obtain⟨kv,e,h⟩:=Nb (id:=17) hR (by simp) rfl;exact QL e h) rfl (by simp)|exact Bh (vl:=[.v (.int .i64 c.se),.v (.string (AB c.is)),.v (.string (AB c.su)),.v (.int .i64 c.fr),.v (.int .i64 c.to),.fn (AN 5) (.d 17),.v (.bool c.ca),.v (.int .i64 c.pa),.v (.int .i64 c.us)]) [17,4] rfl gg rfl rfl rfl sizeOf34 rfl (fun ρ S w' _ hR=>⟨DC _,by obtain⟨kv,e,h⟩:=Nb (id:=17) hR (by simp) rfl;exact(QL e h).2⟩) rfl (by simp)|exact Bh (vl:=[.v (.int .i64 c.se),.v (.string (AB c.is)),.v (.string (AB c.su)),.v (.int .i64 c.fr),.v (.int .i64 c.to),.fn (AN 5) (.d 17),.v (.bool c.ca),.v (.int .i64 c.pa),.v (.int .i64 c.us)]) [17,2] rfl gg rfl rfl rfl sizeOf34 rfl (fun ρ S w' _ hR=>⟨DC _,by obtain⟨kv,e,h⟩:=Nb (id:=17) hR (by simp) rfl;exact(QL e h).2⟩) rfl (by simp)|exact BA rfl gg rfl rfl rfl sizeOf34 rfl (by simp) rfl
  simp only[nmx,seval];apply VE.cons
  ·exact CJ rfl gg
  simp only[nmx,seval];exact VE.nil _
 ·kernel_rfl
 refine BP ?_;apply vrp
 ·apply VE.cons
  ·exact Ap rfl gg
  simp only[nmx,seval];apply VE.cons
  ·exact AK (c:= .bool true) rfl gg rfl rfl (fun w=>Gg _ w)
  simp only[nmx,seval];exact VE.nil _
 ·kernel_rfl
 refine EO ?_;apply vrp
 ·apply VE.cons
  ·first|exact BD rfl gg rfl rfl underlying95 rfl sizeOf95 rfl rfl|exact A2 rfl gg rfl underlying95 rfl sizeOf95 (by assumption) rfl|exact Bi rfl gg rfl rfl underlying95 rfl sizeOf95 rfl
  simp only[nmx,seval];apply VE.cons
  ·exact Ap rfl gg
  simp only[nmx,seval];apply VE.cons
  ·first|exact BD rfl gg rfl rfl underlying34 rfl sizeOf34 rfl rfl|exact A2 rfl gg rfl underlying34 rfl sizeOf34 (by assumption) rfl|exact Bi rfl gg rfl rfl underlying34 rfl sizeOf34 rfl
  simp only[nmx,seval];apply VE.cons
  ·exact Al (D:=Cp 0 7) [17] rfl rfl gg rfl (eo func74) (fun ρ S w' hb hR=>J1 17 _ hR (by simp) rfl (fun kv ca hca=>by cases ca with|true=>exact UL w' hx1 hx2 hn1 hn2 ht1 ht2|false=>exact UM w' hx1 hx2 hn1 hn2 ht1 ht2))
  simp only[nmx,seval];apply VE.cons
  ·exact CJ rfl gg
  simp only[nmx,seval];exact VE.nil _
 ·kernel_rfl
 refine BP ?_;apply vrp
 ·apply VE.cons
  ·exact Ap rfl gg
  simp only[nmx,seval];apply VE.cons
  ·exact Un rfl gg rfl rfl
  simp only[nmx,seval];exact VE.nil _
 ·kernel_rfl
 refine Fp ?_;refine GO ?_;refine BP ?_;apply vrp
 ·apply VE.cons
  ·exact Ap rfl gg
  simp only[nmx,seval];apply VE.cons
  ·exact H8 rfl gg rfl rfl
  simp only[nmx,seval];exact VE.nil _
 ·kernel_rfl
 refine E7 ?_;apply vrp
 ·apply VE.cons
  ·exact A6 rfl gg rfl qe
  simp only[nmx,seval];apply VE.cons
  ·exact Ap rfl gg
  simp only[nmx,seval];apply VE.cons
  ·first|exact Bh (vl:=[.v (.int .i64 c.se),.v (.string (AB c.is)),.v (.string (AB c.su)),.v (.int .i64 c.fr),.v (.int .i64 c.to),.fn (AN 5) (.d 17),.v (.bool c.ca),.v (.int .i64 c.pa),.v (.int .i64 c.us)]) [17,6] rfl gg rfl rfl rfl sizeOf34 rfl (fun ρ S w' _ hR=>by obtain⟨kv,e,h⟩:=Nb (id:=17) hR (by simp) rfl;exact QL e h) rfl (by simp)|exact Bh (vl:=[.v (.int .i64 c.se),.v (.string (AB c.is)),.v (.string (AB c.su)),.v (.int .i64 c.fr),.v (.int .i64 c.to),.fn (AN 5) (.d 17),.v (.bool c.ca),.v (.int .i64 c.pa),.v (.int .i64 c.us)]) [17,4] rfl gg rfl rfl rfl sizeOf34 rfl (fun ρ S w' _ hR=>⟨DC _,by obtain⟨kv,e,h⟩:=Nb (id:=17) hR (by simp) rfl;exact(QL e h).2⟩) rfl (by simp)|exact Bh (vl:=[.v (.int .i64 c.se),.v (.string (AB c.is)),.v (.string (AB c.su)),.v (.int .i64 c.fr),.v (.int .i64 c.to),.fn (AN 5) (.d 17),.v (.bool c.ca),.v (.int .i64 c.pa),.v (.int .i64 c.us)]) [17,2] rfl gg rfl rfl rfl sizeOf34 rfl (fun ρ S w' _ hR=>⟨DC _,by obtain⟨kv,e,h⟩:=Nb (id:=17) hR (by simp) rfl;exact(QL e h).2⟩) rfl (by simp)|exact BA rfl gg rfl rfl rfl sizeOf34 rfl (by simp) rfl
  simp only[nmx,seval];apply VE.cons
  ·exact CJ rfl gg
  simp only[nmx,seval];exact VE.nil _
 ·kernel_rfl
 refine Ci ?_;refine AD (Av results42 (Am rfl rfl underlying34 rfl sizeOf34 rfl) (AF rfl)) ?_;intro ρ w' hr;exact⟨_,rfl,FF 25 hr rfl,hr.1⟩
theorem UR{F:Nat→Prop}{c:Crt}(hL:Laid w)(hK:B6 w)(hH:CQ w)(hb1:7<w.heap.size)(hc:AO w cv 1 1 [vi] F)(hv:AO w vi bi.length 1 (bi.map b8) G')(h8: ∀x∈bi,x<256)(hbl:bi.length≤1048576)(hr1:AO w rv Rs.length 1 us' G)(hr2:A7 w G Rs us')(hrl:Rs.length≤1048576)(hr8: ∀b∈Rs,(∀x∈b,x<256)∧b.length≤1048576)(hrd:rdC bi=some (c,r,t))(hx1: ∀(p q:Operand) (w:World),(do eqGuard .and 3 p q (.int .i64 c.us) (.int .i64 1);binOp .and 3 (.int .i64 c.us) (.int .i64 1):Sem Value).run prog w= .ok (.int .i64 x1) w)(hx2: ∀(p q:Operand) (w:World),(do eqGuard .and 3 p q (.int .i64 c.us) (.int .i64 use);binOp .and 3 (.int .i64 c.us) (.int .i64 use):Sem Value).run prog w= .ok (.int .i64 x2) w)(hn1:decide (x1≠0)=true)(hn2:decide (x2≠0)=true)(ht1:decide (now<c.fr)=false)(ht2:decide (now>c.to)=false)(hany:Rs.any (rok now 0 c.is bi)=false):Calls prog 42 #[CHV cv rv now use] w fun e w'=> ∃u,e= .returned (.tuple #[CZ,u])∧Ae w w' u (Cp 0 8)∧Bw w w':=by
 have hs:=iG h8 hbl hrd
 go_enter func42,ntmps42
 refine Cg ?_;apply vrp
 ·apply VE.cons
  ·exact G3 rfl rfl gg rfl
  simp only[nmx,seval];apply VE.cons
  ·exact BZ rfl rfl gg zeroValue34
  simp only[nmx,seval];apply VE.cons
  ·exact CJ rfl gg
  simp only[nmx,seval];exact VE.nil _
 ·kernel_rfl
 refine AU ?_;apply vrp
 ·apply VE.cons
  ·exact BZ rfl rfl gg zeroValue34
  simp only[nmx,seval];exact VE.nil _
 ·kernel_rfl
 refine BP ?_;apply vrp
 ·apply VE.cons
  ·first|exact BG rfl gg rfl underlying95 rfl sizeOf43|exact BF rfl gg rfl underlying95 rfl sizeOf43
  simp only[nmx,seval];apply VE.cons
  ·first|exact BK rfl gg rfl rfl underlying43 rfl rfl|exact BR rfl gg rfl underlying43 rfl (by assumption)
  simp only[nmx,seval];apply VE.cons
  ·exact BU rfl gg rfl underlying43 (AW hc)
  simp only[nmx,seval];apply VE.cons
  ·exact Ap rfl gg
  simp only[nmx,seval];exact VE.nil _
 ·kernel_rfl
 refine FH ?_;refine Br 2 ?_;refine AU ?_;apply vrp
 ·apply VE.cons
  ·exact BM (p:=true) rfl gg rfl rfl (by decide)
  simp only[nmx,seval];exact VE.nil _
 ·kernel_rfl
 refine AU ?_;refine GP rfl ?_;refine E9 ?_;refine mX ?_;apply vrp
 ·apply VE.cons
  ·exact Ap rfl gg
  simp only[nmx,seval];apply VE.cons
  ·exact CJ rfl gg
  simp only[nmx,seval];exact VE.nil _
 ·kernel_rfl
 refine AU ?_;apply vrp
 ·apply VE.cons
  ·first|exact BD rfl gg rfl rfl underlying95 rfl sizeOf95 rfl rfl|exact A2 rfl gg rfl underlying95 rfl sizeOf95 (by assumption) rfl|exact Bi rfl gg rfl rfl underlying95 rfl sizeOf95 rfl
  simp only[nmx,seval];apply VE.cons
  ·exact Ap rfl gg
  simp only[nmx,seval];apply VE.cons
  ·exact DL (D:=G5 c) (ys:=[.nilIface]) [] rfl rfl gg rfl (eo func73) (fun ρ S w' hb hR=>IY (i:=0) w' (hL.bw hb) (A5 hc hb) (by decide) rfl (A5 hv hb) h8 hbl hrd)
  simp only[nmx,seval];apply VE.cons
  ·exact Ap rfl gg
  simp only[nmx,seval];apply VE.cons
  ·first|exact Cy rfl gg rfl rfl|exact C8 rfl gg rfl rfl
  simp only[nmx,seval];apply VE.cons
  ·first|exact Cy rfl gg rfl rfl|exact C8 rfl gg rfl rfl
  simp only[nmx,seval];apply VE.cons
  ·exact BZ rfl rfl gg zeroValue34
  simp only[nmx,seval];apply VE.cons
  ·first|exact Bh (vl:=[.v (.int .i64 c.se),.v (.string (AB c.is)),.v (.string (AB c.su)),.v (.int .i64 c.fr),.v (.int .i64 c.to),.fn (AN 5) (.d 17),.v (.bool c.ca),.v (.int .i64 c.pa),.v (.int .i64 c.us)]) [17,6] rfl gg rfl rfl rfl sizeOf34 rfl (fun ρ S w' _ hR=>by obtain⟨kv,e,h⟩:=Nb (id:=17) hR (by simp) rfl;exact QL e h) rfl (by simp)|exact Bh (vl:=[.v (.int .i64 c.se),.v (.string (AB c.is)),.v (.string (AB c.su)),.v (.int .i64 c.fr),.v (.int .i64 c.to),.fn (AN 5) (.d 17),.v (.bool c.ca),.v (.int .i64 c.pa),.v (.int .i64 c.us)]) [17,4] rfl gg rfl rfl rfl sizeOf34 rfl (fun ρ S w' _ hR=>⟨DC _,by obtain⟨kv,e,h⟩:=Nb (id:=17) hR (by simp) rfl;exact(QL e h).2⟩) rfl (by simp)|exact Bh (vl:=[.v (.int .i64 c.se),.v (.string (AB c.is)),.v (.string (AB c.su)),.v (.int .i64 c.fr),.v (.int .i64 c.to),.fn (AN 5) (.d 17),.v (.bool c.ca),.v (.int .i64 c.pa),.v (.int .i64 c.us)]) [17,2] rfl gg rfl rfl rfl sizeOf34 rfl (fun ρ S w' _ hR=>⟨DC _,by obtain⟨kv,e,h⟩:=Nb (id:=17) hR (by simp) rfl;exact(QL e h).2⟩) rfl (by simp)|exact BA rfl gg rfl rfl rfl sizeOf34 rfl (by simp) rfl
  simp only[nmx,seval];apply VE.cons
  ·exact CJ rfl gg
  simp only[nmx,seval];exact VE.nil _
 ·kernel_rfl
 refine BP ?_;apply vrp
 ·apply VE.cons
  ·exact Ap rfl gg
  simp only[nmx,seval];apply VE.cons
  ·exact AK (c:= .bool true) rfl gg rfl rfl (fun w=>Gg _ w)
  simp only[nmx,seval];exact VE.nil _
 ·kernel_rfl
 refine EO ?_;apply vrp
 ·apply VE.cons
  ·first|exact BD rfl gg rfl rfl underlying95 rfl sizeOf95 rfl rfl|exact A2 rfl gg rfl underlying95 rfl sizeOf95 (by assumption) rfl|exact Bi rfl gg rfl rfl underlying95 rfl sizeOf95 rfl
  simp only[nmx,seval];apply VE.cons
  ·exact Ap rfl gg
  simp only[nmx,seval];apply VE.cons
  ·first|exact BD rfl gg rfl rfl underlying34 rfl sizeOf34 rfl rfl|exact A2 rfl gg rfl underlying34 rfl sizeOf34 (by assumption) rfl|exact Bi rfl gg rfl rfl underlying34 rfl sizeOf34 rfl
  simp only[nmx,seval];apply VE.cons
  ·exact Aj (v:= .nilIface) [17] rfl gg rfl (eo func74) (fun ρ S w' hb hR=>J1 17 _ hR (by simp) rfl (fun kv ca hca=>by cases ca with|true=>exact Ml w' hx1 hx2 hn1 hn2 ht1 ht2|false=>exact Mm w' hx1 hx2 hn1 hn2 ht1 ht2))
  simp only[nmx,seval];apply VE.cons
  ·exact CJ rfl gg
  simp only[nmx,seval];exact VE.nil _
 ·kernel_rfl
 refine BP ?_;apply vrp
 ·apply VE.cons
  ·exact Ap rfl gg
  simp only[nmx,seval];apply VE.cons
  ·exact AK (c:= .bool true) rfl gg rfl rfl (fun w=>Gg _ w)
  simp only[nmx,seval];exact VE.nil _
 ·kernel_rfl
 refine EO ?_;apply vrp
 ·apply VE.cons
  ·first|exact BD rfl gg rfl rfl underlying95 rfl sizeOf95 rfl rfl|exact A2 rfl gg rfl underlying95 rfl sizeOf95 (by assumption) rfl|exact Bi rfl gg rfl rfl underlying95 rfl sizeOf95 rfl
  simp only[nmx,seval];apply VE.cons
  ·exact Ap rfl gg
  simp only[nmx,seval];apply VE.cons
  ·first|exact BD rfl gg rfl rfl underlying34 rfl sizeOf34 rfl rfl|exact A2 rfl gg rfl underlying34 rfl sizeOf34 (by assumption) rfl|exact Bi rfl gg rfl rfl underlying34 rfl sizeOf34 rfl
  simp only[nmx,seval];apply VE.cons
  ·exact Al (D:=Cp 0 8) [17] rfl rfl gg rfl (eo func75) (fun ρ S w' hb hR=>M1 17 _ hR (by simp) rfl (fun kv=>Se (i:=0) (n:=1) w' (hL.bw hb) (hK.bw hb) (hH.bw hb) (Nat.lt_of_lt_of_le hb1 (Below.size hb)) (A5 hc hb) (by decide) (by decide) rfl (A5 hv hb) h8 hbl hs.2.1.i8 (A5 hr1 hb) (FB hb hr2) hrl hr8 rfl hany))
  simp only[nmx,seval];apply VE.cons
  ·exact CJ rfl gg
  simp only[nmx,seval];exact VE.nil _
 ·kernel_rfl
 refine BP ?_;apply vrp
 ·apply VE.cons
  ·exact Ap rfl gg
  simp only[nmx,seval];apply VE.cons
  ·exact H8 rfl gg rfl rfl
  simp only[nmx,seval];exact VE.nil _
 ·kernel_rfl
 refine E7 ?_;apply vrp
 ·apply VE.cons
  ·exact A6 rfl gg rfl qe
  simp only[nmx,seval];apply VE.cons
  ·exact Ap rfl gg
  simp only[nmx,seval];apply VE.cons
  ·first|exact Bh (vl:=[.v (.int .i64 c.se),.v (.string (AB c.is)),.v (.string (AB c.su)),.v (.int .i64 c.fr),.v (.int .i64 c.to),.fn (AN 5) (.d 17),.v (.bool c.ca),.v (.int .i64 c.pa),.v (.int .i64 c.us)]) [17,6] rfl gg rfl rfl rfl sizeOf34 rfl (fun ρ S w' _ hR=>by obtain⟨kv,e,h⟩:=Nb (id:=17) hR (by simp) rfl;exact QL e h) rfl (by simp)|exact Bh (vl:=[.v (.int .i64 c.se),.v (.string (AB c.is)),.v (.string (AB c.su)),.v (.int .i64 c.fr),.v (.int .i64 c.to),.fn (AN 5) (.d 17),.v (.bool c.ca),.v (.int .i64 c.pa),.v (.int .i64 c.us)]) [17,4] rfl gg rfl rfl rfl sizeOf34 rfl (fun ρ S w' _ hR=>⟨DC _,by obtain⟨kv,e,h⟩:=Nb (id:=17) hR (by simp) rfl;exact(QL e h).2⟩) rfl (by simp)|exact Bh (vl:=[.v (.int .i64 c.se),.v (.string (AB c.is)),.v (.string (AB c.su)),.v (.int .i64 c.fr),.v (.int .i64 c.to),.fn (AN 5) (.d 17),.v (.bool c.ca),.v (.int .i64 c.pa),.v (.int .i64 c.us)]) [17,2] rfl gg rfl rfl rfl sizeOf34 rfl (fun ρ S w' _ hR=>⟨DC _,by obtain⟨kv,e,h⟩:=Nb (id:=17) hR (by simp) rfl;exact(QL e h).2⟩) rfl (by simp)|exact BA rfl gg rfl rfl rfl sizeOf34 rfl (by simp) rfl
  simp only[nmx,seval];apply VE.cons
  ·exact CJ rfl gg
  simp only[nmx,seval];exact VE.nil _
 ·kernel_rfl
 refine Ci ?_;refine AD (Av results42 (Am rfl rfl underlying34 rfl sizeOf34 rfl) (AF rfl)) ?_;intro ρ w' hr;exact⟨_,rfl,FF 31 hr rfl,hr.1⟩
def DU(w:World):Prop:=w.cell? ⟨0,0,none⟩=some (.iface 229 (.agg #[.pointer (some ⟨11,92,none⟩)]))
theorem DU.bw{w w':World}(h:DU w)(hb1:7<w.heap.size)(hb:Bw w w'):DU w':=
 (Below.cell hb (p:=⟨0,0,none⟩) (show 0<w.heap.size by omega)).trans h
theorem My{w:World}{base:Nat}{m:Mem}{a e:Int}(id:Nat)(hE:DU w)(hR:RelOn base ρ S w (restr rd m))(hid:id∈rd)(hm:m id=some (.dat (Cp a e))):
 Calls prog 43 (SV.cs ρ [.d id]).toArray w fun ev w'=>ev= .returned (.tuple #[.int .i64 a,.int .i64 e])∧Bw w w':=by
 obtain⟨p,q,h1,h2,h3⟩:=J0 hR hid hm;have e1:SV.cs ρ [.d id]=[.iface 130 (.pointer (some ⟨p,0,none⟩))]:=by simp only[SV.cs,SV.c,h1]
 rw[e1];exact OH p q a e w h2 h3 hE
theorem J4(p q:Option Addr)(a b c d:Nat)(x y:Int):prog.built 95 [(0,.slice p a b),(1,.slice q c d),(2,.int .i64 x),(3,.int .i64 y)]=some #[.slice p a b,.slice q c d,.int .i64 x,.int .i64 y]:=by kernel_rfl
theorem N9{F:Nat→Prop}{c:Crt}(hL:Laid w)(hK:B6 w)(hH:CQ w)(hb1:7<w.heap.size)(hc:AO w cv 1 1 [vi] F)(hv:AO w vi bi.length 1 (bi.map b8) G')(h8: ∀x∈bi,x<256)(hbl:bi.length≤1048576)(_hE:DU w)(hr1:AO w rv Rs.length 1 us' G)(hr2:A7 w G Rs us')(hrl:Rs.length≤1048576)(hr8: ∀b∈Rs,(∀x∈b,x<256)∧b.length≤1048576)(hrd:rdC bi=some (c,r,t))(hx1: ∀(p q:Operand) (w:World),(do eqGuard .and 3 p q (.int .i64 c.us) (.int .i64 1);binOp .and 3 (.int .i64 c.us) (.int .i64 1):Sem Value).run prog w= .ok (.int .i64 x1) w)(hx2: ∀(p q:Operand) (w:World),(do eqGuard .and 3 p q (.int .i64 c.us) (.int .i64 4);binOp .and 3 (.int .i64 c.us) (.int .i64 4):Sem Value).run prog w= .ok (.int .i64 x2) w)(hn1:decide (x1≠0)=true)(hn2:decide (x2≠0)=true)(ht1:decide (now<c.fr)=false)(ht2:decide (now>c.to)=false)(hany:Rs.any (rok now 0 c.is bi)=true):Calls prog 18 #[cv,rv,.int .i64 now,.int .i64 4] w fun e w'=> ∃u,e= .returned (.tuple #[u,.int .i64 0,.int .i64 0])∧Ae w w' u (G5 c)∧Bw w w':=by
 have hc':=hc;have hr1':=hr1;obtain⟨ao,cap,ecv,_⟩:=hc;obtain⟨ao2,cap2,erv,_⟩:=hr1;subst ecv erv
 go_enter func18,ntmps18
 refine Cg ?_;apply vrp
 ·apply VE.cons
  ·exact BZ rfl rfl gg zeroValue34
  simp only[nmx,seval];apply VE.cons
  ·exact CJ rfl gg
  simp only[nmx,seval];apply VE.cons
  ·exact CJ rfl gg
  simp only[nmx,seval];exact VE.nil _
 ·kernel_rfl
 refine BP ?_;apply vrp
 ·apply VE.cons
  ·exact Ap rfl gg
  simp only[nmx,seval];apply VE.cons
  ·exact BU rfl gg rfl underlying43 (AW hc')
  simp only[nmx,seval];apply VE.cons
  ·exact BM (p:=false) rfl gg rfl rfl (by decide)
  simp only[nmx,seval];apply VE.cons
  ·exact Ap rfl gg
  simp only[nmx,seval];apply VE.cons
  ·first|exact Ev.skip (fun _=>rfl)|exact Ap rfl (fun _=>rfl)
  simp only[nmx,seval];apply VE.cons
  ·first|exact Ev.skip (fun _=>rfl)|exact BU rfl (fun _=>rfl) rfl underlying43 (AW hc')
  simp only[nmx,seval];apply VE.cons
  ·first|exact Ev.skip (fun _=>rfl)|exact BV (p:=false) rfl (fun _=>rfl) rfl rfl (by decide)
  simp only[nmx,seval];apply VE.cons
  ·first|exact CY rfl gg rfl rfl|exact Ca rfl gg rfl rfl
  simp only[nmx,seval];apply VE.cons
  ·exact Ap rfl gg
  simp only[nmx,seval];apply VE.cons
  ·first|exact Ev.skip (fun _=>rfl)|exact Ap rfl (fun _=>rfl)
  simp only[nmx,seval];apply VE.cons
  ·first|exact Ev.skip (fun _=>rfl)|exact BB (p:=false) rfl (fun _=>rfl) rfl rfl (by decide)
  simp only[nmx,seval];apply VE.cons
  ·first|exact Ev.skip (fun _=>rfl)|exact Ap rfl (fun _=>rfl)
  simp only[nmx,seval];apply VE.cons
  ·first|exact Ev.skip (fun _=>rfl)|exact Ap rfl (fun _=>rfl)
  simp only[nmx,seval];apply VE.cons
  ·first|exact Ev.skip (fun _=>rfl)|exact BB (p:=true) rfl (fun _=>rfl) rfl rfl (by decide)
  simp only[nmx,seval];apply VE.cons
  ·first|exact Ev.skip (fun _=>rfl)|exact CY rfl (fun _=>rfl) rfl rfl|exact Ca rfl (fun _=>rfl) rfl rfl
  simp only[nmx,seval];apply VE.cons
  ·first|exact CY rfl gg rfl rfl|exact Ca rfl gg rfl rfl
  simp only[nmx,seval];exact VE.nil _
 ·kernel_rfl
 refine Cx ?_;apply vrp
 ·apply VE.cons
  ·exact Ap rfl gg
  simp only[nmx,seval];apply VE.cons
  ·exact Ap rfl gg
  simp only[nmx,seval];apply VE.cons
  ·exact Ap rfl gg
  simp only[nmx,seval];apply VE.cons
  ·exact Ap rfl gg
  simp only[nmx,seval];apply VE.cons
  ·exact A6 rfl gg rfl (J4 _ _ _ _ _ _ _ _)
  simp only[nmx,seval];apply VE.cons
  ·exact DL (D:=G5 c) (ys:=[.nilIface]) [] rfl rfl gg rfl (eo func42) (fun ρ S w' hb hR=>UP w' (hL.bw hb) (hK.bw hb) (hH.bw hb) (Nat.lt_of_lt_of_le hb1 (Below.size hb)) (A5 hc' hb) (A5 hv hb) h8 hbl (A5 hr1' hb) (FB hb hr2) hrl hr8 hrd hx1 hx2 hn1 hn2 ht1 ht2 hany)
  simp only[nmx,seval];apply VE.cons
  ·exact Ap rfl gg
  simp only[nmx,seval];apply VE.cons
  ·first|exact Cy rfl gg rfl rfl|exact C8 rfl gg rfl rfl
  simp only[nmx,seval];apply VE.cons
  ·first|exact Cy rfl gg rfl rfl|exact C8 rfl gg rfl rfl
  simp only[nmx,seval];apply VE.cons
  ·exact BZ rfl rfl gg zeroValue34
  simp only[nmx,seval];apply VE.cons
  ·first|exact Bh (vl:=[.v (.int .i64 c.se),.v (.string (AB c.is)),.v (.string (AB c.su)),.v (.int .i64 c.fr),.v (.int .i64 c.to),.fn (AN 5) (.d 38),.v (.bool c.ca),.v (.int .i64 c.pa),.v (.int .i64 c.us)]) [38,11] rfl gg rfl rfl rfl sizeOf34 rfl (fun ρ S w' _ hR=>by obtain⟨kv,e,h⟩:=Nb (id:=38) hR (by simp) rfl;exact QL e h) rfl (by simp)|exact Bh (vl:=[.v (.int .i64 c.se),.v (.string (AB c.is)),.v (.string (AB c.su)),.v (.int .i64 c.fr),.v (.int .i64 c.to),.fn (AN 5) (.d 38),.v (.bool c.ca),.v (.int .i64 c.pa),.v (.int .i64 c.us)]) [38,8] rfl gg rfl rfl rfl sizeOf34 rfl (fun ρ S w' _ hR=>⟨DC _,by obtain⟨kv,e,h⟩:=Nb (id:=38) hR (by simp) rfl;exact(QL e h).2⟩) rfl (by simp)|exact BA rfl gg rfl rfl rfl sizeOf34 rfl (by simp) rfl
  simp only[nmx,seval];apply VE.cons
  ·exact CJ rfl gg
  simp only[nmx,seval];exact VE.nil _
 ·kernel_rfl
 refine BP ?_;apply vrp
 ·apply VE.cons
  ·exact Ap rfl gg
  simp only[nmx,seval];apply VE.cons
  ·exact AK (c:= .bool false) rfl gg rfl rfl (fun w=>L9 _ w)
  simp only[nmx,seval];exact VE.nil _
 ·kernel_rfl
 refine Cx ?_;apply vrp
 ·apply VE.cons
  ·first|exact BD rfl gg rfl rfl underlying34 rfl sizeOf34 rfl rfl|exact A2 rfl gg rfl underlying34 rfl sizeOf34 (by assumption) rfl|exact Bi rfl gg rfl rfl underlying34 rfl sizeOf34 rfl
  simp only[nmx,seval];apply VE.cons
  ·first|exact Bh (vl:=[.v (.int .i64 c.se),.v (.string (AB c.is)),.v (.string (AB c.su)),.v (.int .i64 c.fr),.v (.int .i64 c.to),.fn (AN 5) (.d 38),.v (.bool c.ca),.v (.int .i64 c.pa),.v (.int .i64 c.us)]) [38,11] rfl gg rfl rfl rfl sizeOf34 rfl (fun ρ S w' _ hR=>by obtain⟨kv,e,h⟩:=Nb (id:=38) hR (by simp) rfl;exact QL e h) rfl (by simp)|exact Bh (vl:=[.v (.int .i64 c.se),.v (.string (AB c.is)),.v (.string (AB c.su)),.v (.int .i64 c.fr),.v (.int .i64 c.to),.fn (AN 5) (.d 38),.v (.bool c.ca),.v (.int .i64 c.pa),.v (.int .i64 c.us)]) [38,8] rfl gg rfl rfl rfl sizeOf34 rfl (fun ρ S w' _ hR=>⟨DC _,by obtain⟨kv,e,h⟩:=Nb (id:=38) hR (by simp) rfl;exact(QL e h).2⟩) rfl (by simp)|exact BA rfl gg rfl rfl rfl sizeOf34 rfl (by simp) rfl
  simp only[nmx,seval];apply VE.cons
  ·exact CJ rfl gg
  simp only[nmx,seval];apply VE.cons
  ·exact CJ rfl gg
  simp only[nmx,seval];exact VE.nil _
 ·kernel_rfl
 refine Ci ?_;refine AD (BX results18 (Am rfl rfl underlying34 rfl sizeOf34 rfl) (AF rfl) (AF rfl)) ?_;intro ρ w' hr;exact⟨_,rfl,gR 38 hr rfl,hr.1⟩
theorem XN{F:Nat→Prop}{c:Crt}(hL:Laid w)(hK:B6 w)(hH:CQ w)(hb1:7<w.heap.size)(hc:AO w cv 1 1 [vi] F)(hv:AO w vi bi.length 1 (bi.map b8) G')(h8: ∀x∈bi,x<256)(hbl:bi.length≤1048576)(hE:DU w)(hr1:AO w rv Rs.length 1 us' G)(hr2:A7 w G Rs us')(hrl:Rs.length≤1048576)(hr8: ∀b∈Rs,(∀x∈b,x<256)∧b.length≤1048576)(hrd:rdC bi=some (c,r,t))(hx1: ∀(p q:Operand) (w:World),(do eqGuard .and 3 p q (.int .i64 c.us) (.int .i64 1);binOp .and 3 (.int .i64 c.us) (.int .i64 1):Sem Value).run prog w= .ok (.int .i64 x1) w)(hx2: ∀(p q:Operand) (w:World),(do eqGuard .and 3 p q (.int .i64 c.us) (.int .i64 4);binOp .and 3 (.int .i64 c.us) (.int .i64 4):Sem Value).run prog w= .ok (.int .i64 x2) w)(hn1:decide (x1≠0)=true)(hn2:decide (x2≠0)=true)(ht1:decide (now<c.fr)=false)(ht2:decide (now>c.to)=true):Calls prog 18 #[cv,rv,.int .i64 now,.int .i64 4] w fun e w'=>e= .returned (.tuple #[CZ,.int .i64 0,.int .i64 7])∧Bw w w':=by
 have hc':=hc;have hr1':=hr1;obtain⟨ao,cap,ecv,_⟩:=hc;obtain⟨ao2,cap2,erv,_⟩:=hr1;subst ecv erv
 go_enter func18,ntmps18
 refine Cg ?_;apply vrp
 ·apply VE.cons
  ·exact BZ rfl rfl gg zeroValue34
  simp only[nmx,seval];apply VE.cons
  ·exact CJ rfl gg
  simp only[nmx,seval];apply VE.cons
  ·exact CJ rfl gg
  simp only[nmx,seval];exact VE.nil _
 ·kernel_rfl
 refine BP ?_;apply vrp
 ·apply VE.cons
  ·exact Ap rfl gg
  simp only[nmx,seval];apply VE.cons
  ·exact BU rfl gg rfl underlying43 (AW hc')
  simp only[nmx,seval];apply VE.cons
  ·exact BM (p:=false) rfl gg rfl rfl (by decide)
  simp only[nmx,seval];apply VE.cons
  ·exact Ap rfl gg
  simp only[nmx,seval];apply VE.cons
  ·first|exact Ev.skip (fun _=>rfl)|exact Ap rfl (fun _=>rfl)
  simp only[nmx,seval];apply VE.cons
  ·first|exact Ev.skip (fun _=>rfl)|exact BU rfl (fun _=>rfl) rfl underlying43 (AW hc')
  simp only[nmx,seval];apply VE.cons
  ·first|exact Ev.skip (fun _=>rfl)|exact BV (p:=false) rfl (fun _=>rfl) rfl rfl (by decide)
  simp only[nmx,seval];apply VE.cons
  ·first|exact CY rfl gg rfl rfl|exact Ca rfl gg rfl rfl
  simp only[nmx,seval];apply VE.cons
  ·exact Ap rfl gg
  simp only[nmx,seval];apply VE.cons
  ·first|exact Ev.skip (fun _=>rfl)|exact Ap rfl (fun _=>rfl)
  simp only[nmx,seval];apply VE.cons
  ·first|exact Ev.skip (fun _=>rfl)|exact BB (p:=false) rfl (fun _=>rfl) rfl rfl (by decide)
  simp only[nmx,seval];apply VE.cons
  ·first|exact Ev.skip (fun _=>rfl)|exact Ap rfl (fun _=>rfl)
  simp only[nmx,seval];apply VE.cons
  ·first|exact Ev.skip (fun _=>rfl)|exact Ap rfl (fun _=>rfl)
  simp only[nmx,seval];apply VE.cons
  ·first|exact Ev.skip (fun _=>rfl)|exact BB (p:=true) rfl (fun _=>rfl) rfl rfl (by decide)
  simp only[nmx,seval];apply VE.cons
  ·first|exact Ev.skip (fun _=>rfl)|exact CY rfl (fun _=>rfl) rfl rfl|exact Ca rfl (fun _=>rfl) rfl rfl
  simp only[nmx,seval];apply VE.cons
  ·first|exact CY rfl gg rfl rfl|exact Ca rfl gg rfl rfl
  simp only[nmx,seval];exact VE.nil _
 ·kernel_rfl
 refine Cx ?_;apply vrp
 ·apply VE.cons
  ·exact Ap rfl gg
  simp only[nmx,seval];apply VE.cons
  ·exact Ap rfl gg
  simp only[nmx,seval];apply VE.cons
  ·exact Ap rfl gg
  simp only[nmx,seval];apply VE.cons
  ·exact Ap rfl gg
  simp only[nmx,seval];apply VE.cons
  ·exact A6 rfl gg rfl (J4 _ _ _ _ _ _ _ _)
  simp only[nmx,seval];apply VE.cons
  ·exact Mn (D:=Cp 0 7) (y:=CZ) [] rfl rfl gg rfl (eo func42) (fun ρ S w' hb hR=>UN w' (hL.bw hb) (hK.bw hb) (hH.bw hb) (Nat.lt_of_lt_of_le hb1 (Below.size hb)) (A5 hc' hb) (A5 hv hb) h8 hbl (A5 hr1' hb) (FB hb hr2) hrl hr8 hrd hx1 hx2 hn1 hn2 ht1 ht2)
  simp only[nmx,seval];apply VE.cons
  ·exact Ap rfl gg
  simp only[nmx,seval];apply VE.cons
  ·first|exact Cy rfl gg rfl rfl|exact C8 rfl gg rfl rfl
  simp only[nmx,seval];apply VE.cons
  ·first|exact Cy rfl gg rfl rfl|exact C8 rfl gg rfl rfl
  simp only[nmx,seval];apply VE.cons
  ·exact BZ rfl rfl gg zeroValue34
  simp only[nmx,seval];apply VE.cons
  ·first|exact Bh (vl:=[.v (.int .i64 c.se),.v (.string (AB c.is)),.v (.string (AB c.su)),.v (.int .i64 c.fr),.v (.int .i64 c.to),.fn (AN 5) (.d 38),.v (.bool c.ca),.v (.int .i64 c.pa),.v (.int .i64 c.us)]) [38,11] rfl gg rfl rfl rfl sizeOf34 rfl (fun ρ S w' _ hR=>by obtain⟨kv,e,h⟩:=Nb (id:=38) hR (by simp) rfl;exact QL e h) rfl (by simp)|exact Bh (vl:=[.v (.int .i64 c.se),.v (.string (AB c.is)),.v (.string (AB c.su)),.v (.int .i64 c.fr),.v (.int .i64 c.to),.fn (AN 5) (.d 38),.v (.bool c.ca),.v (.int .i64 c.pa),.v (.int .i64 c.us)]) [38,8] rfl gg rfl rfl rfl sizeOf34 rfl (fun ρ S w' _ hR=>⟨DC _,by obtain⟨kv,e,h⟩:=Nb (id:=38) hR (by simp) rfl;exact(QL e h).2⟩) rfl (by simp)|exact BA rfl gg rfl rfl rfl sizeOf34 rfl (by simp) rfl
  simp only[nmx,seval];apply VE.cons
  ·exact CJ rfl gg
  simp only[nmx,seval];exact VE.nil _
 ·kernel_rfl
 refine BP ?_;apply vrp
 ·apply VE.cons
  ·exact Ap rfl gg
  simp only[nmx,seval];apply VE.cons
  ·exact H8 rfl gg rfl rfl
  simp only[nmx,seval];exact VE.nil _
 ·kernel_rfl
 refine E7 ?_;apply vrp
 ·apply VE.cons
  ·exact Ap rfl gg
  simp only[nmx,seval];apply VE.cons
  ·exact Aj (v:= .tuple #[.int .i64 0,.int .i64 7]) [38] rfl gg rfl (eo func43) (fun ρ S w' hb hR=>My 38 (hE.bw hb1 hb) hR (by simp) rfl)
  simp only[nmx,seval];apply VE.cons
  ·exact Ap rfl gg
  simp only[nmx,seval];apply VE.cons
  ·first|exact Cy rfl gg rfl rfl|exact C8 rfl gg rfl rfl
  simp only[nmx,seval];apply VE.cons
  ·first|exact Cy rfl gg rfl rfl|exact C8 rfl gg rfl rfl
  simp only[nmx,seval];apply VE.cons
  ·exact CJ rfl gg
  simp only[nmx,seval];apply VE.cons
  ·exact CJ rfl gg
  simp only[nmx,seval];exact VE.nil _
 ·kernel_rfl
 refine AU ?_;apply vrp
 ·apply VE.cons
  ·exact A6 rfl gg rfl qe
  simp only[nmx,seval];apply VE.cons
  ·exact Ap rfl gg
  simp only[nmx,seval];apply VE.cons
  ·exact Ap rfl gg
  simp only[nmx,seval];apply VE.cons
  ·first|exact Bh (vl:=[.v (.int .i64 c.se),.v (.string (AB c.is)),.v (.string (AB c.su)),.v (.int .i64 c.fr),.v (.int .i64 c.to),.fn (AN 5) (.d 38),.v (.bool c.ca),.v (.int .i64 c.pa),.v (.int .i64 c.us)]) [38,11] rfl gg rfl rfl rfl sizeOf34 rfl (fun ρ S w' _ hR=>by obtain⟨kv,e,h⟩:=Nb (id:=38) hR (by simp) rfl;exact QL e h) rfl (by simp)|exact Bh (vl:=[.v (.int .i64 c.se),.v (.string (AB c.is)),.v (.string (AB c.su)),.v (.int .i64 c.fr),.v (.int .i64 c.to),.fn (AN 5) (.d 38),.v (.bool c.ca),.v (.int .i64 c.pa),.v (.int .i64 c.us)]) [38,8] rfl gg rfl rfl rfl sizeOf34 rfl (fun ρ S w' _ hR=>⟨DC _,by obtain⟨kv,e,h⟩:=Nb (id:=38) hR (by simp) rfl;exact(QL e h).2⟩) rfl (by simp)|exact BA rfl gg rfl rfl rfl sizeOf34 rfl (by simp) rfl
  simp only[nmx,seval];apply VE.cons
  ·exact CJ rfl gg
  simp only[nmx,seval];apply VE.cons
  ·exact CJ rfl gg
  simp only[nmx,seval];exact VE.nil _
 ·kernel_rfl
 change VOk _ _ _ _ _;exact AG (AD (BX results18 (Ac rfl rfl underlying34 rfl sizeOf34 rfl rfl) (AF rfl) (AF rfl)) fun _ _ hr=>⟨rfl,hr.1⟩)
theorem XO{F:Nat→Prop}{c:Crt}(hL:Laid w)(hK:B6 w)(hH:CQ w)(hb1:7<w.heap.size)(hc:AO w cv 1 1 [vi] F)(hv:AO w vi bi.length 1 (bi.map b8) G')(h8: ∀x∈bi,x<256)(hbl:bi.length≤1048576)(hE:DU w)(hr1:AO w rv Rs.length 1 us' G)(hr2:A7 w G Rs us')(hrl:Rs.length≤1048576)(hr8: ∀b∈Rs,(∀x∈b,x<256)∧b.length≤1048576)(hrd:rdC bi=some (c,r,t))(hx1: ∀(p q:Operand) (w:World),(do eqGuard .and 3 p q (.int .i64 c.us) (.int .i64 1);binOp .and 3 (.int .i64 c.us) (.int .i64 1):Sem Value).run prog w= .ok (.int .i64 x1) w)(hx2: ∀(p q:Operand) (w:World),(do eqGuard .and 3 p q (.int .i64 c.us) (.int .i64 4);binOp .and 3 (.int .i64 c.us) (.int .i64 4):Sem Value).run prog w= .ok (.int .i64 x2) w)(hn1:decide (x1≠0)=true)(hn2:decide (x2≠0)=true)(ht1:decide (now<c.fr)=false)(ht2:decide (now>c.to)=false)(hany:Rs.any (rok now 0 c.is bi)=false):Calls prog 18 #[cv,rv,.int .i64 now,.int .i64 4] w fun e w'=>e= .returned (.tuple #[CZ,.int .i64 0,.int .i64 8])∧Bw w w':=by
 have hc':=hc;have hr1':=hr1;obtain⟨ao,cap,ecv,_⟩:=hc;obtain⟨ao2,cap2,erv,_⟩:=hr1;subst ecv erv
 go_enter func18,ntmps18
 refine Cg ?_;apply vrp
 ·apply VE.cons
  ·exact BZ rfl rfl gg zeroValue34
  simp only[nmx,seval];apply VE.cons
  ·exact CJ rfl gg
  simp only[nmx,seval];apply VE.cons
  ·exact CJ rfl gg
  simp only[nmx,seval];exact VE.nil _
 ·kernel_rfl
 refine BP ?_;apply vrp
 ·apply VE.cons
  ·exact Ap rfl gg
  simp only[nmx,seval];apply VE.cons
  ·exact BU rfl gg rfl underlying43 (AW hc')
  simp only[nmx,seval];apply VE.cons
  ·exact BM (p:=false) rfl gg rfl rfl (by decide)
  simp only[nmx,seval];apply VE.cons
  ·exact Ap rfl gg
  simp only[nmx,seval];apply VE.cons
  ·first|exact Ev.skip (fun _=>rfl)|exact Ap rfl (fun _=>rfl)
  simp only[nmx,seval];apply VE.cons
  ·first|exact Ev.skip (fun _=>rfl)|exact BU rfl (fun _=>rfl) rfl underlying43 (AW hc')
  simp only[nmx,seval];apply VE.cons
  ·first|exact Ev.skip (fun _=>rfl)|exact BV (p:=false) rfl (fun _=>rfl) rfl rfl (by decide)
  simp only[nmx,seval];apply VE.cons
  ·first|exact CY rfl gg rfl rfl|exact Ca rfl gg rfl rfl
  simp only[nmx,seval];apply VE.cons
  ·exact Ap rfl gg
  simp only[nmx,seval];apply VE.cons
  ·first|exact Ev.skip (fun _=>rfl)|exact Ap rfl (fun _=>rfl)
  simp only[nmx,seval];apply VE.cons
  ·first|exact Ev.skip (fun _=>rfl)|exact BB (p:=false) rfl (fun _=>rfl) rfl rfl (by decide)
  simp only[nmx,seval];apply VE.cons
  ·first|exact Ev.skip (fun _=>rfl)|exact Ap rfl (fun _=>rfl)
  simp only[nmx,seval];apply VE.cons
  ·first|exact Ev.skip (fun _=>rfl)|exact Ap rfl (fun _=>rfl)
  simp only[nmx,seval];apply VE.cons
  ·first|exact Ev.skip (fun _=>rfl)|exact BB (p:=true) rfl (fun _=>rfl) rfl rfl (by decide)
  simp only[nmx,seval];apply VE.cons
  ·first|exact Ev.skip (fun _=>rfl)|exact CY rfl (fun _=>rfl) rfl rfl|exact Ca rfl (fun _=>rfl) rfl rfl
  simp only[nmx,seval];apply VE.cons
  ·first|exact CY rfl gg rfl rfl|exact Ca rfl gg rfl rfl
  simp only[nmx,seval];exact VE.nil _
 ·kernel_rfl
 refine Cx ?_;apply vrp
 ·apply VE.cons
  ·exact Ap rfl gg
  simp only[nmx,seval];apply VE.cons
  ·exact Ap rfl gg
  simp only[nmx,seval];apply VE.cons
  ·exact Ap rfl gg
  simp only[nmx,seval];apply VE.cons
  ·exact Ap rfl gg
  simp only[nmx,seval];apply VE.cons
  ·exact A6 rfl gg rfl (J4 _ _ _ _ _ _ _ _)
  simp only[nmx,seval];apply VE.cons
  ·exact Mn (D:=Cp 0 8) (y:=CZ) [] rfl rfl gg rfl (eo func42) (fun ρ S w' hb hR=>UR w' (hL.bw hb) (hK.bw hb) (hH.bw hb) (Nat.lt_of_lt_of_le hb1 (Below.size hb)) (A5 hc' hb) (A5 hv hb) h8 hbl (A5 hr1' hb) (FB hb hr2) hrl hr8 hrd hx1 hx2 hn1 hn2 ht1 ht2 hany)
  simp only[nmx,seval];apply VE.cons
  ·exact Ap rfl gg
  simp only[nmx,seval];apply VE.cons
  ·first|exact Cy rfl gg rfl rfl|exact C8 rfl gg rfl rfl
  simp only[nmx,seval];apply VE.cons
  ·first|exact Cy rfl gg rfl rfl|exact C8 rfl gg rfl rfl
  simp only[nmx,seval];apply VE.cons
  ·exact BZ rfl rfl gg zeroValue34
  simp only[nmx,seval];apply VE.cons
  ·first|exact Bh (vl:=[.v (.int .i64 c.se),.v (.string (AB c.is)),.v (.string (AB c.su)),.v (.int .i64 c.fr),.v (.int .i64 c.to),.fn (AN 5) (.d 38),.v (.bool c.ca),.v (.int .i64 c.pa),.v (.int .i64 c.us)]) [38,11] rfl gg rfl rfl rfl sizeOf34 rfl (fun ρ S w' _ hR=>by obtain⟨kv,e,h⟩:=Nb (id:=38) hR (by simp) rfl;exact QL e h) rfl (by simp)|exact Bh (vl:=[.v (.int .i64 c.se),.v (.string (AB c.is)),.v (.string (AB c.su)),.v (.int .i64 c.fr),.v (.int .i64 c.to),.fn (AN 5) (.d 38),.v (.bool c.ca),.v (.int .i64 c.pa),.v (.int .i64 c.us)]) [38,8] rfl gg rfl rfl rfl sizeOf34 rfl (fun ρ S w' _ hR=>⟨DC _,by obtain⟨kv,e,h⟩:=Nb (id:=38) hR (by simp) rfl;exact(QL e h).2⟩) rfl (by simp)|exact BA rfl gg rfl rfl rfl sizeOf34 rfl (by simp) rfl
  simp only[nmx,seval];apply VE.cons
  ·exact CJ rfl gg
  simp only[nmx,seval];exact VE.nil _
 ·kernel_rfl
 refine BP ?_;apply vrp
 ·apply VE.cons
  ·exact Ap rfl gg
  simp only[nmx,seval];apply VE.cons
  ·exact H8 rfl gg rfl rfl
  simp only[nmx,seval];exact VE.nil _
 ·kernel_rfl
 refine E7 ?_;apply vrp
 ·apply VE.cons
  ·exact Ap rfl gg
  simp only[nmx,seval];apply VE.cons
  ·exact Aj (v:= .tuple #[.int .i64 0,.int .i64 8]) [38] rfl gg rfl (eo func43) (fun ρ S w' hb hR=>My 38 (hE.bw hb1 hb) hR (by simp) rfl)
  simp only[nmx,seval];apply VE.cons
  ·exact Ap rfl gg
  simp only[nmx,seval];apply VE.cons
  ·first|exact Cy rfl gg rfl rfl|exact C8 rfl gg rfl rfl
  simp only[nmx,seval];apply VE.cons
  ·first|exact Cy rfl gg rfl rfl|exact C8 rfl gg rfl rfl
  simp only[nmx,seval];apply VE.cons
  ·exact CJ rfl gg
  simp only[nmx,seval];apply VE.cons
  ·exact CJ rfl gg
  simp only[nmx,seval];exact VE.nil _
 ·kernel_rfl
 refine AU ?_;apply vrp
 ·apply VE.cons
  ·exact A6 rfl gg rfl qe
  simp only[nmx,seval];apply VE.cons
  ·exact Ap rfl gg
  simp only[nmx,seval];apply VE.cons
  ·exact Ap rfl gg
  simp only[nmx,seval];apply VE.cons
  ·first|exact Bh (vl:=[.v (.int .i64 c.se),.v (.string (AB c.is)),.v (.string (AB c.su)),.v (.int .i64 c.fr),.v (.int .i64 c.to),.fn (AN 5) (.d 38),.v (.bool c.ca),.v (.int .i64 c.pa),.v (.int .i64 c.us)]) [38,11] rfl gg rfl rfl rfl sizeOf34 rfl (fun ρ S w' _ hR=>by obtain⟨kv,e,h⟩:=Nb (id:=38) hR (by simp) rfl;exact QL e h) rfl (by simp)|exact Bh (vl:=[.v (.int .i64 c.se),.v (.string (AB c.is)),.v (.string (AB c.su)),.v (.int .i64 c.fr),.v (.int .i64 c.to),.fn (AN 5) (.d 38),.v (.bool c.ca),.v (.int .i64 c.pa),.v (.int .i64 c.us)]) [38,8] rfl gg rfl rfl rfl sizeOf34 rfl (fun ρ S w' _ hR=>⟨DC _,by obtain⟨kv,e,h⟩:=Nb (id:=38) hR (by simp) rfl;exact(QL e h).2⟩) rfl (by simp)|exact BA rfl gg rfl rfl rfl sizeOf34 rfl (by simp) rfl
  simp only[nmx,seval];apply VE.cons
  ·exact CJ rfl gg
  simp only[nmx,seval];apply VE.cons
  ·exact CJ rfl gg
  simp only[nmx,seval];exact VE.nil _
 ·kernel_rfl
 change VOk _ _ _ _ _;exact AG (AD (BX results18 (Ac rfl rfl underlying34 rfl sizeOf34 rfl rfl) (AF rfl) (AF rfl)) fun _ _ hr=>⟨rfl,hr.1⟩)
def E1:List (String×DataW Unit):=Rows.trustRootsRow.laid
theorem VN:prog.globalNamed "errors.errorType" =some 0:=by kernel_rfl
theorem VF:(prog.cutTypes.find? (·.1== "internal/reflectlite.rtype")).map (·.2)=some 229:=by kernel_rfl
theorem VI:((List.range 300).filter fun t=>prog.rowNamed t [101,114,114,111,114])=[92]:=by kernel_rfl
theorem U3:prog.types.size=300:=by kernel_rfl
theorem Mr:(E1.filter fun x=>x.2.handleName?.isNone)=FN:=by kernel_rfl
theorem Mo:(E1.filter fun x=>x.2.handleName?.isSome)=[("errors.errorType",Rows.laid_errors_errorType)]:=by kernel_rfl
theorem VM{W:World}(h:laidMetH prog E1 W):laidMetH prog FN W∧handlesMet prog [("errors.errorType",Rows.laid_errors_errorType)] W:=by
 unfold laidMetH at h;rw[Mo,Mr]at h;refine⟨?_,h.2⟩;unfold FN;rw[MakeChecks.laidMetH_plain _ _ _ (by kernel_rfl)];exact h.1
theorem Gf{W:World}(h:laidMetH prog E1 W):Laid W∧B6 W∧CQ W∧DU W∧7<W.heap.size:=by
 obtain⟨h1,h2⟩:=VM h;obtain⟨a,b,c,d⟩:=H9 h1;refine⟨a,b,c,?_,d⟩;obtain⟨name,u,ty,e1,e2,e3,e4,e5⟩:=h2 _ (List.mem_singleton.2 rfl);have en:name=[101,114,114,111,114]:=(Option.some.inj e1).symm;subst en;obtain rfl:=Option.some.inj (VF.symm.trans e2);have hm:ty∈(List.range 300).filter fun t=>prog.rowNamed t [101,114,114,111,114]:=List.mem_filter.2 ⟨List.mem_range.2 (by rw[←U3];exact e3),e4⟩
 rw[VI]at hm;obtain rfl:=List.mem_singleton.1 hm;have hh:typeHandle prog 92= .pointer (some ⟨11,92,none⟩):=by kernel_rfl
 rw[hh]at e5;have h0:=World.var?_cell VN e5 0;exact h0
noncomputable def Mk(os:Os):World:=
 let w0:=World.holding prog os ⟨#[],#[],[]⟩
 {w0 with heap:=w0.heap.modify 0 fun
  | .cells _ t frozen=> .cells #[.iface 229 (.agg #[.pointer (some ⟨11,92,none⟩)])] t frozen
  |o=>o}
noncomputable def Hk(os:Os):World:=(Mk os).layVars prog FN
theorem Sf(os:Os):(Hk os).os=os:=(World.layVars_os _ _ _).trans rfl
theorem Sg(os:Os)(args:Array Value):laidMetH prog E1 ((Hk os).forCall (fun _ _=>0) ⟨#[],args,[]⟩).memory:=by
 have e1:(FN.filter fun x=>(FN.map (·.1)).contains x.1)=FN:=List.filter_eq_self.2 fun x hx=>List.contains_iff_mem.2 (List.mem_map.2 ⟨x,hx,rfl⟩)
 have e2:(FN.filter fun x=> !(FN.map (·.1)).contains x.1)=[]:=List.filter_eq_nil_iff.2 fun x hx=>by rw[List.contains_iff_mem.2 (List.mem_map.2 ⟨x,hx,rfl⟩)];simp
 have h:laidMet prog FN (Hk os):=laidMet_layVars (w0:=Mk os) (FN.map (·.1)) [] (by rw[e1];rfl) (by rw[e1];kernel_rfl) (by rw[e1];kernel_rfl) (by rw[e2];exact LaidIn.none);refine laidMetH_of_parts ?_ ?_
 ·rw[Mr]
  exact h.of_heap (by simp[World.memory,World.forCall,Input.heap])
 ·rw[Mo]
  kernel_rfl
end Go.Proofs.YtafbhakmkbehiaaGreatDoor
