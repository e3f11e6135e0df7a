import Derived.Test.YtafbhakmkbehiaaGreatDoorY30
open Go.Proofs.Tryz
set_option maxHeartbeats 4000000
set_option maxRecDepth 100000
namespace Go.Proofs.YtafbhakmkbehiaaGreatDoor
open Go.RowKit Go.Vx
variable(w:World){bs ls:List Nat}{r t:Nat}{v:Value}
open TollMont
open Go.Toll (Gw)
open TollEc (F pp cb Jp Pt Au add base nn neg)
open TollSha (sha CH)
theorem rH(h:r<R):TollBy.beV (bl r) 0=r:=by
 have e:=G6 (EB r) (EZ r);have g: ∀n:Nat,bl n=(List.range 32).map (byt n):=fun _=>rfl
 refine bytes_inj (IX (EB r) (EZ r)) h fun i hi=> ?_
 have:=congrArg (fun l:List Nat=>l.getD i 0) e;simpa[g,List.getD,hi] using this
theorem VP(h:r<R):tbN (tN (bl r))=(bl r,0)∧tbB (tN (bl r))=r:=by
 have e:=eH (EB r);refine⟨e,?_⟩;rw[tbB,e];exact rH h
theorem WC(l:List Nat):Ak (tN l) 2=true:=
 WG (by decide) (by decide) (by show Ez (B2 l)=true;exact YG.1)
theorem Vo(r t:Nat):Ak (BH r t) 1=true:=by
 refine WF (by decide) (by decide) (by show 2≤20;decide) ?_;show(!Ak (tN (bl r)) 2||(!Ak (tN (bl t)) 2||false))=false;rw[WC,WC];rfl
theorem Vp(r t:Nat):(Aq (BH r t)).length≤2048:=Nat.le_trans (UP _) (by have:=Rm r t;omega)
theorem Vt(hr:r<R)(ht:t<R):sgT (wrT (BH r t)).1=some (r,t):=by
 rw[U3 (Vo r t) (Vp r t)];unfold sgT;rw[WX (Vo r t) (Vp r t)];show KA (BH r t)=_;have a:=VP hr;have b:=VP ht;simp only[BH,Bm,KA,H5,a.1,b.1,a.2,b.2];rfl
theorem oz(h:bs.length=64)(p q:Operand)(w:World):(do eqGuard .eql 22 p q (.agg (bs.map b8).toArray) (.agg (bs.map b8).toArray);binOp .eql 22 (.agg (bs.map b8).toArray) (.agg (bs.map b8).toArray):Sem Value).run prog w= .ok (.bool true) w:=by
 have h1: ∀d,(Op.equalIn (d+2) 22 (.agg (bs.map b8).toArray) (.agg (bs.map b8).toArray)).run prog w= .ok true w:=by
  intro d;have e:bs.map b8=(bs.map Int.ofNat).map (Value.int .u8):=by rw[List.map_map];rfl
  have h0:=Tz (k:= .u8) underlying5 d (bs.map Int.ofNat) (bs.map Int.ofNat) w (List.range 64) (by intro j hj;simp at *; omega);rw[run_equalIn_array w (d+1) _ _ underlying22 (i:=prog.types[5]) rfl,show prog.cellsOf 5=1 by kernel_rfl,e];rw[h0];congr 1
  exact List.all_eq_true.2 fun _ _=>beq_self_eq_true _
 generalize bs.map b8=L at h1
 go_simp
 try rw[h1]
 try simp[Result.andThen]
theorem eqS(r t:Nat)(p q:Operand)(w:World):(do eqGuard .eql 22 p q (PT r t) (PT r t);binOp .eql 22 (PT r t) (PT r t):Sem Value).run prog w= .ok (.bool true) w:=
 oz (bs:=bl r++bl t) (by rw[List.length_append,EB,EB]) p q w
theorem eqZ(p q:Operand)(w:World):(do eqGuard .eql 22 p q ZV ZV;binOp .eql 22 ZV ZV:Sem Value).run prog w= .ok (.bool true) w:=by
 rw[←PT0];exact eqS 0 0 p q w
theorem fF{F:Nat→Prop}(hr0:r<R)(ht0:t<R)(hv:AO w v bs.length 1 (bs.map b8) F)(_hb8: ∀x∈bs,x<256)(hL:Laid w)(hK:B6 w)(hH:CQ w)(hb1:7<w.heap.size){K:Nat}(hK0:min bs.length 100=K)(hKl:K≤bs.length)(hcut:AO w (Ay 0 K 1 v) ls.length 1 (ls.map b8) F)(l8: ∀x∈ls,x<256)(hlm:ls.length≤1048576)(hc:sgT ls=none):Calls prog 3 #[PT r t,v] w fun e w'=>e= .returned (.bool true)∧Bw w w':=by
 go_enter func3,ntmps3
 refine A4 ?_;refine Fl ?_;apply vrp
 ·apply VE.cons
  ·exact G3 rfl rfl gg rfl
  simp only[nmx,seval];apply VE.cons
  ·exact CJ rfl gg
  simp only[nmx,seval];exact VE.nil _
 ·kernel_rfl
 refine FP ?_;apply vrp
 ·apply VE.cons
  ·exact Ap rfl gg
  simp only[nmx,seval];apply VE.cons
  ·exact Ap rfl gg
  simp only[nmx,seval];apply VE.cons
  ·exact BU rfl gg rfl underlying23 (AW hv)
  simp only[nmx,seval];apply VE.cons
  ·exact HW (a:=bs.length) (b:=100) (c:=K) rfl gg rfl rfl hK0
  simp only[nmx,seval];apply VE.cons
  ·exact Fa (a:=0) (b:=K) (v':=Ay 0 K 1 v) rfl gg rfl underlying23 sizeOf5 (AW hv) rfl rfl (Nat.zero_le _) hKl rfl
  simp only[nmx,seval];apply VE.cons
  ·exact CJ rfl gg
  simp only[nmx,seval];exact VE.nil _
 ·kernel_rfl
 refine FP ?_;apply vrp
 ·apply VE.cons
  ·first|exact BD rfl gg rfl rfl underlying22 rfl sizeOf22 rfl rfl|exact A2 rfl gg rfl underlying22 rfl sizeOf22 (by assumption) rfl|exact Bi rfl gg rfl rfl underlying22 rfl sizeOf22 rfl
  simp only[nmx,seval];apply VE.cons
  ·exact Cs [] rfl rfl gg rfl (eo func7) (n:=(wrT (BH r t)).1.length) (size:=1) (l:=(wrT (BH r t)).1.map b8) (by simp) (fun ρ S w' hb hR=>Qi w')
  simp only[nmx,seval];apply VE.cons
  ·exact CJ rfl gg
  simp only[nmx,seval];exact VE.nil _
 ·kernel_rfl
 refine FP ?_;apply vrp
 ·apply VE.cons
  ·exact Ap rfl gg
  simp only[nmx,seval];apply VE.cons
  ·exact Aj (v:= .tuple #[PT r t,.int .i64 0]) [18] rfl gg rfl (eo func8) (fun ρ S w' hb hR=>by have a:=LU (b:=(wrT (BH r t)).1) w' (EH (id:=18) hR (by simp) rfl) (EE (HI r t)) (by have:=GN (BH r t);omega);rw[Vt hr0 ht0]at a;exact a)
  simp only[nmx,seval];apply VE.cons
  ·exact Ap rfl gg
  simp only[nmx,seval];apply VE.cons
  ·first|exact Cy rfl gg rfl rfl|exact C8 rfl gg rfl rfl
  simp only[nmx,seval];apply VE.cons
  ·first|exact Cy rfl gg rfl rfl|exact C8 rfl gg rfl rfl
  simp only[nmx,seval];apply VE.cons
  ·exact BZ rfl rfl gg zeroValue22
  simp only[nmx,seval];apply VE.cons
  ·exact BA rfl gg rfl rfl rfl sizeOf22 rfl (by simp) rfl
  simp only[nmx,seval];apply VE.cons
  ·exact CJ rfl gg
  simp only[nmx,seval];exact VE.nil _
 ·kernel_rfl
 refine FP ?_;apply vrp
 ·apply VE.cons
  ·exact Ap rfl gg
  simp only[nmx,seval];apply VE.cons
  ·exact Ad (v:= .tuple #[ZV,.int .i64 2]) rfl gg rfl (eo func8) (fun w' hw'=>by have a:=LU (b:=ls) w' (A5 hcut hw') l8 hlm;rw[hc]at a;exact a)
  simp only[nmx,seval];apply VE.cons
  ·exact Ap rfl gg
  simp only[nmx,seval];apply VE.cons
  ·first|exact Cy rfl gg rfl rfl|exact C8 rfl gg rfl rfl
  simp only[nmx,seval];apply VE.cons
  ·first|exact Cy rfl gg rfl rfl|exact C8 rfl gg rfl rfl
  simp only[nmx,seval];apply VE.cons
  ·exact BZ rfl rfl gg zeroValue22
  simp only[nmx,seval];apply VE.cons
  ·exact BA rfl gg rfl rfl rfl sizeOf22 rfl (by simp) rfl
  simp only[nmx,seval];apply VE.cons
  ·exact CJ rfl gg
  simp only[nmx,seval];exact VE.nil _
 ·kernel_rfl
 refine FP ?_;apply vrp
 ·apply VE.cons
  ·exact Ap rfl gg
  simp only[nmx,seval];apply VE.cons
  ·exact Cc (bs:=ls) rfl gg rfl underlying23 underlying5 underlying9 (AW hcut)
  simp only[nmx,seval];apply VE.cons
  ·exact Ad (v:= .tuple #[ZV,.bool false]) rfl gg rfl (eo func9) (fun w' hw'=>by have a:=Qj (b:=ls) w' l8 hlm;rw[hc]at a;exact a)
  simp only[nmx,seval];apply VE.cons
  ·exact Ap rfl gg
  simp only[nmx,seval];apply VE.cons
  ·first|exact Cy rfl gg rfl rfl|exact C8 rfl gg rfl rfl
  simp only[nmx,seval];apply VE.cons
  ·first|exact Cy rfl gg rfl rfl|exact C8 rfl gg rfl rfl
  simp only[nmx,seval];apply VE.cons
  ·exact BZ rfl rfl gg zeroValue22
  simp only[nmx,seval];apply VE.cons
  ·exact BA rfl gg rfl rfl rfl sizeOf22 rfl (by simp) rfl
  simp only[nmx,seval];apply VE.cons
  ·exact CJ rfl gg
  simp only[nmx,seval];exact VE.nil _
 ·kernel_rfl
 refine FP ?_;apply vrd (by kernel_rfl)
 ·apply VE.cons
  ·exact Ad (v:= .bool true) rfl gg rfl (eo func10) (fun w' hw'=>UC w' (hL.bw hw') (hK.bw hw') (hH.bw hw') (Nat.lt_of_lt_of_le hb1 hw'.size))
  simp only[nmx,seval];apply VE.cons
  ·exact Ap rfl gg
  simp only[nmx,seval];apply VE.cons
  ·first|exact Ev.skip (fun _=>rfl)|exact Ap rfl (fun _=>rfl)
  simp only[nmx,seval];apply VE.cons
  ·first|exact Ev.skip (fun _=>rfl)|exact Cc (bs:=(wrT (BH r t)).1) rfl (fun _=>rfl) rfl underlying23 underlying5 underlying9 (BI rfl)
  simp only[nmx,seval];apply VE.cons
  ·first|exact Ev.skip (fun _=>rfl)|exact BD rfl (fun _=>rfl) rfl rfl underlying22 rfl sizeOf22 rfl rfl|exact A2 rfl (fun _=>rfl) rfl underlying22 rfl sizeOf22 (by assumption) rfl|exact Bi rfl (fun _=>rfl) rfl rfl underlying22 rfl sizeOf22 rfl
  simp only[nmx,seval];apply VE.cons
  ·first|exact Ev.skip (fun _=>rfl)|exact Ad (v:= .string (AB (wrT (BH r t)).1)) rfl (fun _=>rfl) rfl (eo func11) (fun w' hw'=>R4 w')
  simp only[nmx,seval];apply VE.cons
  ·first|exact Ev.skip (fun _=>rfl)|exact AK (c:= .bool true) rfl (fun _=>rfl) rfl rfl (fun w=>E4 (a:=(wrT (BH r t)).1) (b:=(wrT (BH r t)).1) (p:=true) (by simp) (EE (HI r t)) (EE (HI r t)) _ _ w)
  simp only[nmx,seval];apply VE.cons
  ·first|exact CY rfl gg rfl rfl|exact Ca rfl gg rfl rfl
  simp only[nmx,seval];apply VE.cons
  ·exact Ap rfl gg
  simp only[nmx,seval];apply VE.cons
  ·first|exact Ev.skip (fun _=>rfl)|exact Ap rfl (fun _=>rfl)
  simp only[nmx,seval];apply VE.cons
  ·first|exact Ev.skip (fun _=>rfl)|exact Ag (p:=true) rfl (fun _=>rfl) rfl rfl (by decide)
  simp only[nmx,seval];apply VE.cons
  ·first|exact CY rfl gg rfl rfl|exact Ca rfl gg rfl rfl
  simp only[nmx,seval];apply VE.cons
  ·exact Ap rfl gg
  simp only[nmx,seval];apply VE.cons
  ·first|exact Ev.skip (fun _=>rfl)|exact BD rfl (fun _=>rfl) rfl rfl underlying22 rfl sizeOf22 rfl rfl|exact A2 rfl (fun _=>rfl) rfl underlying22 rfl sizeOf22 (by assumption) rfl|exact Bi rfl (fun _=>rfl) rfl rfl underlying22 rfl sizeOf22 rfl
  simp only[nmx,seval];apply VE.cons
  ·first|exact Ev.skip (fun _=>rfl)|exact BD rfl (fun _=>rfl) rfl rfl underlying22 rfl sizeOf22 rfl rfl|exact A2 rfl (fun _=>rfl) rfl underlying22 rfl sizeOf22 (by assumption) rfl|exact Bi rfl (fun _=>rfl) rfl rfl underlying22 rfl sizeOf22 rfl
  simp only[nmx,seval];apply VE.cons
  ·first|exact Ev.skip (fun _=>rfl)|exact AK (c:= .bool true) rfl (fun _=>rfl) rfl rfl (fun w=>eqS _ _ _ _ w)
  simp only[nmx,seval];apply VE.cons
  ·first|exact CY rfl gg rfl rfl|exact Ca rfl gg rfl rfl
  simp only[nmx,seval];apply VE.cons
  ·exact Ap rfl gg
  simp only[nmx,seval];apply VE.cons
  ·first|exact Ev.skip (fun _=>rfl)|exact Ap rfl (fun _=>rfl)
  simp only[nmx,seval];apply VE.cons
  ·first|exact Ev.skip (fun _=>rfl)|exact Ag (p:=false) rfl (fun _=>rfl) rfl rfl (by decide)
  simp only[nmx,seval];apply VE.cons
  ·first|exact Ev.skip (fun _=>rfl)|exact Ap rfl (fun _=>rfl)
  simp only[nmx,seval];apply VE.cons
  ·first|exact Ev.skip (fun _=>rfl)|exact AK (c:= .bool true) rfl (fun _=>rfl) rfl rfl (fun w=>T1 false false _ _ w)
  simp only[nmx,seval];apply VE.cons
  ·first|exact CY rfl gg rfl rfl|exact Ca rfl gg rfl rfl
  simp only[nmx,seval];apply VE.cons
  ·exact Ap rfl gg
  simp only[nmx,seval];apply VE.cons
  ·first|exact Ev.skip (fun _=>rfl)|exact Ap rfl (fun _=>rfl)
  simp only[nmx,seval];apply VE.cons
  ·first|exact Ev.skip (fun _=>rfl)|exact Ag (p:=false) rfl (fun _=>rfl) rfl rfl (by decide)
  simp only[nmx,seval];apply VE.cons
  ·first|exact Ev.skip (fun _=>rfl)|exact Ap rfl (fun _=>rfl)
  simp only[nmx,seval];apply VE.cons
  ·first|exact Ev.skip (fun _=>rfl)|exact Ap rfl (fun _=>rfl)
  simp only[nmx,seval];apply VE.cons
  ·first|exact Ev.skip (fun _=>rfl)|exact Ag (p:=true) rfl (fun _=>rfl) rfl rfl (by decide)
  simp only[nmx,seval];apply VE.cons
  ·first|exact Ev.skip (fun _=>rfl)|exact CY rfl (fun _=>rfl) rfl rfl|exact Ca rfl (fun _=>rfl) rfl rfl
  simp only[nmx,seval];apply VE.cons
  ·first|exact CY rfl gg rfl rfl|exact Ca rfl gg rfl rfl
  simp only[nmx,seval];apply VE.cons
  ·exact Ap rfl gg
  simp only[nmx,seval];apply VE.cons
  ·first|exact Ev.skip (fun _=>rfl)|exact BD rfl (fun _=>rfl) rfl rfl underlying22 rfl sizeOf22 rfl rfl|exact A2 rfl (fun _=>rfl) rfl underlying22 rfl sizeOf22 (by assumption) rfl|exact Bi rfl (fun _=>rfl) rfl rfl underlying22 rfl sizeOf22 rfl
  simp only[nmx,seval];apply VE.cons
  ·first|exact Ev.skip (fun _=>rfl)|exact BD rfl (fun _=>rfl) rfl rfl underlying22 rfl sizeOf22 rfl rfl|exact A2 rfl (fun _=>rfl) rfl underlying22 rfl sizeOf22 (by assumption) rfl|exact Bi rfl (fun _=>rfl) rfl rfl underlying22 rfl sizeOf22 rfl
  simp only[nmx,seval];apply VE.cons
  ·first|exact Ev.skip (fun _=>rfl)|exact AK (c:= .bool true) rfl (fun _=>rfl) rfl rfl (fun w=>eqZ _ _ w)
  simp only[nmx,seval];apply VE.cons
  ·first|exact CY rfl gg rfl rfl|exact Ca rfl gg rfl rfl
  simp only[nmx,seval];apply VE.cons
  ·exact CJ rfl gg
  simp only[nmx,seval];exact VE.nil _
 ·kernel_rfl
 change VOk _ _ _ _ _;exact AG (AD (AH results3 (AF rfl)) fun _ _ hr=>⟨rfl,hr.1⟩)
theorem fE{F:Nat→Prop}(hr0:r<R)(ht0:t<R)(hv:AO w v bs.length 1 (bs.map b8) F)(_hb8: ∀x∈bs,x<256)(hL:Laid w)(hK:B6 w)(hH:CQ w)(hb1:7<w.heap.size){K:Nat}(hK0:min bs.length 100=K)(hKl:K≤bs.length)(hcut:AO w (Ay 0 K 1 v) ls.length 1 (ls.map b8) F)(l8: ∀x∈ls,x<256)(hlm:ls.length≤1048576){x y:Nat}(hc:sgT ls=some (x,y)):Calls prog 3 #[PT r t,v] w fun e w'=>e= .returned (.bool true)∧Bw w w':=by
 go_enter func3,ntmps3
 refine A4 ?_;refine Fl ?_;apply vrp
 ·apply VE.cons
  ·exact G3 rfl rfl gg rfl
  simp only[nmx,seval];apply VE.cons
  ·exact CJ rfl gg
  simp only[nmx,seval];exact VE.nil _
 ·kernel_rfl
 refine FP ?_;apply vrp
 ·apply VE.cons
  ·exact Ap rfl gg
  simp only[nmx,seval];apply VE.cons
  ·exact Ap rfl gg
  simp only[nmx,seval];apply VE.cons
  ·exact BU rfl gg rfl underlying23 (AW hv)
  simp only[nmx,seval];apply VE.cons
  ·exact HW (a:=bs.length) (b:=100) (c:=K) rfl gg rfl rfl hK0
  simp only[nmx,seval];apply VE.cons
  ·exact Fa (a:=0) (b:=K) (v':=Ay 0 K 1 v) rfl gg rfl underlying23 sizeOf5 (AW hv) rfl rfl (Nat.zero_le _) hKl rfl
  simp only[nmx,seval];apply VE.cons
  ·exact CJ rfl gg
  simp only[nmx,seval];exact VE.nil _
 ·kernel_rfl
 refine FP ?_;apply vrp
 ·apply VE.cons
  ·first|exact BD rfl gg rfl rfl underlying22 rfl sizeOf22 rfl rfl|exact A2 rfl gg rfl underlying22 rfl sizeOf22 (by assumption) rfl|exact Bi rfl gg rfl rfl underlying22 rfl sizeOf22 rfl
  simp only[nmx,seval];apply VE.cons
  ·exact Cs [] rfl rfl gg rfl (eo func7) (n:=(wrT (BH r t)).1.length) (size:=1) (l:=(wrT (BH r t)).1.map b8) (by simp) (fun ρ S w' hb hR=>Qi w')
  simp only[nmx,seval];apply VE.cons
  ·exact CJ rfl gg
  simp only[nmx,seval];exact VE.nil _
 ·kernel_rfl
 refine FP ?_;apply vrp
 ·apply VE.cons
  ·exact Ap rfl gg
  simp only[nmx,seval];apply VE.cons
  ·exact Aj (v:= .tuple #[PT r t,.int .i64 0]) [18] rfl gg rfl (eo func8) (fun ρ S w' hb hR=>by have a:=LU (b:=(wrT (BH r t)).1) w' (EH (id:=18) hR (by simp) rfl) (EE (HI r t)) (by have:=GN (BH r t);omega);rw[Vt hr0 ht0]at a;exact a)
  simp only[nmx,seval];apply VE.cons
  ·exact Ap rfl gg
  simp only[nmx,seval];apply VE.cons
  ·first|exact Cy rfl gg rfl rfl|exact C8 rfl gg rfl rfl
  simp only[nmx,seval];apply VE.cons
  ·first|exact Cy rfl gg rfl rfl|exact C8 rfl gg rfl rfl
  simp only[nmx,seval];apply VE.cons
  ·exact BZ rfl rfl gg zeroValue22
  simp only[nmx,seval];apply VE.cons
  ·exact BA rfl gg rfl rfl rfl sizeOf22 rfl (by simp) rfl
  simp only[nmx,seval];apply VE.cons
  ·exact CJ rfl gg
  simp only[nmx,seval];exact VE.nil _
 ·kernel_rfl
 refine FP ?_;apply vrp
 ·apply VE.cons
  ·exact Ap rfl gg
  simp only[nmx,seval];apply VE.cons
  ·exact Ad (v:= .tuple #[PT x y,.int .i64 0]) rfl gg rfl (eo func8) (fun w' hw'=>by have a:=LU (b:=ls) w' (A5 hcut hw') l8 hlm;rw[hc]at a;exact a)
  simp only[nmx,seval];apply VE.cons
  ·exact Ap rfl gg
  simp only[nmx,seval];apply VE.cons
  ·first|exact Cy rfl gg rfl rfl|exact C8 rfl gg rfl rfl
  simp only[nmx,seval];apply VE.cons
  ·first|exact Cy rfl gg rfl rfl|exact C8 rfl gg rfl rfl
  simp only[nmx,seval];apply VE.cons
  ·exact BZ rfl rfl gg zeroValue22
  simp only[nmx,seval];apply VE.cons
  ·exact BA rfl gg rfl rfl rfl sizeOf22 rfl (by simp) rfl
  simp only[nmx,seval];apply VE.cons
  ·exact CJ rfl gg
  simp only[nmx,seval];exact VE.nil _
 ·kernel_rfl
 refine FP ?_;apply vrp
 ·apply VE.cons
  ·exact Ap rfl gg
  simp only[nmx,seval];apply VE.cons
  ·exact Cc (bs:=ls) rfl gg rfl underlying23 underlying5 underlying9 (AW hcut)
  simp only[nmx,seval];apply VE.cons
  ·exact Ad (v:= .tuple #[PT x y,.bool true]) rfl gg rfl (eo func9) (fun w' hw'=>by have a:=Qj (b:=ls) w' l8 hlm;rw[hc]at a;exact a)
  simp only[nmx,seval];apply VE.cons
  ·exact Ap rfl gg
  simp only[nmx,seval];apply VE.cons
  ·first|exact Cy rfl gg rfl rfl|exact C8 rfl gg rfl rfl
  simp only[nmx,seval];apply VE.cons
  ·first|exact Cy rfl gg rfl rfl|exact C8 rfl gg rfl rfl
  simp only[nmx,seval];apply VE.cons
  ·exact BZ rfl rfl gg zeroValue22
  simp only[nmx,seval];apply VE.cons
  ·exact BA rfl gg rfl rfl rfl sizeOf22 rfl (by simp) rfl
  simp only[nmx,seval];apply VE.cons
  ·exact CJ rfl gg
  simp only[nmx,seval];exact VE.nil _
 ·kernel_rfl
 refine FP ?_;apply vrd (by kernel_rfl)
 ·apply VE.cons
  ·exact Ad (v:= .bool true) rfl gg rfl (eo func10) (fun w' hw'=>UC w' (hL.bw hw') (hK.bw hw') (hH.bw hw') (Nat.lt_of_lt_of_le hb1 hw'.size))
  simp only[nmx,seval];apply VE.cons
  ·exact Ap rfl gg
  simp only[nmx,seval];apply VE.cons
  ·first|exact Ev.skip (fun _=>rfl)|exact Ap rfl (fun _=>rfl)
  simp only[nmx,seval];apply VE.cons
  ·first|exact Ev.skip (fun _=>rfl)|exact Cc (bs:=(wrT (BH r t)).1) rfl (fun _=>rfl) rfl underlying23 underlying5 underlying9 (BI rfl)
  simp only[nmx,seval];apply VE.cons
  ·first|exact Ev.skip (fun _=>rfl)|exact BD rfl (fun _=>rfl) rfl rfl underlying22 rfl sizeOf22 rfl rfl|exact A2 rfl (fun _=>rfl) rfl underlying22 rfl sizeOf22 (by assumption) rfl|exact Bi rfl (fun _=>rfl) rfl rfl underlying22 rfl sizeOf22 rfl
  simp only[nmx,seval];apply VE.cons
  ·first|exact Ev.skip (fun _=>rfl)|exact Ad (v:= .string (AB (wrT (BH r t)).1)) rfl (fun _=>rfl) rfl (eo func11) (fun w' hw'=>R4 w')
  simp only[nmx,seval];apply VE.cons
  ·first|exact Ev.skip (fun _=>rfl)|exact AK (c:= .bool true) rfl (fun _=>rfl) rfl rfl (fun w=>E4 (a:=(wrT (BH r t)).1) (b:=(wrT (BH r t)).1) (p:=true) (by simp) (EE (HI r t)) (EE (HI r t)) _ _ w)
  simp only[nmx,seval];apply VE.cons
  ·first|exact CY rfl gg rfl rfl|exact Ca rfl gg rfl rfl
  simp only[nmx,seval];apply VE.cons
  ·exact Ap rfl gg
  simp only[nmx,seval];apply VE.cons
  ·first|exact Ev.skip (fun _=>rfl)|exact Ap rfl (fun _=>rfl)
  simp only[nmx,seval];apply VE.cons
  ·first|exact Ev.skip (fun _=>rfl)|exact Ag (p:=true) rfl (fun _=>rfl) rfl rfl (by decide)
  simp only[nmx,seval];apply VE.cons
  ·first|exact CY rfl gg rfl rfl|exact Ca rfl gg rfl rfl
  simp only[nmx,seval];apply VE.cons
  ·exact Ap rfl gg
  simp only[nmx,seval];apply VE.cons
  ·first|exact Ev.skip (fun _=>rfl)|exact BD rfl (fun _=>rfl) rfl rfl underlying22 rfl sizeOf22 rfl rfl|exact A2 rfl (fun _=>rfl) rfl underlying22 rfl sizeOf22 (by assumption) rfl|exact Bi rfl (fun _=>rfl) rfl rfl underlying22 rfl sizeOf22 rfl
  simp only[nmx,seval];apply VE.cons
  ·first|exact Ev.skip (fun _=>rfl)|exact BD rfl (fun _=>rfl) rfl rfl underlying22 rfl sizeOf22 rfl rfl|exact A2 rfl (fun _=>rfl) rfl underlying22 rfl sizeOf22 (by assumption) rfl|exact Bi rfl (fun _=>rfl) rfl rfl underlying22 rfl sizeOf22 rfl
  simp only[nmx,seval];apply VE.cons
  ·first|exact Ev.skip (fun _=>rfl)|exact AK (c:= .bool true) rfl (fun _=>rfl) rfl rfl (fun w=>eqS _ _ _ _ w)
  simp only[nmx,seval];apply VE.cons
  ·first|exact CY rfl gg rfl rfl|exact Ca rfl gg rfl rfl
  simp only[nmx,seval];apply VE.cons
  ·exact Ap rfl gg
  simp only[nmx,seval];apply VE.cons
  ·first|exact Ev.skip (fun _=>rfl)|exact Ap rfl (fun _=>rfl)
  simp only[nmx,seval];apply VE.cons
  ·first|exact Ev.skip (fun _=>rfl)|exact Ag (p:=true) rfl (fun _=>rfl) rfl rfl (by decide)
  simp only[nmx,seval];apply VE.cons
  ·first|exact Ev.skip (fun _=>rfl)|exact Ap rfl (fun _=>rfl)
  simp only[nmx,seval];apply VE.cons
  ·first|exact Ev.skip (fun _=>rfl)|exact AK (c:= .bool true) rfl (fun _=>rfl) rfl rfl (fun w=>T1 true true _ _ w)
  simp only[nmx,seval];apply VE.cons
  ·first|exact CY rfl gg rfl rfl|exact Ca rfl gg rfl rfl
  simp only[nmx,seval];apply VE.cons
  ·exact Ap rfl gg
  simp only[nmx,seval];apply VE.cons
  ·first|exact Ev.skip (fun _=>rfl)|exact Ap rfl (fun _=>rfl)
  simp only[nmx,seval];apply VE.cons
  ·first|exact Ev.skip (fun _=>rfl)|exact Ag (p:=true) rfl (fun _=>rfl) rfl rfl (by decide)
  simp only[nmx,seval];apply VE.cons
  ·first|exact Ev.skip (fun _=>rfl)|exact Ap rfl (fun _=>rfl)
  simp only[nmx,seval];apply VE.cons
  ·first|exact Ev.skip (fun _=>rfl)|exact Ap rfl (fun _=>rfl)
  simp only[nmx,seval];apply VE.cons
  ·first|exact Ev.skip (fun _=>rfl)|refine D6 (fun _=>rfl) (fun ρ w=>by simp only[VS.act,SV.c,List.map_cons,List.map_nil];go_simp;exact rfl) (fun _ _=>rfl)
  simp only[nmx,seval];apply VE.cons
  ·first|exact Ev.skip (fun _=>rfl)|exact CY rfl (fun _=>rfl) rfl rfl|exact Ca rfl (fun _=>rfl) rfl rfl
  simp only[nmx,seval];apply VE.cons
  ·first|exact CY rfl gg rfl rfl|exact Ca rfl gg rfl rfl
  simp only[nmx,seval];apply VE.cons
  ·exact Ap rfl gg
  simp only[nmx,seval];apply VE.cons
  ·first|exact Ev.skip (fun _=>rfl)|exact BD rfl (fun _=>rfl) rfl rfl underlying22 rfl sizeOf22 rfl rfl|exact A2 rfl (fun _=>rfl) rfl underlying22 rfl sizeOf22 (by assumption) rfl|exact Bi rfl (fun _=>rfl) rfl rfl underlying22 rfl sizeOf22 rfl
  simp only[nmx,seval];apply VE.cons
  ·first|exact Ev.skip (fun _=>rfl)|exact BD rfl (fun _=>rfl) rfl rfl underlying22 rfl sizeOf22 rfl rfl|exact A2 rfl (fun _=>rfl) rfl underlying22 rfl sizeOf22 (by assumption) rfl|exact Bi rfl (fun _=>rfl) rfl rfl underlying22 rfl sizeOf22 rfl
  simp only[nmx,seval];apply VE.cons
  ·first|exact Ev.skip (fun _=>rfl)|exact AK (c:= .bool true) rfl (fun _=>rfl) rfl rfl (fun w=>eqS _ _ _ _ w)
  simp only[nmx,seval];apply VE.cons
  ·first|exact CY rfl gg rfl rfl|exact Ca rfl gg rfl rfl
  simp only[nmx,seval];apply VE.cons
  ·exact CJ rfl gg
  simp only[nmx,seval];exact VE.nil _
 ·kernel_rfl
 change VOk _ _ _ _ _;exact AG (AD (AH results3 (AF rfl)) fun _ _ hr=>⟨rfl,hr.1⟩)
theorem fG{F:Nat→Prop}(hr0:r<R)(ht0:t<R)(hv:AO w v bs.length 1 (bs.map b8) F)(hb8: ∀x∈bs,x<256)(hL:Laid w)(hK:B6 w)(hH:CQ w)(hb1:7<w.heap.size):Calls prog 3 #[PT r t,v] w fun e w'=>e= .returned (.bool true)∧Bw w w':=by
 obtain⟨K,hK0⟩: ∃K,min bs.length 100=K:=⟨_,rfl⟩
 obtain⟨ls,hls⟩: ∃ls,bs.take K=ls:=⟨_,rfl⟩
 have hKl:K≤bs.length:=by omega
 have hcut:AO w (Ay 0 K 1 v) ls.length 1 (ls.map b8) F:=by
  have:=PE (k:=0) (n:=K) hv (by omega);rw[Nat.zero_add,List.drop_zero,hls]at this;exact this
 have hll:ls.length≤100:=by rw[←hls,List.length_take];omega
 have l8: ∀x∈ls,x<256:=fun x hx=>hb8 x (by rw[←hls]at hx;exact List.mem_of_mem_take hx)
 have hlm:ls.length≤1048576:=by omega
 rcases hc:sgT ls with _|⟨x,y⟩
 ·exact fF w hr0 ht0 hv hb8 hL hK hH hb1 hK0 hKl hcut l8 hlm hc
 ·exact fE w hr0 ht0 hv hb8 hL hK hH hb1 hK0 hKl hcut l8 hlm hc
end Go.Proofs.YtafbhakmkbehiaaGreatDoor
