import Derived.Laws.BitsAllLaws
import Derived.Test.YtafbhakmkbehiaaGreatDoorZ16
import Derived.Test.YtafbhakmkbehiaaGreatDoorZ17
open Go.Proofs.Tryz
set_option maxHeartbeats 4000000
set_option maxRecDepth 100000
namespace Go.Proofs.YtafbhakmkbehiaaGreatDoor
section
open Go.RowKit Go.Toll
variable{n x y:Nat}
open TollMont
open TollEc (F pp cb Jp Pt Df D5 Au add base nn)
theorem nPV(p:Pt):Value.cells (PV p)= #[.int .u8 (byt (xv p) 0:Nat),.int .u8 (byt (xv p) 1:Nat),.int .u8 (byt (xv p) 2:Nat),.int .u8 (byt (xv p) 3:Nat),.int .u8 (byt (xv p) 4:Nat),.int .u8 (byt (xv p) 5:Nat),.int .u8 (byt (xv p) 6:Nat),.int .u8 (byt (xv p) 7:Nat),.int .u8 (byt (xv p) 8:Nat),.int .u8 (byt (xv p) 9:Nat),.int .u8 (byt (xv p) 10:Nat),.int .u8 (byt (xv p) 11:Nat),.int .u8 (byt (xv p) 12:Nat),.int .u8 (byt (xv p) 13:Nat),.int .u8 (byt (xv p) 14:Nat),.int .u8 (byt (xv p) 15:Nat),.int .u8 (byt (xv p) 16:Nat),.int .u8 (byt (xv p) 17:Nat),.int .u8 (byt (xv p) 18:Nat),.int .u8 (byt (xv p) 19:Nat),.int .u8 (byt (xv p) 20:Nat),.int .u8 (byt (xv p) 21:Nat),.int .u8 (byt (xv p) 22:Nat),.int .u8 (byt (xv p) 23:Nat),.int .u8 (byt (xv p) 24:Nat),.int .u8 (byt (xv p) 25:Nat),.int .u8 (byt (xv p) 26:Nat),.int .u8 (byt (xv p) 27:Nat),.int .u8 (byt (xv p) 28:Nat),.int .u8 (byt (xv p) 29:Nat),.int .u8 (byt (xv p) 30:Nat),.int .u8 (byt (xv p) 31:Nat),.int .u8 (byt (yv p) 0:Nat),.int .u8 (byt (yv p) 1:Nat),.int .u8 (byt (yv p) 2:Nat),.int .u8 (byt (yv p) 3:Nat),.int .u8 (byt (yv p) 4:Nat),.int .u8 (byt (yv p) 5:Nat),.int .u8 (byt (yv p) 6:Nat),.int .u8 (byt (yv p) 7:Nat),.int .u8 (byt (yv p) 8:Nat),.int .u8 (byt (yv p) 9:Nat),.int .u8 (byt (yv p) 10:Nat),.int .u8 (byt (yv p) 11:Nat),.int .u8 (byt (yv p) 12:Nat),.int .u8 (byt (yv p) 13:Nat),.int .u8 (byt (yv p) 14:Nat),.int .u8 (byt (yv p) 15:Nat),.int .u8 (byt (yv p) 16:Nat),.int .u8 (byt (yv p) 17:Nat),.int .u8 (byt (yv p) 18:Nat),.int .u8 (byt (yv p) 19:Nat),.int .u8 (byt (yv p) 20:Nat),.int .u8 (byt (yv p) 21:Nat),.int .u8 (byt (yv p) 22:Nat),.int .u8 (byt (yv p) 23:Nat),.int .u8 (byt (yv p) 24:Nat),.int .u8 (byt (yv p) 25:Nat),.int .u8 (byt (yv p) 26:Nat),.int .u8 (byt (yv p) 27:Nat),.int .u8 (byt (yv p) 28:Nat),.int .u8 (byt (yv p) 29:Nat),.int .u8 (byt (yv p) 30:Nat),.int .u8 (byt (yv p) 31:Nat)]:=rfl
theorem sw{x' y':Nat}(hx:x<R)(hy:y<R)(hx':x'<R)(hy':y'<R){s:Pt}(h:add (toP x y) (toP x' y')=s)(w:World)(hL:Laid w):Calls prog 84 #[PT x y,PT x' y'] w fun e w'=>e= .returned (PV s)∧Gw w w':=by
 have:=ss hx hy hx' hy' w hL;rw[TollEc.jadd_rep _ _ (by rw[KY];exact N4 _ _) (by rw[KY];exact N4 _ _),KY,KY,h]at this;exact this
theorem s9{p q s:Pt}(h:add p q=s)(hp:p.on)(hq:q.on)(w:World)(hL:Laid w):Calls prog 84 #[PV p,PV q] w fun e w'=>e= .returned (PV s)∧Gw w w':=
 sw (Hd p) (Nz p) (Hd q) (Nz q) (by rw[Q7 hp,Q7 hq];exact h) w hL
theorem cj(hn:n<R)(hx:x<R)(hy:y<R){s:Pt}(h:Au n (toP x y)=s)(w:World)(hL:Laid w):Calls prog 85 #[B32 n,PT x y] w fun e w'=>e= .returned (PV s)∧Gw w w':=by
 have:=sF hn hx hy w hL;rw[TollEc.ladder_all n (show n<2^256 from hn) _ (by rw[KY];exact N4 _ _),KY,h]at this;exact this
theorem Ui{p s:Pt}(hn:n<R)(h:Au n p=s)(hp:p.on)(w:World)(hL:Laid w):Calls prog 85 #[B32 n,PV p] w fun e w'=>e= .returned (PV s)∧Gw w w':=
 cj hn (Hd p) (Nz p) (by rw[Q7 hp];exact h) w hL
theorem rP(w:World)(hL:Laid w):Calls prog 87 #[] w fun e w'=>e= .returned (PV base)∧Gw w w':=rO w hL
theorem mdn:Md nn:=⟨by decide,by decide,by decide⟩
theorem o4(a b:Operand)(w:World):(do eqGuard .eql 141 a b (PV .inf) (.agg #[.int .u8 0,.int .u8 0,.int .u8 0,.int .u8 0,.int .u8 0,.int .u8 0,.int .u8 0,.int .u8 0,.int .u8 0,.int .u8 0,.int .u8 0,.int .u8 0,.int .u8 0,.int .u8 0,.int .u8 0,.int .u8 0,.int .u8 0,.int .u8 0,.int .u8 0,.int .u8 0,.int .u8 0,.int .u8 0,.int .u8 0,.int .u8 0,.int .u8 0,.int .u8 0,.int .u8 0,.int .u8 0,.int .u8 0,.int .u8 0,.int .u8 0,.int .u8 0,.int .u8 0,.int .u8 0,.int .u8 0,.int .u8 0,.int .u8 0,.int .u8 0,.int .u8 0,.int .u8 0,.int .u8 0,.int .u8 0,.int .u8 0,.int .u8 0,.int .u8 0,.int .u8 0,.int .u8 0,.int .u8 0,.int .u8 0,.int .u8 0,.int .u8 0,.int .u8 0,.int .u8 0,.int .u8 0,.int .u8 0,.int .u8 0,.int .u8 0,.int .u8 0,.int .u8 0,.int .u8 0,.int .u8 0,.int .u8 0,.int .u8 0,.int .u8 0]);binOp .eql 141 (PV .inf) (.agg #[.int .u8 0,.int .u8 0,.int .u8 0,.int .u8 0,.int .u8 0,.int .u8 0,.int .u8 0,.int .u8 0,.int .u8 0,.int .u8 0,.int .u8 0,.int .u8 0,.int .u8 0,.int .u8 0,.int .u8 0,.int .u8 0,.int .u8 0,.int .u8 0,.int .u8 0,.int .u8 0,.int .u8 0,.int .u8 0,.int .u8 0,.int .u8 0,.int .u8 0,.int .u8 0,.int .u8 0,.int .u8 0,.int .u8 0,.int .u8 0,.int .u8 0,.int .u8 0,.int .u8 0,.int .u8 0,.int .u8 0,.int .u8 0,.int .u8 0,.int .u8 0,.int .u8 0,.int .u8 0,.int .u8 0,.int .u8 0,.int .u8 0,.int .u8 0,.int .u8 0,.int .u8 0,.int .u8 0,.int .u8 0,.int .u8 0,.int .u8 0,.int .u8 0,.int .u8 0,.int .u8 0,.int .u8 0,.int .u8 0,.int .u8 0,.int .u8 0,.int .u8 0,.int .u8 0,.int .u8 0,.int .u8 0,.int .u8 0,.int .u8 0,.int .u8 0]):Sem Value).run prog w= .ok (.bool true) w:=o1 rfl rfl a b w
theorem jk{p:Pt}(h:p.on):(xv p=0∧yv p=0)↔p= .inf:=by
 cases p with
 |inf=>exact⟨fun _=>rfl,fun _=>⟨rfl,rfl⟩⟩
 |aff x y=>
  refine⟨fun⟨a,b⟩=> ?_,fun c=>by cases c⟩;have hx:x=⟨0,by decide⟩:=Fin.ext a;have hy:y=⟨0,by decide⟩:=Fin.ext b;subst hx hy;exact absurd (PH.2 h) (by decide+kernel)
theorem ah{p:Pt}(hp:p.on)(h:p≠ .inf)(a b:Operand)(w:World):(do eqGuard .eql 141 a b (PV p) (.agg #[.int .u8 0,.int .u8 0,.int .u8 0,.int .u8 0,.int .u8 0,.int .u8 0,.int .u8 0,.int .u8 0,.int .u8 0,.int .u8 0,.int .u8 0,.int .u8 0,.int .u8 0,.int .u8 0,.int .u8 0,.int .u8 0,.int .u8 0,.int .u8 0,.int .u8 0,.int .u8 0,.int .u8 0,.int .u8 0,.int .u8 0,.int .u8 0,.int .u8 0,.int .u8 0,.int .u8 0,.int .u8 0,.int .u8 0,.int .u8 0,.int .u8 0,.int .u8 0,.int .u8 0,.int .u8 0,.int .u8 0,.int .u8 0,.int .u8 0,.int .u8 0,.int .u8 0,.int .u8 0,.int .u8 0,.int .u8 0,.int .u8 0,.int .u8 0,.int .u8 0,.int .u8 0,.int .u8 0,.int .u8 0,.int .u8 0,.int .u8 0,.int .u8 0,.int .u8 0,.int .u8 0,.int .u8 0,.int .u8 0,.int .u8 0,.int .u8 0,.int .u8 0,.int .u8 0,.int .u8 0,.int .u8 0,.int .u8 0,.int .u8 0,.int .u8 0]);binOp .eql 141 (PV p) (.agg #[.int .u8 0,.int .u8 0,.int .u8 0,.int .u8 0,.int .u8 0,.int .u8 0,.int .u8 0,.int .u8 0,.int .u8 0,.int .u8 0,.int .u8 0,.int .u8 0,.int .u8 0,.int .u8 0,.int .u8 0,.int .u8 0,.int .u8 0,.int .u8 0,.int .u8 0,.int .u8 0,.int .u8 0,.int .u8 0,.int .u8 0,.int .u8 0,.int .u8 0,.int .u8 0,.int .u8 0,.int .u8 0,.int .u8 0,.int .u8 0,.int .u8 0,.int .u8 0,.int .u8 0,.int .u8 0,.int .u8 0,.int .u8 0,.int .u8 0,.int .u8 0,.int .u8 0,.int .u8 0,.int .u8 0,.int .u8 0,.int .u8 0,.int .u8 0,.int .u8 0,.int .u8 0,.int .u8 0,.int .u8 0,.int .u8 0,.int .u8 0,.int .u8 0,.int .u8 0,.int .u8 0,.int .u8 0,.int .u8 0,.int .u8 0,.int .u8 0,.int .u8 0,.int .u8 0,.int .u8 0,.int .u8 0,.int .u8 0,.int .u8 0,.int .u8 0]):Sem Value).run prog w= .ok (.bool false) w:=
 o0 (Hd p) (Nz p) (fun c=>h ((jk hp).1 c)) a b w
theorem mE:lim (TollEc.bx.val) 0=17627433388654248598∧lim (TollEc.bx.val) 1=8575836109218198432∧lim (TollEc.bx.val) 2=17923454489921339634∧lim (TollEc.bx.val) 3=7716867327612699207:=by decide+kernel
theorem mD:lim (TollEc.bY.val) 0=14678990851816772085∧lim (TollEc.bY.val) 1=3156516839386865358∧lim (TollEc.bY.val) 2=10297457778147434006∧lim (TollEc.bY.val) 3=5756518291402817435:=by decide+kernel
theorem mC:lim (nn) 0=17562291160714782033∧lim (nn) 1=13611842547513532036∧lim (nn) 2=18446744073709551615∧lim (nn) 3=18446744069414584320:=by decide+kernel
theorem Yq:lim (pp) 0=18446744073709551615∧lim (pp) 1=4294967295∧lim (pp) 2=0∧lim (pp) 3=18446744069414584321:=by decide+kernel
theorem Yp:lim (cb.val) 0=4309448131093880907∧lim (cb.val) 1=7285987128567378166∧lim (cb.val) 2=12964664127075681980∧lim (cb.val) 3=6540974713487397863:=by decide+kernel
end
section
open Go.RowKit Go.Vx
variable(w:World){cap:Array Value}{fid:FuncId}{t:Int}{bs r rd:List Nat}{xs:List Value}{a b b0 d i k n x y:Nat}{p:Nat→Bool}{ρ:Nat→Nm}{S:Nat→Prop}{α:Type}{bv kv v:Value}
open TollMont
open Go.Toll (Gw)
open TollEc (F pp cb Jp Pt Au add base nn neg)
theorem nmx:type_of%Go.Vx.nm∧type_of%nNF∧type_of%nTF∧type_of%PN∧type_of%nPT∧type_of%nFV∧type_of%nN∧type_of%nPV:=⟨Go.Vx.nm,nNF,nTF,PN,nPT,nFV,nN,nPV⟩
def l32(n:Nat):List Value:=[.int .u8 (byt n 0:Nat),.int .u8 (byt n 1:Nat),.int .u8 (byt n 2:Nat),.int .u8 (byt n 3:Nat),.int .u8 (byt n 4:Nat),.int .u8 (byt n 5:Nat),.int .u8 (byt n 6:Nat),.int .u8 (byt n 7:Nat),.int .u8 (byt n 8:Nat),.int .u8 (byt n 9:Nat),.int .u8 (byt n 10:Nat),.int .u8 (byt n 11:Nat),.int .u8 (byt n 12:Nat),.int .u8 (byt n 13:Nat),.int .u8 (byt n 14:Nat),.int .u8 (byt n 15:Nat),.int .u8 (byt n 16:Nat),.int .u8 (byt n 17:Nat),.int .u8 (byt n 18:Nat),.int .u8 (byt n 19:Nat),.int .u8 (byt n 20:Nat),.int .u8 (byt n 21:Nat),.int .u8 (byt n 22:Nat),.int .u8 (byt n 23:Nat),.int .u8 (byt n 24:Nat),.int .u8 (byt n 25:Nat),.int .u8 (byt n 26:Nat),.int .u8 (byt n 27:Nat),.int .u8 (byt n 28:Nat),.int .u8 (byt n 29:Nat),.int .u8 (byt n 30:Nat),.int .u8 (byt n 31:Nat)]
def wb(x y:Nat):List Value:= .int .u8 4::(l32 x++l32 y)
theorem Laid.bw{w w':World}(h:Laid w)(hb:Bw w w'):Laid w':=⟨fun j v hj=>hb.cell (h.bx j v hj),fun j v hj=>hb.cell (h.bY j v hj),fun j v hj=>hb.cell (h.nn j v hj),fun j v hj=>hb.cell (h.pp j v hj),fun j v hj=>hb.cell (h.cb j v hj)⟩
theorem i5:DT prog 5 1 1:=by unfold DT;kernel_rfl
theorem VG: ∀l:List Value,unV (l.map SV.v)=some l
 | []=>rfl
 |x::l=>by simp only[List.map_cons,unV,VG l]
theorem Qb{w0 w:World}{S:Nat→Nat→Prop}{m:Mem}{id:Nat}(hR:RelOn w0.heap.size ρ S w (restr rd m))(hid:id∈rd)(hm:m id=some (.cells ((Ck n).map .v) 199)):At w (ρ id).g n:=
 Rx hR hid hm 0 (Ck n) (by rw[List.drop_zero];show unV (((Ck n).map SV.v).take (Ck n).length)=_;rw[List.take_of_length_le (by simp)];exact VG _)
theorem dN(hx:x<R)(hy:y<R)(w:World)(hL:Laid w)(h:onB x y=true):Calls prog 103 #[PT x y] w fun e w'=> ∃v,e= .returned v∧BN w w' v (65) 1 5 (wb x y)∧Bw w w':=by
 go_enter func103,ntmps103
 refine A4 ?_;iterate 8 refine Aa ?_
 refine Pz ?_;refine GA ?_;refine AX (by exact Aj (v:= .bool true) [3] rfl gg rfl (eo func123) (fun ρ S w' hb hR=>(h▸MM hx hy w' (Qb hR (by simp) rfl) (hL.bw hb)).mono fun _ _ h=>⟨h.1,h.2.b⟩)) ?_;iterate 6 refine Aa ?_
 refine AX (by exact BL rfl rfl gg rfl (e:=5) (l:=[.int .u8 4]) rfl (by decide) (fun _=>by kernel_rfl)) ?_;refine AX (by first|exact BG rfl gg rfl underlying141 rfl sizeOf64|exact BF rfl gg rfl underlying141 rfl sizeOf64) ?_;refine F9 ?_;refine AX (by exact Di rfl rfl gg rfl rfl rfl (Hw (l:=l32 x) rfl rfl rfl (by decide)) underlying23 i5 (by decide) rfl rfl (by decide) (by decide) rfl) ?_;refine AX (by first|exact BG rfl gg rfl underlying141 rfl sizeOf64|exact BF rfl gg rfl underlying141 rfl sizeOf64) ?_;refine F9 ?_;refine AX (by exact Di rfl rfl gg rfl rfl rfl (Hw (l:=l32 y) rfl rfl rfl (by decide)) underlying23 i5 (by decide) rfl rfl (by decide) (by decide) rfl) ?_;iterate 2 refine Aa ?_
 refine AG ?_;refine AD (AH results103 (AF rfl)) ?_;intro ρ w' hr;exact⟨_,rfl,B8 hr rfl,hr.1⟩
theorem dP(hx:x<R)(hy:y<R)(w:World)(hL:Laid w)(h:onB x y=false):Calls prog 103 #[PT x y] w fun e w'=> ∃v,e= .returned v∧BN w w' v (0) 1 5 ([])∧Bw w w':=by
 go_enter func103,ntmps103
 refine A4 ?_;iterate 8 refine Aa ?_
 refine Pz ?_;refine GA ?_;refine AX (by exact Aj (v:= .bool false) [3] rfl gg rfl (eo func123) (fun ρ S w' hb hR=>(h▸MM hx hy w' (Qb hR (by simp) rfl) (hL.bw hb)).mono fun _ _ h=>⟨h.1,h.2.b⟩)) ?_;iterate 7 refine Aa ?_
 refine AG ?_;refine AD (AH results103 (AF rfl)) ?_;intro ρ w' hr;exact⟨_,rfl,I1 _ _ _ _,hr.1⟩
theorem gv{l:List Value}(_hL:Laid w)(hv:AO w v n 1 l S)(hn:n≠65):Calls prog 78 #[v] w fun e w'=>e= .returned (.tuple #[.agg #[.int .u8 0,.int .u8 0,.int .u8 0,.int .u8 0,.int .u8 0,.int .u8 0,.int .u8 0,.int .u8 0,.int .u8 0,.int .u8 0,.int .u8 0,.int .u8 0,.int .u8 0,.int .u8 0,.int .u8 0,.int .u8 0,.int .u8 0,.int .u8 0,.int .u8 0,.int .u8 0,.int .u8 0,.int .u8 0,.int .u8 0,.int .u8 0,.int .u8 0,.int .u8 0,.int .u8 0,.int .u8 0,.int .u8 0,.int .u8 0,.int .u8 0,.int .u8 0,.int .u8 0,.int .u8 0,.int .u8 0,.int .u8 0,.int .u8 0,.int .u8 0,.int .u8 0,.int .u8 0,.int .u8 0,.int .u8 0,.int .u8 0,.int .u8 0,.int .u8 0,.int .u8 0,.int .u8 0,.int .u8 0,.int .u8 0,.int .u8 0,.int .u8 0,.int .u8 0,.int .u8 0,.int .u8 0,.int .u8 0,.int .u8 0,.int .u8 0,.int .u8 0,.int .u8 0,.int .u8 0,.int .u8 0,.int .u8 0,.int .u8 0,.int .u8 0],.int .i64 15])∧Bw w w':=by
 go_enter func78,ntmps78
 refine Bz ?_
 refine Mw ?_;iterate 6 refine Aa ?_
 refine K4 ?_;refine AX (by exact BB (p:=true) rfl gg rfl rfl (decide_eq_true (by omega))) ?_;refine E8 ?_;refine AX (by first|exact Ev.skip (fun _=>rfl)|exact C7 rfl (fun _=>rfl) rfl rfl underlying23 sizeOf5 (by decide) (by decide)|exact DK rfl (fun _=>rfl) rfl rfl underlying23 sizeOf5 (by decide) (by decide)) ?_;refine AX (by first|exact Ev.skip (fun _=>rfl)|exact BK rfl (fun _=>rfl) rfl rfl underlying5 rfl rfl|exact BR rfl (fun _=>rfl) rfl underlying5 rfl (by assumption)) ?_;refine FX ?_;iterate 5 refine Aa ?_
 refine AX (by exact A6 rfl gg rfl (Jn)) ?_;refine Mz ?_;iterate 2 refine Aa ?_
 exact AG (AD (Av results78 (Ac rfl rfl underlying141 rfl sizeOf141 rfl rfl) (AF rfl)) fun _ _ hr=>⟨rfl,hr.1⟩)
theorem gk{l:List Value}(_hL:Laid w)(hv:AO w v 65 1 (.int .u8 (b:Nat)::l) S)(hb:b≠4):Calls prog 78 #[v] w fun e w'=>e= .returned (.tuple #[.agg #[.int .u8 0,.int .u8 0,.int .u8 0,.int .u8 0,.int .u8 0,.int .u8 0,.int .u8 0,.int .u8 0,.int .u8 0,.int .u8 0,.int .u8 0,.int .u8 0,.int .u8 0,.int .u8 0,.int .u8 0,.int .u8 0,.int .u8 0,.int .u8 0,.int .u8 0,.int .u8 0,.int .u8 0,.int .u8 0,.int .u8 0,.int .u8 0,.int .u8 0,.int .u8 0,.int .u8 0,.int .u8 0,.int .u8 0,.int .u8 0,.int .u8 0,.int .u8 0,.int .u8 0,.int .u8 0,.int .u8 0,.int .u8 0,.int .u8 0,.int .u8 0,.int .u8 0,.int .u8 0,.int .u8 0,.int .u8 0,.int .u8 0,.int .u8 0,.int .u8 0,.int .u8 0,.int .u8 0,.int .u8 0,.int .u8 0,.int .u8 0,.int .u8 0,.int .u8 0,.int .u8 0,.int .u8 0,.int .u8 0,.int .u8 0,.int .u8 0,.int .u8 0,.int .u8 0,.int .u8 0,.int .u8 0,.int .u8 0,.int .u8 0,.int .u8 0],.int .i64 15])∧Bw w w':=by
 go_enter func78,ntmps78
 refine Bz ?_
 refine Mw ?_;iterate 6 refine Aa ?_
 refine K4 ?_;refine IM ?_;refine E8 ?_;refine TY ?_;refine TS ?_;refine AX (by first|exact Ev.skip (fun _=>rfl)|exact BB (p:=true) rfl (fun _=>rfl) rfl rfl (decide_eq_true (by omega))) ?_;iterate 5 refine Aa ?_
 refine AX (by exact A6 rfl gg rfl (Jn)) ?_;refine Mz ?_;iterate 2 refine Aa ?_
 exact AG (AD (Av results78 (Ac rfl rfl underlying141 rfl sizeOf141 rfl rfl) (AF rfl)) fun _ _ hr=>⟨rfl,hr.1⟩)
theorem gm(hx:x<R)(hy:y<R)(w:World)(hL:Laid w)(hv:AO w v 65 1 (wb x y) S)(h:onB x y=true):Calls prog 78 #[v] w fun e w'=>e= .returned (.tuple #[PT x y,.int .i64 0])∧Bw w w':=by
 go_enter func78,ntmps78
 refine Bz ?_
 refine Mw ?_;iterate 6 refine Aa ?_
 refine K4 ?_;refine IM ?_;refine E8 ?_;refine TY ?_;refine TS ?_;refine AX (by first|exact Ev.skip (fun _=>rfl)|exact BB (p:=false) rfl (fun _=>rfl) rfl rfl (by decide)) ?_;iterate 7 refine Aa ?_
 refine AX (by exact Jh (a:=1) (b:=33) rfl gg rfl underlying23 sizeOf5 (AW hv) rfl rfl (by decide) (by decide)) ?_;refine AX (by exact LJ rfl gg rfl underlying64 (I2 (lo:=1) (hi:=33) (AW hv) (by decide) (by decide)) (by decide)) ?_;refine ZZ ?_;refine Aa ?_;refine AX (by exact Jh (a:=33) (b:=65) rfl gg rfl underlying23 sizeOf5 (AW hv) rfl rfl (by decide) (by decide)) ?_;refine AX (by exact LJ rfl gg rfl underlying64 (I2 (lo:=33) (hi:=65) (AW hv) (by decide) (by decide)) (by decide)) ?_;refine Zb ?_;refine AX (by exact A6 rfl gg rfl (QU x y)) ?_;refine Mq ?_
 refine Pz ?_;refine GA ?_;refine AX (by exact Aj (v:= .bool true) [24] rfl gg rfl (eo func123) (fun ρ S w' hb hR=>(h▸MM hx hy w' (Qb hR (by simp) rfl) (hL.bw hb)).mono fun _ _ h=>⟨h.1,h.2.b⟩)) ?_;iterate 6 refine Aa ?_
 refine GA ?_;refine Mz ?_;iterate 2 refine Aa ?_
 exact AG (AD (Av results78 (Ac rfl rfl underlying141 rfl sizeOf141 rfl rfl) (AF rfl)) fun _ _ hr=>⟨rfl,hr.1⟩)
theorem gp(hx:x<R)(hy:y<R)(w:World)(hL:Laid w)(hv:AO w v 65 1 (wb x y) S)(h:onB x y=false):Calls prog 78 #[v] w fun e w'=>e= .returned (.tuple #[.agg #[.int .u8 0,.int .u8 0,.int .u8 0,.int .u8 0,.int .u8 0,.int .u8 0,.int .u8 0,.int .u8 0,.int .u8 0,.int .u8 0,.int .u8 0,.int .u8 0,.int .u8 0,.int .u8 0,.int .u8 0,.int .u8 0,.int .u8 0,.int .u8 0,.int .u8 0,.int .u8 0,.int .u8 0,.int .u8 0,.int .u8 0,.int .u8 0,.int .u8 0,.int .u8 0,.int .u8 0,.int .u8 0,.int .u8 0,.int .u8 0,.int .u8 0,.int .u8 0,.int .u8 0,.int .u8 0,.int .u8 0,.int .u8 0,.int .u8 0,.int .u8 0,.int .u8 0,.int .u8 0,.int .u8 0,.int .u8 0,.int .u8 0,.int .u8 0,.int .u8 0,.int .u8 0,.int .u8 0,.int .u8 0,.int .u8 0,.int .u8 0,.int .u8 0,.int .u8 0,.int .u8 0,.int .u8 0,.int .u8 0,.int .u8 0,.int .u8 0,.int .u8 0,.int .u8 0,.int .u8 0,.int .u8 0,.int .u8 0,.int .u8 0,.int .u8 0],.int .i64 15])∧Bw w w':=by
 go_enter func78,ntmps78
 refine Bz ?_
 refine Mw ?_;iterate 6 refine Aa ?_
 refine K4 ?_;refine IM ?_;refine E8 ?_;refine TY ?_;refine TS ?_;refine AX (by first|exact Ev.skip (fun _=>rfl)|exact BB (p:=false) rfl (fun _=>rfl) rfl rfl (by decide)) ?_;iterate 7 refine Aa ?_
 refine AX (by exact Jh (a:=1) (b:=33) rfl gg rfl underlying23 sizeOf5 (AW hv) rfl rfl (by decide) (by decide)) ?_;refine AX (by exact LJ rfl gg rfl underlying64 (I2 (lo:=1) (hi:=33) (AW hv) (by decide) (by decide)) (by decide)) ?_;refine ZZ ?_;refine Aa ?_;refine AX (by exact Jh (a:=33) (b:=65) rfl gg rfl underlying23 sizeOf5 (AW hv) rfl rfl (by decide) (by decide)) ?_;refine AX (by exact LJ rfl gg rfl underlying64 (I2 (lo:=33) (hi:=65) (AW hv) (by decide) (by decide)) (by decide)) ?_;refine Zb ?_;refine AX (by exact A6 rfl gg rfl (QU x y)) ?_;refine Mq ?_
 refine Pz ?_;refine GA ?_;refine AX (by exact Aj (v:= .bool false) [24] rfl gg rfl (eo func123) (fun ρ S w' hb hR=>(h▸MM hx hy w' (Qb hR (by simp) rfl) (hL.bw hb)).mono fun _ _ h=>⟨h.1,h.2.b⟩)) ?_;iterate 5 refine Aa ?_
 refine AX (by exact A6 rfl gg rfl (Jn)) ?_;refine Mz ?_;iterate 2 refine Aa ?_
 exact AG (AD (Av results78 (Ac rfl rfl underlying141 rfl sizeOf141 rfl rfl) (AF rfl)) fun _ _ hr=>⟨rfl,hr.1⟩)
theorem YZ(hx:x<R)(hy:y<R)(p q:Operand)(w:World):(do eqGuard .neq 64 p q (B32 x) (B32 y);binOp .neq 64 (B32 x) (B32 y):Sem Value).run prog w= .ok (.bool (decide (x≠y))) w:=by
 unfold B32
 go_simp
 rw[T2 _ hx hy];by_cases h:x=y<;>simp[h,Result.andThen]
theorem YX(hn:n<R)(h:n=0)(p q:Operand)(w:World):(do eqGuard .neq 64 p q (B32 n) (.agg #[.int .u8 0,.int .u8 0,.int .u8 0,.int .u8 0,.int .u8 0,.int .u8 0,.int .u8 0,.int .u8 0,.int .u8 0,.int .u8 0,.int .u8 0,.int .u8 0,.int .u8 0,.int .u8 0,.int .u8 0,.int .u8 0,.int .u8 0,.int .u8 0,.int .u8 0,.int .u8 0,.int .u8 0,.int .u8 0,.int .u8 0,.int .u8 0,.int .u8 0,.int .u8 0,.int .u8 0,.int .u8 0,.int .u8 0,.int .u8 0,.int .u8 0,.int .u8 0]);binOp .neq 64 (B32 n) (.agg #[.int .u8 0,.int .u8 0,.int .u8 0,.int .u8 0,.int .u8 0,.int .u8 0,.int .u8 0,.int .u8 0,.int .u8 0,.int .u8 0,.int .u8 0,.int .u8 0,.int .u8 0,.int .u8 0,.int .u8 0,.int .u8 0,.int .u8 0,.int .u8 0,.int .u8 0,.int .u8 0,.int .u8 0,.int .u8 0,.int .u8 0,.int .u8 0,.int .u8 0,.int .u8 0,.int .u8 0,.int .u8 0,.int .u8 0,.int .u8 0,.int .u8 0,.int .u8 0]):Sem Value).run prog w= .ok (.bool false) w:=by
 have:=YZ hn (by decide:0<R) p q w;rw[decide_eq_false (by omega)]at this;exact this
theorem YY(hn:n<R)(h:n≠0)(p q:Operand)(w:World):(do eqGuard .neq 64 p q (B32 n) (.agg #[.int .u8 0,.int .u8 0,.int .u8 0,.int .u8 0,.int .u8 0,.int .u8 0,.int .u8 0,.int .u8 0,.int .u8 0,.int .u8 0,.int .u8 0,.int .u8 0,.int .u8 0,.int .u8 0,.int .u8 0,.int .u8 0,.int .u8 0,.int .u8 0,.int .u8 0,.int .u8 0,.int .u8 0,.int .u8 0,.int .u8 0,.int .u8 0,.int .u8 0,.int .u8 0,.int .u8 0,.int .u8 0,.int .u8 0,.int .u8 0,.int .u8 0,.int .u8 0]);binOp .neq 64 (B32 n) (.agg #[.int .u8 0,.int .u8 0,.int .u8 0,.int .u8 0,.int .u8 0,.int .u8 0,.int .u8 0,.int .u8 0,.int .u8 0,.int .u8 0,.int .u8 0,.int .u8 0,.int .u8 0,.int .u8 0,.int .u8 0,.int .u8 0,.int .u8 0,.int .u8 0,.int .u8 0,.int .u8 0,.int .u8 0,.int .u8 0,.int .u8 0,.int .u8 0,.int .u8 0,.int .u8 0,.int .u8 0,.int .u8 0,.int .u8 0,.int .u8 0,.int .u8 0,.int .u8 0]):Sem Value).run prog w= .ok (.bool true) w:=by
 have:=YZ hn (by decide:0<R) p q w;rw[decide_eq_true (by omega)]at this;exact this
def sec(a:Nat):Bool:=decide (a≠0∧a<nn)
theorem fZ(ha:a<R)(w:World)(_hL:Laid w)(h:a=0):Calls prog 102 #[B32 a] w fun e w'=>e= .returned (.bool false)∧Bw w w':=by
 go_enter func102,ntmps102
 refine A4 ?_;iterate 7 refine Aa ?_
 refine k_2 ?_;refine k_9 ?_;refine AX (by exact AK (c:= .bool false) rfl gg rfl rfl (fun w=>YX ha h _ _ w)) ?_;refine Aa ?_;refine k_7 ?_;refine FX ?_;refine M5 ?_;refine FX ?_;iterate 3 refine Aa ?_
 exact AG (AD (AH results102 (AF rfl)) fun _ _ hr=>⟨rfl,hr.1⟩)
theorem fb(ha:a<R)(w:World)(hL:Laid w)(h:a≠0):Calls prog 102 #[B32 a] w fun e w'=>e= .returned (.bool (decide (a<nn)))∧Bw w w':=by
 go_enter func102,ntmps102
 refine A4 ?_;iterate 7 refine Aa ?_
 refine k_2 ?_;refine k_9 ?_;refine AX (by exact AK (c:= .bool true) rfl gg rfl rfl (fun w=>YY ha h _ _ w)) ?_;refine Aa ?_;refine k_7 ?_;refine AX (by first|exact Ev.skip (fun _=>rfl)|exact AM rfl (fun _=>rfl) rfl (eo func82) (fun w' hw'=>ofN a ha w')) ?_;refine AX (by first|exact Ev.skip (fun _=>rfl)|exact A2 rfl (fun _=>rfl) rfl underlying147 rfl sizeOf147 (hL.nn) rfl) ?_;refine ZX ?_;iterate 3 refine Aa ?_
 exact AG (AD (AH results102 (AF rfl)) fun _ _ hr=>⟨rfl,hr.1⟩)
theorem fa(ha:a<R)(w:World)(hL:Laid w):Calls prog 102 #[B32 a] w fun e w'=>e= .returned (.bool (sec a))∧Bw w w':=by
 by_cases h:a=0
 ·have e:sec a=false:=decide_eq_false (fun c=>c.1 h)
  rw[e];exact fZ ha w hL h
 ·have e:sec a=decide (a<nn):=by unfold sec;simp[h]
  rw[e];exact fb ha w hL h
def wl:Pt→List Value
 | .inf=>[]
 | .aff x y=>wb x.val y.val
theorem dM{p:Pt}(hp:p.on)(w:World)(hL:Laid w):Calls prog 103 #[PV p] w fun e w'=> ∃v,e= .returned v∧BN w w' v ((wl p).length) 1 5 (wl p)∧Bw w w':=by
 cases p with
 |inf=>exact dP (x:=0) (y:=0) (by decide) (by decide) w hL (by decide+kernel)
 |aff x y=>exact dN (B7 x) (B7 y) w hL ((dif_pos ⟨x.isLt,y.isLt⟩).trans (PH.2 hp))
theorem dR(p:Pt):(wl p).length=(wl p).length*1:=(Nat.mul_one _).symm
theorem jm(ha:a<R){q:Pt}(w:World)(hL:Laid w)(h:sec a=true)(hq:Au a base=q)(oq:q.on):Calls prog 56 #[B32 a] w fun e w'=> ∃v,e= .returned (.tuple #[v,.int .i64 0])∧BN w w' v ((wl q).length) 1 5 (wl q)∧Bw w w':=by
 go_enter func56,ntmps56
 refine FI ?_
 refine k_2 ?_;refine AX (by exact Ad (v:= .bool true) rfl gg rfl (eo func102) (fun w' hb=>h▸fa ha w' (hL.bw hb))) ?_;iterate 6 refine Aa ?_
 refine k_2 ?_;refine NC ?_;refine AX (by exact AM rfl gg rfl (eo func85) (fun w' hw'=>Ui ha hq TollEc.base_on w' (hL.bw hw'))) ?_;refine AX (by exact Cs [] rfl rfl gg rfl (eo func103) (dR q) (fun ρ S w' hb _=>dM oq w' (hL.bw hb))) ?_;iterate 3 refine Aa ?_
 refine AG ?_;refine AD (Av results56 (AF rfl) (AF rfl)) ?_;intro ρ w' hr;exact⟨_,rfl,B8 hr rfl,hr.1⟩
theorem aj:DT prog 61 3 56:=by unfold DT;kernel_rfl
def CB(t:Int):Bool:=decide (t=48)||(decide (t≥160) && decide (t≤163))
def Ez:List Nat→Bool
 | []=>false
 | [_]=>true
 |b0::b1::_=> !((decide (b0=0) && decide (b1<128))||(decide (b0=255) && decide (b1≥128)))
def B9(b:Nat):Bool:=decide (b<32)||decide (b>126)
def JB(b:List Nat):Bool:= !b.any B9
theorem CM(a c:Nat):decide ((a:Int)=(c:Int))=decide (a=c):=decide_eq_decide.2 (by omega)
theorem Ej(a c:Nat):decide ((a:Int)≥(c:Int))=decide (a≥c):=decide_eq_decide.2 (by omega)
theorem S4(t:Int)(w:World):Calls prog 91 #[.int .i64 t] w fun e w'=>e= .returned (.bool (CB t))∧Bw w w':=by
 unfold CB;obtain⟨p1,h_p1⟩: ∃p,decide (t=48)=p:=⟨_,rfl⟩
 obtain⟨p2,h_p2⟩: ∃p,decide (t≥160)=p:=⟨_,rfl⟩
 obtain⟨p3,h_p3⟩: ∃p,decide (t≤163)=p:=⟨_,rfl⟩
 rw[h_p1,h_p2,h_p3]
 go_enter func91,ntmps91
 refine A4 ?_;cases p1<;>cases p2<;>cases p3<;>
 (
  iterate 7 refine k_k ?_
  refine k_s (by exact Ag rfl gg rfl rfl h_p1) ?_;refine Cz ?_;refine k_s (by first|exact Ev.skip (fun _=>rfl)|exact B4 rfl (fun _=>rfl) rfl rfl h_p2) ?_;iterate 2 refine k_0 ?_
  refine k_s (by first|exact Ev.skip (fun _=>rfl)|exact LG rfl (fun _=>rfl) rfl rfl h_p3) ?_;refine Eo ?_;iterate 3 refine k_k ?_
  exact AG (AD (AH results91 (AF rfl)) fun _ _ hr=>⟨rfl,hr.1⟩)
 )
theorem kG(b:Nat)(w:World):Calls prog 178 #[b8 b] w fun e w'=>e= .returned (.bool (B9 b))∧Bw w w':=by
 unfold B9;obtain⟨p1,h_p1⟩: ∃p,decide (b<32)=p:=⟨_,rfl⟩
 obtain⟨p2,h_p2⟩: ∃p,decide (b>126)=p:=⟨_,rfl⟩
 rw[h_p1,h_p2];rw[←CL b 32]at h_p1;rw[←Cr b 126]at h_p2
 go_enter func178,ntmps178
 refine A4 ?_;cases p1<;>cases p2<;>
 (
  iterate 7 refine k_k ?_
  refine k_s (by exact D8 rfl gg rfl rfl h_p1) ?_;refine Cz ?_;refine k_s (by first|exact Ev.skip (fun _=>rfl)|exact BV rfl (fun _=>rfl) rfl rfl h_p2) ?_;iterate 3 refine k_k ?_
  exact AG (AD (AH results178 (AF rfl)) fun _ _ hr=>⟨rfl,hr.1⟩)
 )
theorem U9{l:List Value}(hn:n<2)(w:World)(hv:AO w v n 1 l S):Calls prog 145 #[v] w fun e w'=>e= .returned (.bool (decide (n=1)))∧Bw w w':=by
 go_enter func145,ntmps145
 refine C6 ?_
 refine CU ?_;refine K8 ?_;iterate 5 refine k_k ?_
 refine CU ?_;refine k_s (by exact Ag rfl gg rfl rfl (CM n 1)) ?_;iterate 2 refine k_k ?_
 exact AG (AD (AH results145 (AF rfl)) fun _ _ hr=>⟨rfl,hr.1⟩)
theorem dV{b1:Nat}{l:List Value}(hn:2≤n)(w:World)(hv:AO w v n 1 (b8 b0::b8 b1::l) S):Calls prog 145 #[v] w fun e w'=>e= .returned (.bool (!((decide (b0=0) && decide (b1<128))||(decide (b0=255) && decide (b1≥128)))))∧Bw w w':=by
 obtain⟨p1,h_p1⟩: ∃p,decide (b0=0)=p:=⟨_,rfl⟩
 obtain⟨p2,h_p2⟩: ∃p,decide (b1<128)=p:=⟨_,rfl⟩
 obtain⟨p3,h_p3⟩: ∃p,decide (b0=255)=p:=⟨_,rfl⟩
 obtain⟨p4,h_p4⟩: ∃p,decide (b1≥128)=p:=⟨_,rfl⟩
 rw[h_p1,h_p2,h_p3,h_p4];rw[←CM b0 0]at h_p1;rw[←CL b1 128]at h_p2;rw[←CM b0 255]at h_p3;rw[←Ej b1 128]at h_p4
 go_enter func145,ntmps145
 refine A4 ?_;cases p1<;>cases p2<;>cases p3<;>cases p4<;>
 (
  iterate 8 refine k_k ?_
  refine CU ?_;refine HP ?_;iterate 6 refine k_k ?_
  refine k_s (by exact Bc (k:=0) rfl gg rfl rfl underlying23 sizeOf5 (AW hv) (by omega) (by decide)) ?_;refine JW ?_;refine k_s (by exact Ag rfl gg rfl rfl h_p1) ?_;refine Cz ?_;refine ZP ?_;refine Py ?_;refine k_s (by first|exact Ev.skip (fun _=>rfl)|exact D8 rfl (fun _=>rfl) rfl rfl h_p2) ?_;iterate 2 refine k_k ?_
  refine k_0 ?_;refine k_s (by first|exact Ev.skip (fun _=>rfl)|exact Bc (k:=0) rfl (fun _=>rfl) rfl rfl underlying23 sizeOf5 (AW hv) (by omega) (by decide)) ?_;refine Py ?_;refine k_s (by first|exact Ev.skip (fun _=>rfl)|exact Ag rfl (fun _=>rfl) rfl rfl h_p3) ?_;iterate 2 refine k_0 ?_
  refine ZP ?_;refine Py ?_;refine k_s (by first|exact Ev.skip (fun _=>rfl)|exact Ew rfl (fun _=>rfl) rfl rfl h_p4) ?_;refine Eo ?_;iterate 4 refine k_k ?_
  exact AG (AD (AH results145 (AF rfl)) fun _ _ hr=>⟨rfl,hr.1⟩)
 )
def EU(p:Nat→Bool):List Nat→Nat→Int
 | [],_=> -1
 |b::r,k=>if p b then(k:Nat)else EU p r (k+1)
theorem Zx(p:Nat→Bool): ∀(l:List Nat) (k:Nat),decide (EU p l k≥0)=l.any p
 | [],k=>by simp[EU]
 |b::r,k=>by
  by_cases h:p b=true
  ·have e:EU p (b::r) k=(k:Nat):=if_pos h
   rw[e,List.any_cons,h,Bool.true_or];exact decide_eq_true (by omega)
  ·have e:EU p (b::r) k=EU p r (k+1):=if_neg h
   rw[e,Zx p r (k+1),List.any_cons];simp[h]
theorem EV{l:List α}(h:i<l.length): ∃x,l[i]? =some x:=⟨l[i],List.getElem?_eq_getElem h⟩
theorem Bj{l:List α}{x:α}(h:l[i]? =some x):l.drop i=x::l.drop (i+1):=by
 obtain⟨hi,e⟩:=List.getElem?_eq_some_iff.1 h;rw[List.drop_eq_getElem_cons hi,e]
theorem JH(h:bs[i]? =some b):(bs.map b8)[i]? =some (b8 b):=by rw[List.getElem?_map,h];rfl
theorem Yx{w:World}{size:Nat}{l:List Value}(h:AO w v n size l S)(_hs:0<size)(_hm:True):l.length=n*size:=by
 obtain⟨_,_,_,_,h,_⟩:=h;exact h
theorem nG(hv:AO w v bs.length 1 (bs.map b8) S)(hm:bs.length<9223372036854775807)(he: ∀args w,(callFunc fid args).run prog w= .ok (.enter fid args) w)(hc: ∀b∈bs,∀w',Bw w w'→Calls prog fid (#[]++[b8 b].toArray++cap) w' fun e w''=>e= .returned (.bool (p b))∧Bw w' w''):Calls prog 190 #[v,.func (.func fid) #[] cap] w fun e w'=>e= .returned (.int .i64 (EU p bs 0))∧Bw w w':=by
 go_enter func190,ntmps190
 refine C6 ?_
 refine CU ?_;iterate 3 refine k_k ?_
 refine Bo (α:={i:Nat // i≤bs.length∧EU p bs 0=EU p (bs.drop i) i}) (fun(x:{i:Nat // i≤bs.length∧EU p bs 0=EU p (bs.drop i) i}) f=>⟨[.v v,.v (.func (.func fid) #[] cap),.v (f 2),.v (f 3),.v (f 4),.v (f 5),.v v,.v (.int .i64 (bs.length:Nat)),.v (.int .i64 (x.1:Nat)),.v (f 9),.v (f 10),.v (f 11),.v (f 12),.v (f 13),.v (f 14),.v (f 15),.v (f 16),.v (f 17),.v (f 18)],AJ []⟩) (fun x=>bs.length-x.1) ?_ (⟨0,Nat.zero_le _,rfl⟩) ?_
 ·rintro⟨i,hi,hidx⟩ f
  obtain⟨q,h_q⟩: ∃q,decide ((i:Int)<(bs.length:Int))=q:=⟨_,rfl⟩
  refine Ch ?_
  refine F6 ?_
  cases q
  ·refine k_k ?_
   have hge:bs.length≤i:=by have:=of_decide_eq_false h_q;omega
   rw[List.drop_eq_nil_of_le hge]at hidx;refine As ?_;refine CN ?_
   refine AG ?_;refine AD (AH results190 (AF rfl)) ?_;intro ρ w' hr;first|(refine⟨?_,hr.1⟩;rw[hidx];rfl)|(refine⟨?_,hr.1⟩;rw[hidx,Bj hb];simp only[EU,h_q2];rfl)
  ·refine k_k ?_
   have hlt:i<bs.length:=by have:=of_decide_eq_true h_q;omega
   obtain⟨b,hb⟩:=EV hlt;obtain⟨q2,h_q2⟩: ∃q2,p b=q2:=⟨_,rfl⟩
   iterate 13 refine k_k ?_
   refine k_s (by exact Bc (k:=i) rfl gg rfl rfl underlying23 sizeOf5 (AW hv) (hlt) (by decide)) ?_;refine k_s (by exact Cb rfl gg rfl underlying5 rfl (AW hv) (JH hb)) ?_;refine k_s (by exact aa rfl gg rfl rfl he (fun w' hbw=>h_q2▸hc b (List.mem_of_getElem? hb) w' hbw)) ?_;refine k_k ?_;cases q2
   ·iterate 3 refine k_k ?_
    refine ER ?_;iterate 2 refine k_k ?_
    refine⟨⟨i+1,by omega,by rw[hidx,Bj hb];simp only[EU,h_q2];rfl⟩,by show bs.length-(i+1)<bs.length-i;omega,?_⟩;exact Ar (fun i=>i==0||i==1||i==6||i==7||i==8) []
   ·iterate 6 refine k_k ?_
    refine AG ?_;refine AD (AH results190 (AF rfl)) ?_;intro ρ w' hr;first|(refine⟨?_,hr.1⟩;rw[hidx];rfl)|(refine⟨?_,hr.1⟩;rw[hidx,Bj hb];simp only[EU,h_q2];rfl)
 ·exact Ar (fun i=>i==0||i==1||i==6||i==7||i==8) []
theorem pT(hv:AO w v bs.length 1 (bs.map b8) S)(hm:bs.length<9223372036854775807)(he: ∀args w,(callFunc fid args).run prog w= .ok (.enter fid args) w)(hc: ∀b∈bs,∀w',Bw w w'→Calls prog fid (#[]++[b8 b].toArray++cap) w' fun e w''=>e= .returned (.bool (p b))∧Bw w' w''):Calls prog 177 #[v,.func (.func fid) #[] cap] w fun e w'=>e= .returned (.bool (bs.any p))∧Bw w w':=by
 go_enter func177,ntmps177
 refine C6 ?_
 refine k_s (by exact Ad rfl gg rfl (eo func190) (fun w' hb=>nG w' (A5 hv hb) hm he (fun b h2 w'' h3=>hc b h2 w'' (hb.trans h3)))) ?_;refine k_s (by exact B4 rfl gg rfl rfl (Zx p bs 0)) ?_;iterate 2 refine k_k ?_
 exact AG (AD (AH results177 (AF rfl)) fun _ _ hr=>⟨rfl,hr.1⟩)
theorem kH(hv:AO w v bs.length 1 (bs.map b8) S)(hm:bs.length<9223372036854775807):Calls prog 148 #[v] w fun e w'=>e= .returned (.bool (JB bs))∧Bw w w':=by
 go_enter func148,ntmps148
 refine Hy ?_
 refine k_s (by exact Ad rfl gg rfl (eo func177) (fun w' hb=>pT w' (A5 hv hb) hm (eo func178) (fun b _ w'' _=>kG b w''))) ?_;iterate 3 refine k_k ?_
 exact AG (AD (AH results148 (AF rfl)) fun _ _ hr=>⟨rfl,hr.1⟩)
def Cq:Bool→List Nat→Option Bool
 |a,[]=>some a
 |a,b::r=>if a && decide (b=128)then none else Cq (decide (b<128)) r
def Da(bs:List Nat):Bool:=match Cq true bs with|none=>false|some a=>decide (bs.length>0) && a
theorem JC{a:Bool}(h:(a && decide (b=128))=true):Cq a (b::r)=none:=if_pos h
theorem PI{a:Bool}(h:(a && decide (b=128))=false):Cq a (b::r)=Cq (decide (b<128)) r:=if_neg (by simp[h])
theorem lC(hv:AO w v bs.length 1 (bs.map b8) S)(hm:bs.length<9223372036854775807):Calls prog 147 #[v] w fun e w'=>e= .returned (.bool (Da bs))∧Bw w w':=by
 go_enter func147,ntmps147
 refine A4 ?_;iterate 12 refine k_k ?_
 refine CU ?_;iterate 3 refine k_k ?_
 refine Bo (α:={x:Nat×Bool // x.1≤bs.length∧Cq true bs=Cq x.2 (bs.drop x.1)}) (fun(x:{x:Nat×Bool // x.1≤bs.length∧Cq true bs=Cq x.2 (bs.drop x.1)}) f=>⟨[.v v,.v (f 1),.v (.bool false),.v (.bool x.1.2),.v (f 4),.v (f 5),.v v,.v (.int .i64 (bs.length:Nat)),.v (.int .i64 (x.1.1:Nat)),.v (f 9),.v (f 10),.v (f 11),.v (f 12),.v (f 13),.v (f 14),.v (f 15),.v (f 16),.v (f 17),.v (f 18),.v (f 19),.v (f 20),.v (f 21),.v (f 22),.v (f 23),.v (f 24),.v (f 25)],AJ []⟩) (fun x=>bs.length-x.1.1) ?_ (⟨(0,true),Nat.zero_le _,rfl⟩) ?_
 ·rintro⟨⟨i,bg⟩,hi,hgo⟩ f
  simp only at hi hgo;obtain⟨q,h_q⟩: ∃q,decide ((i:Int)<(bs.length:Int))=q:=⟨_,rfl⟩
  refine Ch ?_
  refine F6 ?_
  cases q
  ·refine k_k ?_
   have hge:bs.length≤i:=by have:=of_decide_eq_false h_q;omega
   rw[List.drop_eq_nil_of_le hge]at hgo;obtain⟨q5,h_q5⟩: ∃q5,decide (bs.length>0)=q5:=⟨_,rfl⟩
   have h_q5':=(Cr bs.length 0).trans h_q5;cases bg<;>cases q5<;>
   (
    refine As ?_;refine ZF ?_
    refine CU ?_;refine k_s (by exact BV rfl gg rfl rfl h_q5') ?_;refine Cz ?_;iterate 3 refine k_k ?_
    refine AG ?_;refine AD (AH results147 (AF rfl)) ?_;intro ρ w' hr
    (first|(refine⟨?_,hr.1⟩;unfold Da;rw[hgo,Bj hb,JC (by rw[h_q3];rfl)];rfl)|(refine⟨?_,hr.1⟩;unfold Da;rw[hgo];simp only[Cq,h_q5];rfl))
   )
  ·refine k_k ?_
   have hlt:i<bs.length:=by have:=of_decide_eq_true h_q;omega
   obtain⟨b,hb⟩:=EV hlt;obtain⟨q3,h_q3⟩: ∃q3,decide (b=128)=q3:=⟨_,rfl⟩
   obtain⟨q4,h_q4⟩: ∃q4,decide (b<128)=q4:=⟨_,rfl⟩
   have h_q3':=(CM b 128).trans h_q3;have h_q4':=(CL b 128).trans h_q4;cases bg<;>cases q3<;>
   (
    iterate 5 refine k_k ?_
    refine k_s (by exact Bc (k:=i) rfl gg rfl rfl underlying23 sizeOf5 (AW hv) (hlt) (by decide)) ?_;refine k_s (by exact Cb rfl gg rfl underlying5 rfl (AW hv) (JH hb)) ?_;iterate 7 refine k_k ?_
    refine k_0 ?_;refine k_s (by first|exact Ev.skip (fun _=>rfl)|exact Ag rfl (fun _=>rfl) rfl rfl h_q3') ?_;iterate 2 refine k_k ?_
    first
    |(
     refine MB ?_;refine AD (AH results147 (AF rfl)) ?_;intro ρ w' hr
     (first|(refine⟨?_,hr.1⟩;unfold Da;rw[hgo,Bj hb,JC (by rw[h_q3];rfl)];rfl)|(refine⟨?_,hr.1⟩;unfold Da;rw[hgo];simp only[Cq,h_q5];rfl))
     )
    |(
     iterate 4 refine k_k ?_
     refine k_s (by exact D8 rfl gg rfl rfl h_q4') ?_;iterate 3 refine k_k ?_
     refine ER ?_;iterate 2 refine k_k ?_
     refine⟨⟨(i+1,q4),by show i+1≤bs.length;omega,by show Cq true bs=Cq q4 (bs.drop (i+1));rw[hgo,Bj hb,PI (by rw[h_q3];rfl),h_q4]⟩,by show bs.length-(i+1)<bs.length-i;omega,?_⟩;exact Ar (fun i=>i==0||i==2||i==3||i==6||i==7||i==8) []
     )
   )
 ·exact Ar (fun i=>i==0||i==2||i==3||i==6||i==7||i==8) []
def Dq(bs:List Nat):Nat:=bs.getD (bs.length-1) 0
def md(a b:Nat):Nat:=a %2^b
def Nq(b0:Nat)(r:List Nat):Bool:=bif decide (b0≥8)then false else bif decide (r.length+1=1)then decide (b0=0)else decide (md (Dq (b0::r)) b0=0)
def bz:List Nat→Bool
 | []=>false
 |b0::r=>Nq b0 r
def ML(bs:List Nat):Bool:=decide (bs.length=1) && (decide (bs.getD 0 0=0)||decide (bs.getD 0 0=255))
def Fg(tag:Int)(bs:List Nat):Bool:=
 bif decide (tag=1)then ML bs else bif decide (tag=2)then Ez bs else bif decide (tag=3)then bz bs else bif decide (tag=4)then true else bif decide (tag=6)then Da bs else bif decide (tag=12)then JB bs else false
theorem Jc(h:i<bs.length):bs[i]? =some (bs.getD i 0):=by simp[List.getD,h]
theorem Vs(hb:b<8)(p q:Operand)(w:World):(do eqGuard .shl 5 p q (.int .u8 1) (.int .u8 (b:Nat));binOp .shl 5 (.int .u8 1) (.int .u8 (b:Nat)):Sem Value).run prog w= .ok (.int .u8 ((2^b:Nat):Int)) w:=by
 have:b=0∨b=1∨b=2∨b=3∨b=4∨b=5∨b=6∨b=7:=by omega
 rcases this with rfl|rfl|rfl|rfl|rfl|rfl|rfl|rfl<;>(go_simp;rfl)
theorem rh(ha:a<256)(hb:b<8)(p q:Operand)(w:World):(do eqGuard .and 5 p q (.int .u8 (a:Nat)) (.int .u8 ((2^b-1:Nat):Int));binOp .and 5 (.int .u8 (a:Nat)) (.int .u8 ((2^b-1:Nat):Int)):Sem Value).run prog w= .ok (.int .u8 ((md a b:Nat):Int)) w:=by
 have h2:2^b≤2^8:=Nat.pow_le_pow_right (by decide) (by omega)
 go_simp
 rw[u8_and_nat a (2^b-1) ha (by omega),Nat.and_two_pow_sub_one_eq_mod];rfl
theorem dU(hv:AO w v bs.length 1 (bs.map b8) S):Calls prog 145 #[v] w fun e w'=>e= .returned (.bool (Ez bs))∧Bw w w':=by
 match bs,hv with
 | [],hv=>exact U9 (n:=0) (by decide) w hv
 | [_],hv=>exact U9 (n:=1) (by decide) w hv
 |b0::b1::r,hv=>exact dV (by simp) w hv
theorem q7{l:List Value}(hv:AO w v 0 1 l S):Calls prog 146 #[v] w fun e w'=>e= .returned (.bool false)∧Bw w w':=by
 go_enter func146,ntmps146
 refine FW ?_
 refine CU ?_;refine FR ?_;refine Cz ?_;refine k_s (by first|exact Ev.skip (fun _=>rfl)|exact C7 rfl (fun _=>rfl) rfl rfl underlying23 sizeOf5 (by decide) (by decide)|exact DK rfl (fun _=>rfl) rfl rfl underlying23 sizeOf5 (by decide) (by decide)) ?_;refine k_s (by first|exact Ev.skip (fun _=>rfl)|exact BK rfl (fun _=>rfl) rfl rfl underlying5 rfl rfl|exact BR rfl (fun _=>rfl) rfl underlying5 rfl (by assumption)) ?_;refine k_3 ?_;iterate 8 refine k_k ?_
 exact AG (AD (AH results146 (AF rfl)) fun _ _ hr=>⟨rfl,hr.1⟩)
theorem q8(hv:AO w v (b0::r).length 1 ((b0::r).map b8) S)(hm:r.length<9223372036854775807)(h8: ∀b∈b0::r,b<256):Calls prog 146 #[v] w fun e w'=>e= .returned (.bool (Nq b0 r))∧Bw w w':=by
 unfold Nq;obtain⟨q1,h_q1⟩: ∃p,decide (b0≥8)=p:=⟨_,rfl⟩
 obtain⟨q2,h_q2⟩: ∃p,decide (r.length+1=1)=p:=⟨_,rfl⟩
 rw[h_q1,h_q2];have h_q1':=(Ej b0 8).trans h_q1;have h_q2':=(CM (r.length+1) 1).trans h_q2;have hlast:(b0::r)[r.length]? =some (Dq (b0::r)):=by unfold Dq;exact Jc (by simp)
 have hl8:Dq (b0::r)<256:=h8 _ (List.mem_of_getElem? hlast)
 go_enter func146,ntmps146
 refine FW ?_
 refine CU ?_;refine k_s (by exact Ag (p:=false) rfl gg rfl rfl (decide_eq_false (by simp;omega))) ?_;refine Cz ?_;refine k_s (by first|exact Ev.skip (fun _=>rfl)|exact Bc (k:=0) rfl (fun _=>rfl) rfl rfl underlying23 sizeOf5 (AW hv) (by simp) (by decide)) ?_;refine Py ?_;refine k_s (by first|exact Ev.skip (fun _=>rfl)|exact Ew rfl (fun _=>rfl) rfl rfl h_q1') ?_;iterate 3 refine k_k ?_
 cases q1
 ·refine k_k ?_
  have hb8:b0<8:=by have:=of_decide_eq_false h_q1;omega
  iterate 3 refine k_k ?_
  refine CU ?_;refine k_s (by exact Ag rfl gg rfl rfl h_q2') ?_;iterate 2 refine k_k ?_
  cases q2
  ·iterate 6 refine k_k ?_
   refine CU ?_;refine k_s (by exact Bu (c:=((r.length:Nat):Int)) rfl gg rfl rfl (by simp only[List.length_cons];rw[Ah (by omega) (by omega)];omega)) ?_;refine k_s (by exact Bc (k:=r.length) rfl gg rfl rfl underlying23 sizeOf5 (AW hv) (by simp) (by decide)) ?_;refine k_s (by exact Cb rfl gg rfl underlying5 rfl (AW hv) (JH hlast)) ?_;refine k_k ?_;refine ND ?_;refine JW ?_;refine k_s (by exact AK rfl gg rfl rfl (fun w=>Vs hb8 _ _ w)) ?_;refine k_s (by exact Bu (c:=((2^b0-1:Nat):Int)) rfl gg rfl rfl (by rw[IntKind.wrap_u8'];have:=Nat.pow_le_pow_right (show 0<2 by decide) (show b0≤7 by omega);have:=Nat.two_pow_pos b0;omega)) ?_;refine k_s (by exact AK rfl gg rfl rfl (fun w=>rh hl8 hb8 _ _ w)) ?_;refine k_s (by exact Ag rfl gg rfl rfl (CM _ 0)) ?_;iterate 2 refine k_k ?_
   exact AG (AD (AH results146 (AF rfl)) fun _ _ hr=>⟨rfl,hr.1⟩)
  ·iterate 4 refine k_k ?_
   refine ND ?_;refine JW ?_;refine k_s (by exact Ag rfl gg rfl rfl (CM b0 0)) ?_;iterate 2 refine k_k ?_
   exact AG (AD (AH results146 (AF rfl)) fun _ _ hr=>⟨rfl,hr.1⟩)
 ·iterate 5 refine k_k ?_
  exact AG (AD (AH results146 (AF rfl)) fun _ _ hr=>⟨rfl,hr.1⟩)
theorem qz(hv:AO w v bs.length 1 (bs.map b8) S)(hm:bs.length<9223372036854775807)(h8: ∀b∈bs,b<256):Calls prog 146 #[v] w fun e w'=>e= .returned (.bool (bz bs))∧Bw w w':=by
 cases bs with
 |nil=>exact q7 w hv
 |cons b0 r=>exact q8 w hv (by simp at hm;omega) h8
theorem br(tag:Int)(w:World)(hv:AO w v bs.length 1 (bs.map b8) S)(hm:bs.length<9223372036854775807)(h8: ∀b∈bs,b<256):Calls prog 92 #[.int .i64 tag,v] w fun e w'=>e= .returned (.bool (Fg tag bs))∧Bw w w':=by
 unfold Fg ML;obtain⟨q1,h_q1⟩: ∃p,decide (tag=1)=p:=⟨_,rfl⟩
 obtain⟨q2,h_q2⟩: ∃p,decide (tag=2)=p:=⟨_,rfl⟩
 obtain⟨q3,h_q3⟩: ∃p,decide (tag=3)=p:=⟨_,rfl⟩
 obtain⟨q4,h_q4⟩: ∃p,decide (tag=4)=p:=⟨_,rfl⟩
 obtain⟨q5,h_q5⟩: ∃p,decide (tag=6)=p:=⟨_,rfl⟩
 obtain⟨q6,h_q6⟩: ∃p,decide (tag=12)=p:=⟨_,rfl⟩
 obtain⟨p1,h_p1⟩: ∃p,decide (bs.length=1)=p:=⟨_,rfl⟩
 obtain⟨p2,h_p2⟩: ∃p,decide (bs.getD 0 0=0)=p:=⟨_,rfl⟩
 obtain⟨p3,h_p3⟩: ∃p,decide (bs.getD 0 0=255)=p:=⟨_,rfl⟩
 rw[h_q1,h_q2,h_q3,h_q4,h_q5,h_q6,h_p1,h_p2,h_p3];have h_p1':=(CM bs.length 1).trans h_p1;have h_p2':=(CM (bs.getD 0 0) 0).trans h_p2;have h_p3':=(CM (bs.getD 0 0) 255).trans h_p3;have hb0:decide (bs.length=1)=true→bs[0]? =some (bs.getD 0 0):=fun h=>Jc (by have:=of_decide_eq_true h;omega)
 go_enter func92,ntmps92
 refine A4 ?_;iterate 12 refine k_k ?_
 refine k_s (by exact Ag rfl gg rfl rfl h_q1) ?_;iterate 2 refine k_k ?_
 cases q1
 ·iterate 3 refine k_k ?_
  refine k_s (by exact Ag rfl gg rfl rfl h_q2) ?_;iterate 2 refine k_k ?_
  cases q2
  ·iterate 3 refine k_k ?_
   refine k_s (by exact Ag rfl gg rfl rfl h_q3) ?_;iterate 2 refine k_k ?_
   cases q3
   ·iterate 3 refine k_k ?_
    refine k_s (by exact Ag rfl gg rfl rfl h_q4) ?_;iterate 2 refine k_k ?_
    cases q4
    ·iterate 3 refine k_k ?_
     refine k_s (by exact Ag rfl gg rfl rfl h_q5) ?_;iterate 2 refine k_k ?_
     cases q5
     ·iterate 3 refine k_k ?_
      refine k_s (by exact Ag rfl gg rfl rfl h_q6) ?_;iterate 2 refine k_k ?_
      cases q6
      ·iterate 6 refine k_k ?_
       exact AG (AD (AH results92 (AF rfl)) fun _ _ hr=>⟨rfl,hr.1⟩)
      ·iterate 4 refine k_k ?_
       refine k_s (by exact Ad rfl gg rfl (eo func148) (fun w' hb=>kH w' (A5 hv hb) hm)) ?_;iterate 2 refine k_k ?_
       exact AG (AD (AH results92 (AF rfl)) fun _ _ hr=>⟨rfl,hr.1⟩)
     ·iterate 4 refine k_k ?_
      refine k_s (by exact Ad rfl gg rfl (eo func147) (fun w' hb=>lC w' (A5 hv hb) hm)) ?_;iterate 2 refine k_k ?_
      exact AG (AD (AH results92 (AF rfl)) fun _ _ hr=>⟨rfl,hr.1⟩)
    ·iterate 5 refine k_k ?_
     exact AG (AD (AH results92 (AF rfl)) fun _ _ hr=>⟨rfl,hr.1⟩)
   ·iterate 4 refine k_k ?_
    refine k_s (by exact Ad rfl gg rfl (eo func146) (fun w' hb=>qz w' (A5 hv hb) hm h8)) ?_;iterate 2 refine k_k ?_
    exact AG (AD (AH results92 (AF rfl)) fun _ _ hr=>⟨rfl,hr.1⟩)
  ·iterate 4 refine k_k ?_
   refine k_s (by exact Ad rfl gg rfl (eo func145) (fun w' hb=>dU w' (A5 hv hb))) ?_;iterate 2 refine k_k ?_
   exact AG (AD (AH results92 (AF rfl)) fun _ _ hr=>⟨rfl,hr.1⟩)
 ·refine k_k ?_
  cases p1<;>cases p2<;>cases p3<;>
  (
   iterate 3 refine k_k ?_
   refine CU ?_;refine k_s (by exact Ag rfl gg rfl rfl h_p1') ?_;refine Cz ?_;refine Zg ?_;refine k_s (by first|exact Ev.skip (fun _=>rfl)|exact Cb rfl (fun _=>rfl) rfl underlying5 rfl (AW hv) (JH (hb0 h_p1))) ?_;refine k_s (by first|exact Ev.skip (fun _=>rfl)|exact Ag rfl (fun _=>rfl) rfl rfl h_p2') ?_;iterate 2 refine k_0 ?_
   refine Zg ?_;refine k_s (by first|exact Ev.skip (fun _=>rfl)|exact Cb rfl (fun _=>rfl) rfl underlying5 rfl (AW hv) (JH (hb0 h_p1))) ?_;refine k_s (by first|exact Ev.skip (fun _=>rfl)|exact Ag rfl (fun _=>rfl) rfl rfl h_p3') ?_;refine Eo ?_;iterate 3 refine k_k ?_
   exact AG (AD (AH results92 (AF rfl)) fun _ _ hr=>⟨rfl,hr.1⟩)
  )
inductive Tr where
 |mk (tag:Int) (body:List Nat) (kids:List Tr)
mutual
def DN(w:World)(S:Nat→Prop):Tr→List Value→Prop
 | .mk t b ks,xs=> ∃bv kv cs,xs=[.int .i64 t,bv,kv]∧AO w bv b.length 1 (b.map b8) S∧AO w kv ks.length 3 cs S∧DNs w S ks cs
def DNs(w:World)(S:Nat→Prop):List Tr→List Value→Prop
 | [],xs=>xs=[]
 |k::ks,xs=> ∃x y,xs=x++y∧DN w S k x∧DNs w S ks y
end
mutual
def Tr.ok:Tr→Prop
 | .mk _ b ks=>(∀x∈b,x<256)∧b.length≤1048576∧ks.length≤1048576∧oks ks
def oks:List Tr→Prop
 | []=>True
 |k::ks=>k.ok∧oks ks
end
mutual
def Ak:Tr→Nat→Bool
 | .mk t b ks,d=>bif decide (d>8)then false else bif !(CB t)then(decide (ks.length=0) && Fg t b)else bif (decide (b.length>0)||decide (ks.length>20))then false else !(Bs ks (d+1))
def Bs:List Tr→Nat→Bool
 | [],_=>false
 |k::ks,d=> !(Ak k d)||Bs ks d
end
def nr(d:Nat)(k:Tr):Bool:= !(Ak k (d+1))
theorem YI(d:Nat): ∀ks,Bs ks d=ks.any (fun k=> !(Ak k d))
 | []=>by simp[Bs]
 |k::ks=>by simp only[Bs,List.any_cons,YI d ks]
theorem CS{w:World}{t:Tr}(h:DN w S t xs):xs.length=3:=by
 cases t with
 |mk t b ks=>simp only[DN]at h;obtain⟨_,_,_,rfl,_⟩:=h;rfl
theorem Nx{w:World}{S:Nat→Prop}: ∀{ks:List Tr} {cs:List Value},DNs w S ks cs→ ∀{i:Nat} {k:Tr},ks[i]? =some k→ ∃x,(cs.drop (i*3)).take 3=x∧DN w S k x
 | [],_,_,i,k,h=>by cases h
 |k0::ks,cs,h,i,k,hk=>by
  simp only[DNs]at h;obtain⟨x,y,rfl,h1,h2⟩:=h;have hx:=CS h1;cases i with
  |zero=>
   simp only[List.getElem?_cons_zero,Option.some.injEq]at hk;subst hk;exact⟨x,by rw[Nat.zero_mul,List.drop_zero,←hx];exact List.take_left,h1⟩
  |succ i=>
   obtain⟨x',e,h3⟩:=Nx h2 (i:=i) (k:=k) (by simpa using hk);refine⟨x',?_,h3⟩;rw[show(i+1)*3=3+i*3 by omega,←hx,List.drop_append,List.drop_of_length_le (by omega),List.nil_append,←e,hx];congr 2
   omega
mutual
theorem ED{w w':World}{S:Nat→Prop}(hb:Bw w w'): ∀{t:Tr} {xs:List Value},DN w S t xs→DN w' S t xs
 | .mk t b ks,xs,h=>by
   simp only[DN]at h⊢;obtain⟨bv,kv,cs,h1,h2,h3,h4⟩:=h;exact⟨bv,kv,cs,h1,A5 h2 hb,A5 h3 hb,LY hb h4⟩
theorem LY{w w':World}{S:Nat→Prop}(hb:Bw w w'): ∀{ks:List Tr} {xs:List Value},DNs w S ks xs→DNs w' S ks xs
 | [],xs,h=>by simp only[DNs]at h ⊢; exact h
 |k::ks,xs,h=>by
  simp only[DNs]at h⊢;obtain⟨x,y,h1,h2,h3⟩:=h;exact⟨x,y,h1,ED hb h2,LY hb h3⟩
end
def GC{α:Type}(p:α→Bool):List α→Nat→Int
 | [],_=> -1
 |b::r,k=>if p b then(k:Nat)else GC p r (k+1)
theorem Tk{p:α→Bool}{b:α}{r:List α}(h:p b=true):GC p (b::r) k=(k:Nat):=if_pos h
theorem Zy{p:α→Bool}{b:α}{r:List α}(h:p b=false):GC p (b::r) k=GC p r (k+1):=if_neg (by simp[h])
theorem Zz{α:Type}(p:α→Bool): ∀(l:List α) (k:Nat),decide (GC p l k≥0)=l.any p
 | [],k=>by simp[GC]
 |b::r,k=>by
  cases h:p b with
  |true=>rw[Tk h,List.any_cons,h,Bool.true_or];exact decide_eq_true (by omega)
  |false=>rw[Zy h,Zz p r (k+1),List.any_cons,h,Bool.false_or]
def LS(t:Tr):Prop:= ∀(d:Nat) (xs:List Value) (w:World) (S:Nat→Prop),d≤9→DN w S t xs→Calls prog 48 #[.agg xs.toArray,.int .i64 (d:Nat)] w fun e w'=>e= .returned (.bool (Ak t d))∧Bw w w'
theorem pd{k:Tr}(ih:LS k){a:Addr}(w:World)(hx:DN w S k [.int .i64 t,bv,kv])(hc:w.cell? a=some (.int .i64 (d:Nat)))(hd:d≤8):Calls prog 94 #[.agg #[.int .i64 t,bv,kv],.pointer (some a)] w fun e w'=>e= .returned (.bool (nr d k))∧Bw w w':=by
 go_enter func94,ntmps94
 refine Hy ?_
 refine FY ?_;refine DJ ?_;refine Px ?_;refine k_s (by exact Ad rfl gg rfl (eo func48) (fun w' hb=>ih (d+1) _ w' _ (by omega) (ED hb hx))) ?_;iterate 3 refine k_k ?_
 exact AG (AD (AH results94 (AF rfl)) fun _ _ hr=>⟨rfl,hr.1⟩)
theorem nF{ks:List Tr}{cs:List Value}{a:Addr}(hih: ∀k∈ks,LS k)(hv:AO w kv ks.length 3 cs S)(hn:DNs w S ks cs)(hm:ks.length≤1048576)(hc:w.cell? a=some (.int .i64 (d:Nat)))(hd:d≤8):Calls prog 149 #[kv,Nn 94 (.pointer (some a))] w fun e w'=>e= .returned (.int .i64 (GC (nr d) ks 0))∧Bw w w':=by
 go_enter func149,ntmps149
 refine C6 ?_
 refine k_s (by exact BU rfl gg rfl underlying59 (AW hv)) ?_;iterate 3 refine k_k ?_
 refine Bo (α:={i:Nat // i≤ks.length∧GC (nr d) ks 0=GC (nr d) (ks.drop i) i}) (fun(x:{i:Nat // i≤ks.length∧GC (nr d) ks 0=GC (nr d) (ks.drop i) i}) f=>⟨[.v kv,.v (Nn 94 (.pointer (some a))),.v (f 2),.v (f 3),.v (f 4),.v (f 5),.v kv,.v (.int .i64 (ks.length:Nat)),.v (.int .i64 (x.1:Nat)),.v (f 9),.v (f 10),.v (f 11),.v (f 12),.v (f 13),.v (f 14),.v (f 15),.v (f 16),.v (f 17),.v (f 18)],AJ []⟩) (fun x=>ks.length-x.1) ?_ (⟨0,Nat.zero_le _,rfl⟩) ?_
 ·rintro⟨i,hi,hidx⟩ f
  obtain⟨q,h_q⟩: ∃q,decide ((i:Int)<(ks.length:Int))=q:=⟨_,rfl⟩
  refine Ch ?_
  refine F6 ?_
  cases q
  ·refine k_k ?_
   have hge:ks.length≤i:=by have:=of_decide_eq_false h_q;omega
   rw[List.drop_eq_nil_of_le hge]at hidx;refine As ?_;refine CN ?_
   refine AG ?_;refine AD (AH results149 (AF rfl)) ?_;intro ρ w' hr
   (first|(refine⟨?_,hr.1⟩;rw[hidx];rfl)|(refine⟨?_,hr.1⟩;rw[hidx,Bj hk,Tk h_q2];rfl))
  ·refine k_k ?_
   have hlt:i<ks.length:=by have:=of_decide_eq_true h_q;omega
   obtain⟨kk,hk⟩:=EV hlt;obtain⟨x,hx,hdn⟩:=Nx hn hk;obtain⟨t,b,kks,rfl⟩: ∃t b kks,kk=Tr.mk t b kks:=by cases kk with|mk t b kks=>exact⟨t,b,kks,rfl⟩
   have hdn':=hdn;simp only[DN]at hdn';obtain⟨bv',kv',cs',rfl,_,_,_⟩:=hdn';obtain⟨q2,h_q2⟩: ∃q2,nr d (.mk t b kks)=q2:=⟨_,rfl⟩
   iterate 13 refine k_k ?_
   refine k_s (by exact Bc (k:=i) rfl gg rfl rfl underlying59 sizeOf61 (AW hv) (hlt) (by decide)) ?_;refine k_s (by exact LF rfl gg rfl underlying61 rfl sizeOf61 (AW hv) (hx) rfl (by decide)) ?_;refine k_s (by exact aa rfl gg rfl rfl (eo func94) (fun w' hb=>h_q2▸pd (hih _ (List.mem_of_getElem? hk)) w' (ED hb hdn) (hb.cell hc) hd)) ?_;refine k_k ?_;cases q2
   ·iterate 3 refine k_k ?_
    refine ER ?_;iterate 2 refine k_k ?_
    refine⟨⟨i+1,by omega,by rw[hidx,Bj hk,Zy h_q2]⟩,by show ks.length-(i+1)<ks.length-i;omega,?_⟩;exact Ar (fun i=>i==0||i==1||i==6||i==7||i==8) []
   ·iterate 6 refine k_k ?_
    refine AG ?_;refine AD (AH results149 (AF rfl)) ?_;intro ρ w' hr
    (first|(refine⟨?_,hr.1⟩;rw[hidx];rfl)|(refine⟨?_,hr.1⟩;rw[hidx,Bj hk,Tk h_q2];rfl))
 ·exact Ar (fun i=>i==0||i==1||i==6||i==7||i==8) []
theorem pS{ks:List Tr}{cs:List Value}{a:Addr}(hih: ∀k∈ks,LS k)(hv:AO w kv ks.length 3 cs S)(hn:DNs w S ks cs)(hm:ks.length≤1048576)(hc:w.cell? a=some (.int .i64 (d:Nat)))(hd:d≤8):Calls prog 93 #[kv,Nn 94 (.pointer (some a))] w fun e w'=>e= .returned (.bool (Bs ks (d+1)))∧Bw w w':=by
 go_enter func93,ntmps93
 refine C6 ?_
 refine k_s (by exact Ad rfl gg rfl (eo func149) (fun w' hb=>nF w' hih (A5 hv hb) (LY hb hn) hm (hb.cell hc) hd)) ?_;refine k_s (by exact B4 rfl gg rfl rfl ((Zz _ ks 0).trans (YI (d+1) ks).symm)) ?_;iterate 2 refine k_k ?_
 exact AG (AD (AH results93 (AF rfl)) fun _ _ hr=>⟨rfl,hr.1⟩)
theorem gN{b:List Nat}{ks:List Tr}{cs:List Value}(hih: ∀k∈ks,LS k)(hbv:AO w bv b.length 1 (b.map b8) S)(hv:AO w kv ks.length 3 cs S)(hn:DNs w S ks cs)(h8: ∀x∈b,x<256)(hbl:b.length≤1048576)(hm:ks.length≤1048576)(hd9:d≤9):Calls prog 48 #[.agg #[.int .i64 t,bv,kv],.int .i64 (d:Nat)] w fun e w'=>e= .returned (.bool (Ak (.mk t b ks) d))∧Bw w w':=by
 unfold Ak;obtain⟨q1,h_q1⟩: ∃p,decide (d>8)=p:=⟨_,rfl⟩
 obtain⟨q2,h_q2⟩: ∃p,CB t=p:=⟨_,rfl⟩
 obtain⟨q3,h_q3⟩: ∃p,decide (ks.length=0)=p:=⟨_,rfl⟩
 obtain⟨q5,h_q5⟩: ∃p,decide (b.length>0)=p:=⟨_,rfl⟩
 obtain⟨q6,h_q6⟩: ∃p,decide (ks.length>20)=p:=⟨_,rfl⟩
 rw[h_q1,h_q2,h_q3,h_q5,h_q6];have h_q1':=(Cr d 8).trans h_q1;have h_q3':=(CM ks.length 0).trans h_q3;have h_q5':=(Cr b.length 0).trans h_q5;have h_q6':=(Cr ks.length 20).trans h_q6
 go_enter func48,ntmps48
 refine Fy ?_
 refine DJ ?_;refine k_s (by exact BV rfl gg rfl rfl h_q1') ?_;iterate 2 refine k_k ?_
 cases q1
 ·iterate 3 refine k_k ?_
  refine Kv ?_;refine DJ ?_;refine k_s (by exact Ad (v:= .bool q2) rfl gg rfl (eo func91) (fun w' hb=>h_q2▸S4 t w')) ?_;iterate 3 refine k_k ?_
  cases q2
  ·refine k_k ?_
   cases q3<;>
   (
    iterate 2 refine k_k ?_
    refine Mv ?_;refine P1 ?_;refine k_s (by exact BU rfl gg rfl underlying59 (AW hv)) ?_;refine k_s (by exact Ag rfl gg rfl rfl h_q3') ?_;refine k_k ?_;refine k_s (by first|exact Ev.skip (fun _=>rfl)|exact BG rfl (fun _=>rfl) rfl underlying61 rfl sizeOf3|exact BF rfl (fun _=>rfl) rfl underlying61 rfl sizeOf3) ?_;refine Ze ?_;refine PZ ?_;refine PY ?_;refine k_s (by first|exact Ev.skip (fun _=>rfl)|exact Ad rfl (fun _=>rfl) rfl (eo func92) (fun w' hb=>br t w' (A5 hbv hb) (by omega) h8)) ?_;iterate 3 refine k_k ?_
    exact AG (AD (AH results48 (AF rfl)) fun _ _ hr=>⟨rfl,hr.1⟩)
   )
  ·refine k_k ?_
   cases q5<;>cases q6<;>
   (
    iterate 2 refine k_k ?_
    refine Kw ?_;refine HQ ?_;refine k_s (by exact BU rfl gg rfl underlying23 (AW hbv)) ?_;refine k_s (by exact BV rfl gg rfl rfl h_q5') ?_;refine k_k ?_;refine Zh ?_;refine Zf ?_;refine k_s (by first|exact Ev.skip (fun _=>rfl)|exact BU rfl (fun _=>rfl) rfl underlying59 (AW hv)) ?_;refine k_s (by first|exact Ev.skip (fun _=>rfl)|exact BV rfl (fun _=>rfl) rfl rfl h_q6') ?_;iterate 3 refine k_k ?_
    first
    |(
     iterate 5 refine k_k ?_
     exact AG (AD (AH results48 (AF rfl)) fun _ _ hr=>⟨rfl,hr.1⟩)
     )
    |(
     iterate 4 refine k_k ?_
     refine Mv ?_;refine P1 ?_;refine k_s (by exact oI rfl gg rfl) ?_;refine k_s (by exact Aj (v:= .bool (Bs ks (d+1))) [3] rfl gg rfl (eo func93) (fun ρ S' w' hb hR=>pS w' hih (A5 hv hb) (LY hb hn) hm (Rx hR (by simp) rfl 0 [.int .i64 (d:Nat)] rfl 0 _ rfl) (by have:=of_decide_eq_false h_q1;omega))) ?_;iterate 3 refine k_k ?_
     exact AG (AD (AH results48 (AF rfl)) fun _ _ hr=>⟨rfl,hr.1⟩)
     )
   )
 ·iterate 5 refine k_k ?_
  exact AG (AD (AH results48 (AF rfl)) fun _ _ hr=>⟨rfl,hr.1⟩)
mutual
theorem Oh: ∀t:Tr,t.ok→LS t
 | .mk t b ks,h=>fun d xs w S hd hx=>by
   simp only[Tr.ok]at h;simp only[DN]at hx;obtain⟨bv,kv,cs,rfl,h2,h3,h4⟩:=hx;exact gN w (WB ks h.2.2.2) h2 h3 h4 h.1 h.2.1 h.2.2.1 hd
theorem WB: ∀ks:List Tr,oks ks→ ∀k∈ks,LS k
 | [],_=>fun k hk=>by cases hk
 |k0::ks,h=>fun k hk=>by
  simp only[oks]at h;rcases List.mem_cons.1 hk with e|hk
  ·exact e▸Oh k0 h.1
  ·exact WB ks h.2 k hk
end
end
end Go.Proofs.YtafbhakmkbehiaaGreatDoor
