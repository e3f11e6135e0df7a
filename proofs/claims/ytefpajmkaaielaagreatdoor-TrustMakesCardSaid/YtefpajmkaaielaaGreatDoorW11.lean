import Derived.Laws.BitsAllLaws
import Derived.Test.YtefpajmkaaielaaGreatDoorW9
import Derived.Test.YtefpajmkaaielaaGreatDoorW10
open Go.Proofs.Tryz
set_option maxHeartbeats 4000000
set_option maxRecDepth 100000
namespace Go.Proofs.YtefpajmkaaielaaGreatDoor
section
open Go.RowKit Go.Toll
variable{n x y:Nat}
open TollMont
open TollEc (F pp cb Jp Pt CX Cz AZ add base nn)
theorem nPV(p:Pt):Value.cells (PV p)= #[.int .u8 (byt (xv p) 0:Nat),.int .u8 (byt (xv p) 1:Nat),.int .u8 (byt (xv p) 2:Nat),.int .u8 (byt (xv p) 3:Nat),.int .u8 (byt (xv p) 4:Nat),.int .u8 (byt (xv p) 5:Nat),.int .u8 (byt (xv p) 6:Nat),.int .u8 (byt (xv p) 7:Nat),.int .u8 (byt (xv p) 8:Nat),.int .u8 (byt (xv p) 9:Nat),.int .u8 (byt (xv p) 10:Nat),.int .u8 (byt (xv p) 11:Nat),.int .u8 (byt (xv p) 12:Nat),.int .u8 (byt (xv p) 13:Nat),.int .u8 (byt (xv p) 14:Nat),.int .u8 (byt (xv p) 15:Nat),.int .u8 (byt (xv p) 16:Nat),.int .u8 (byt (xv p) 17:Nat),.int .u8 (byt (xv p) 18:Nat),.int .u8 (byt (xv p) 19:Nat),.int .u8 (byt (xv p) 20:Nat),.int .u8 (byt (xv p) 21:Nat),.int .u8 (byt (xv p) 22:Nat),.int .u8 (byt (xv p) 23:Nat),.int .u8 (byt (xv p) 24:Nat),.int .u8 (byt (xv p) 25:Nat),.int .u8 (byt (xv p) 26:Nat),.int .u8 (byt (xv p) 27:Nat),.int .u8 (byt (xv p) 28:Nat),.int .u8 (byt (xv p) 29:Nat),.int .u8 (byt (xv p) 30:Nat),.int .u8 (byt (xv p) 31:Nat),.int .u8 (byt (yv p) 0:Nat),.int .u8 (byt (yv p) 1:Nat),.int .u8 (byt (yv p) 2:Nat),.int .u8 (byt (yv p) 3:Nat),.int .u8 (byt (yv p) 4:Nat),.int .u8 (byt (yv p) 5:Nat),.int .u8 (byt (yv p) 6:Nat),.int .u8 (byt (yv p) 7:Nat),.int .u8 (byt (yv p) 8:Nat),.int .u8 (byt (yv p) 9:Nat),.int .u8 (byt (yv p) 10:Nat),.int .u8 (byt (yv p) 11:Nat),.int .u8 (byt (yv p) 12:Nat),.int .u8 (byt (yv p) 13:Nat),.int .u8 (byt (yv p) 14:Nat),.int .u8 (byt (yv p) 15:Nat),.int .u8 (byt (yv p) 16:Nat),.int .u8 (byt (yv p) 17:Nat),.int .u8 (byt (yv p) 18:Nat),.int .u8 (byt (yv p) 19:Nat),.int .u8 (byt (yv p) 20:Nat),.int .u8 (byt (yv p) 21:Nat),.int .u8 (byt (yv p) 22:Nat),.int .u8 (byt (yv p) 23:Nat),.int .u8 (byt (yv p) 24:Nat),.int .u8 (byt (yv p) 25:Nat),.int .u8 (byt (yv p) 26:Nat),.int .u8 (byt (yv p) 27:Nat),.int .u8 (byt (yv p) 28:Nat),.int .u8 (byt (yv p) 29:Nat),.int .u8 (byt (yv p) 30:Nat),.int .u8 (byt (yv p) 31:Nat)]:=rfl
theorem vE{x' y':Nat}(hx:x<R)(hy:y<R)(hx':x'<R)(hy':y'<R){s:Pt}(h:add (toP x y) (toP x' y')=s)(w:World)(hL:Laid w):CGy 99 #[PT x y,PT x' y'] w (PV s):=by
 have:=vD hx hy hx' hy' w hL;rw[TollEc.jadd_rep _ _ (by rw[Iq];exact Ll _ _) (by rw[Iq];exact Ll _ _),Iq,Iq,h]at this;exact this
theorem vF{p q s:Pt}(h:add p q=s)(hp:p.on)(hq:q.on)(w:World)(hL:Laid w):CGy 99 #[PV p,PV q] w (PV s):=
 vE (F3 p) (LZ p) (F3 q) (LZ q) (by rw[OX hp,OX hq];exact h) w hL
theorem ZO(hn:n<R)(hx:x<R)(hy:y<R){s:Pt}(h:AZ n (toP x y)=s)(w:World)(hL:Laid w):CGy 32 #[B32 n,PT x y] w (PV s):=by
 have:=uR hn hx hy w hL;rw[TollEc.ladder_all n (show n<2^256 from hn) _ (by rw[Iq];exact Ll _ _),Iq,h]at this;exact this
theorem Rl{p s:Pt}(hn:n<R)(h:AZ n p=s)(hp:p.on)(w:World)(hL:Laid w):CGy 32 #[B32 n,PV p] w (PV s):=
 ZO hn (F3 p) (LZ p) (by rw[OX hp];exact h) w hL
theorem rm(w:World)(hL:Laid w):CGy 33 #[] w (PV base):=rl w hL
theorem mdn:Md nn:=⟨by decide,by decide,by decide⟩
theorem om:BOy .eql 87 (PV .inf) (Gz) (.bool true):=fun a b w=>oi rfl rfl a b w
theorem dq{p:Pt}(h:p.on):(xv p=0∧yv p=0)↔p= .inf:=by
 cases p with
 |inf=>exact⟨fun _=>rfl,fun _=>⟨rfl,rfl⟩⟩
 |aff x y=>
  refine⟨fun⟨a,b⟩=> ?_,fun c=>by cases c⟩;have hx:x=⟨0,by decide⟩:=Fin.ext a;have hy:y=⟨0,by decide⟩:=Fin.ext b;subst hx hy;exact absurd (MS.2 h) (by decide+kernel)
theorem XY{p:Pt}(hp:p.on)(h:p≠ .inf):BOy .eql 87 (PV p) (Gz) (.bool false):=fun a b w=>
 oh (F3 p) (LZ p) (fun c=>h ((dq hp).1 c)) a b w
theorem kD:lim (TollEc.bx.val) 0=17627433388654248598∧lim (TollEc.bx.val) 1=8575836109218198432∧lim (TollEc.bx.val) 2=17923454489921339634∧lim (TollEc.bx.val) 3=7716867327612699207:=by decide+kernel
theorem kC:lim (TollEc.bY.val) 0=14678990851816772085∧lim (TollEc.bY.val) 1=3156516839386865358∧lim (TollEc.bY.val) 2=10297457778147434006∧lim (TollEc.bY.val) 3=5756518291402817435:=by decide+kernel
theorem kA:lim (nn) 0=17562291160714782033∧lim (nn) 1=13611842547513532036∧lim (nn) 2=18446744073709551615∧lim (nn) 3=18446744069414584320:=by decide+kernel
theorem j9:lim (pp) 0=18446744073709551615∧lim (pp) 1=4294967295∧lim (pp) 2=0∧lim (pp) 3=18446744069414584321:=by decide+kernel
theorem j8:lim (cb.val) 0=4309448131093880907∧lim (cb.val) 1=7285987128567378166∧lim (cb.val) 2=12964664127075681980∧lim (cb.val) 3=6540974713487397863:=by decide+kernel
end
section
open Go.RowKit Go.Vx
variable(w:World){cap:Array Value}{fid:FuncId}{t:Int}{bs r rd:List Nat}{xs:List Value}{a b b0 d i k n x y:Nat}{p:Nat→Bool}{ρ:Nat→Nm}{S:Nat→Prop}{α:Type}{bv kv v:Value}
open TollMont
open Go.Toll (Gw)
open TollEc (F pp cb Jp Pt AZ add base nn neg)
theorem nmx:type_of%Go.Vx.nm∧type_of%nNF∧type_of%nTF∧type_of%MZ∧type_of%nPT∧type_of%nFV∧type_of%nN∧type_of%nPV:=⟨Go.Vx.nm,nNF,nTF,MZ,nPT,nFV,nN,nPV⟩
def l32(n:Nat):List Value:=[.int .u8 (byt n 0:Nat),.int .u8 (byt n 1:Nat),.int .u8 (byt n 2:Nat),.int .u8 (byt n 3:Nat),.int .u8 (byt n 4:Nat),.int .u8 (byt n 5:Nat),.int .u8 (byt n 6:Nat),.int .u8 (byt n 7:Nat),.int .u8 (byt n 8:Nat),.int .u8 (byt n 9:Nat),.int .u8 (byt n 10:Nat),.int .u8 (byt n 11:Nat),.int .u8 (byt n 12:Nat),.int .u8 (byt n 13:Nat),.int .u8 (byt n 14:Nat),.int .u8 (byt n 15:Nat),.int .u8 (byt n 16:Nat),.int .u8 (byt n 17:Nat),.int .u8 (byt n 18:Nat),.int .u8 (byt n 19:Nat),.int .u8 (byt n 20:Nat),.int .u8 (byt n 21:Nat),.int .u8 (byt n 22:Nat),.int .u8 (byt n 23:Nat),.int .u8 (byt n 24:Nat),.int .u8 (byt n 25:Nat),.int .u8 (byt n 26:Nat),.int .u8 (byt n 27:Nat),.int .u8 (byt n 28:Nat),.int .u8 (byt n 29:Nat),.int .u8 (byt n 30:Nat),.int .u8 (byt n 31:Nat)]
def wb(x y:Nat):List Value:= .int .u8 4::(l32 x++l32 y)
theorem Laid.bw{w w':World}(h:Laid w)(hb:Bw w w'):Laid w':=⟨fun j v hj=>hb.cell (h.bx j v hj),fun j v hj=>hb.cell (h.bY j v hj),fun j v hj=>hb.cell (h.nn j v hj),fun j v hj=>hb.cell (h.pp j v hj),fun j v hj=>hb.cell (h.cb j v hj)⟩
theorem i5:C2 prog 5 1 1:=by unfold C2;kernel_rfl
theorem SK: ∀l:List Value,unV (l.map SV.v)=some l
 | []=>rfl
 |x::l=>by simp only[List.map_cons,unV,SK l]
theorem N1{w0 w:World}{S:Nat→Nat→Prop}{m:Mem}{id:Nat}(hR:RelOn w0.heap.size ρ S w (restr rd m))(hid:id∈rd)(hm:m id=some (.cells ((Cc n).map .v) 150)):At w (ρ id).g n:=
 O6 hR hid hm 0 (Cc n) (by rw[List.drop_zero];show unV (((Cc n).map SV.v).take (Cc n).length)=_;rw[List.take_of_length_le (by simp)];exact SK _)
theorem Zp(hx:x<R)(hy:y<R)(w:World)(hL:Laid w)(h:onB x y=true):CRy 31 #[PT x y] w (65) (wb x y):=by
 go_enter func31,ntmps31
 refine AO ?_;iterate 8 refine AA ?_
 refine M7 ?_;refine AA ?_;refine AB (by exact Aj (v:= .bool true) [3] rfl gg rfl (eo func60) (fun ρ S w' hb hR=>(h▸KF hx hy w' (N1 hR (by simp) rfl) (hL.bw hb)).mono fun _ _ h=>⟨h.1,h.2.b⟩)) ?_;iterate 6 refine AA ?_
 refine AB (by exact BV rfl rfl gg rfl (e:=5) (l:=[.int .u8 4]) rfl (by decide) (fun _=>by kernel_rfl)) ?_;refine AB (by first|exact Cn rfl gg rfl underlying87 rfl sizeOf46|exact Cm rfl gg rfl underlying87 rfl sizeOf46) ?_;refine D8 ?_;refine AB (by exact C1 rfl rfl gg rfl rfl rfl (GK (l:=l32 x) rfl rfl rfl (by decide)) underlying26 i5 (by decide) rfl rfl (by decide) (by decide) rfl) ?_;refine AB (by first|exact Cn rfl gg rfl underlying87 rfl sizeOf46|exact Cm rfl gg rfl underlying87 rfl sizeOf46) ?_;refine D8 ?_;refine AB (by exact C1 rfl rfl gg rfl rfl rfl (GK (l:=l32 y) rfl rfl rfl (by decide)) underlying26 i5 (by decide) rfl rfl (by decide) (by decide) rfl) ?_;iterate 2 refine AA ?_
 refine AG ?_;refine AD (AM results31 (AE rfl)) ?_;intro ρ w' hr;exact⟨_,rfl,BR hr rfl,hr.1⟩
theorem Zq(hx:x<R)(hy:y<R)(w:World)(hL:Laid w)(h:onB x y=false):CRy 31 #[PT x y] w (0) ([]):=by
 go_enter func31,ntmps31
 refine AO ?_;iterate 8 refine AA ?_
 refine M7 ?_;refine AA ?_;refine AB (by exact Aj (v:= .bool false) [3] rfl gg rfl (eo func60) (fun ρ S w' hb hR=>(h▸KF hx hy w' (N1 hR (by simp) rfl) (hL.bw hb)).mono fun _ _ h=>⟨h.1,h.2.b⟩)) ?_;iterate 7 refine AA ?_
 refine AG ?_;refine AD (AM results31 (AE rfl)) ?_;intro ρ w' hr;exact⟨_,rfl,HG _ _ _ _,hr.1⟩
theorem dQ{l:List Value}(_hL:Laid w)(hv:AJ w v n 1 l S)(hn:n≠65):CBy 34 #[v] w (.tuple #[Gz,.int .i64 15]):=by
 go_enter func34,ntmps34
 refine AO ?_;iterate 2 refine k_g ?_
 iterate 7 refine AA ?_
 refine Iz ?_;refine AB (by exact A0 (p:=true) rfl gg rfl rfl (decide_eq_true (by omega))) ?_;iterate 2 refine AA ?_
 refine AB (by first|exact Ev.skip (fun _=>rfl)|exact Gk rfl (fun _=>rfl) rfl rfl underlying26 sizeOf5 (by decide) (by decide)|exact Gj rfl (fun _=>rfl) rfl rfl underlying26 sizeOf5 (by decide) (by decide)) ?_;refine AB (by first|exact Ev.skip (fun _=>rfl)|exact Cl rfl (fun _=>rfl) rfl rfl underlying5 rfl rfl|exact Ck rfl (fun _=>rfl) rfl underlying5 rfl (by assumption)) ?_;refine DW ?_;iterate 5 refine AA ?_
 refine AB (by exact Ar rfl gg rfl (Ht)) ?_;iterate 3 refine AA ?_
 exact AG (AD (Av results34 (Ad rfl rfl underlying87 rfl sizeOf87 rfl rfl) (AE rfl)) fun _ _ hr=>⟨rfl,hr.1⟩)
theorem dK{l:List Value}(_hL:Laid w)(hv:AJ w v 65 1 (.int .u8 (b:Nat)::l) S)(hb:b≠4):CBy 34 #[v] w (.tuple #[Gz,.int .i64 15]):=by
 go_enter func34,ntmps34
 refine AO ?_;iterate 2 refine k_g ?_
 iterate 7 refine AA ?_
 refine Iz ?_;refine C9 ?_;iterate 2 refine AA ?_
 refine QN ?_;refine QI ?_;refine AB (by first|exact Ev.skip (fun _=>rfl)|exact A0 (p:=true) rfl (fun _=>rfl) rfl rfl (decide_eq_true (by omega))) ?_;iterate 5 refine AA ?_
 refine AB (by exact Ar rfl gg rfl (Ht)) ?_;iterate 3 refine AA ?_
 exact AG (AD (Av results34 (Ad rfl rfl underlying87 rfl sizeOf87 rfl rfl) (AE rfl)) fun _ _ hr=>⟨rfl,hr.1⟩)
theorem dL(hx:x<R)(hy:y<R)(w:World)(hL:Laid w)(hv:AJ w v 65 1 (wb x y) S)(h:onB x y=true):CBy 34 #[v] w (.tuple #[PT x y,.int .i64 0]):=by
 go_enter func34,ntmps34
 refine AO ?_;iterate 2 refine k_g ?_
 iterate 7 refine AA ?_
 refine Iz ?_;refine C9 ?_;iterate 2 refine AA ?_
 refine QN ?_;refine QI ?_;refine AB (by first|exact Ev.skip (fun _=>rfl)|exact A0 (p:=false) rfl (fun _=>rfl) rfl rfl (by decide)) ?_;iterate 7 refine AA ?_
 refine AB (by exact Hl (a:=1) (b:=33) rfl gg rfl underlying26 sizeOf5 (AW hv) rfl rfl (by decide) (by decide)) ?_;refine AB (by exact JK rfl gg rfl underlying46 (HJ (lo:=1) (hi:=33) (AW hv) (by decide) (by decide)) (by decide)) ?_;refine WI ?_;refine AA ?_;refine AB (by exact Hl (a:=33) (b:=65) rfl gg rfl underlying26 sizeOf5 (AW hv) rfl rfl (by decide) (by decide)) ?_;refine AB (by exact JK rfl gg rfl underlying46 (HJ (lo:=33) (hi:=65) (AW hv) (by decide) (by decide)) (by decide)) ?_;refine WJ ?_;refine AB (by exact Ar rfl gg rfl (Nu x y)) ?_;iterate 2 refine AA ?_
 iterate 4 refine k_g ?_
 refine M7 ?_;refine AA ?_;refine AB (by exact Aj (v:= .bool true) [24] rfl gg rfl (eo func60) (fun ρ S w' hb hR=>(h▸KF hx hy w' (N1 hR (by simp) rfl) (hL.bw hb)).mono fun _ _ h=>⟨h.1,h.2.b⟩)) ?_;iterate 10 refine AA ?_
 exact AG (AD (Av results34 (Ad rfl rfl underlying87 rfl sizeOf87 rfl rfl) (AE rfl)) fun _ _ hr=>⟨rfl,hr.1⟩)
theorem dM(hx:x<R)(hy:y<R)(w:World)(hL:Laid w)(hv:AJ w v 65 1 (wb x y) S)(h:onB x y=false):CBy 34 #[v] w (.tuple #[Gz,.int .i64 15]):=by
 go_enter func34,ntmps34
 refine AO ?_;iterate 2 refine k_g ?_
 iterate 7 refine AA ?_
 refine Iz ?_;refine C9 ?_;iterate 2 refine AA ?_
 refine QN ?_;refine QI ?_;refine AB (by first|exact Ev.skip (fun _=>rfl)|exact A0 (p:=false) rfl (fun _=>rfl) rfl rfl (by decide)) ?_;iterate 7 refine AA ?_
 refine AB (by exact Hl (a:=1) (b:=33) rfl gg rfl underlying26 sizeOf5 (AW hv) rfl rfl (by decide) (by decide)) ?_;refine AB (by exact JK rfl gg rfl underlying46 (HJ (lo:=1) (hi:=33) (AW hv) (by decide) (by decide)) (by decide)) ?_;refine WI ?_;refine AA ?_;refine AB (by exact Hl (a:=33) (b:=65) rfl gg rfl underlying26 sizeOf5 (AW hv) rfl rfl (by decide) (by decide)) ?_;refine AB (by exact JK rfl gg rfl underlying46 (HJ (lo:=33) (hi:=65) (AW hv) (by decide) (by decide)) (by decide)) ?_;refine WJ ?_;refine AB (by exact Ar rfl gg rfl (Nu x y)) ?_;iterate 2 refine AA ?_
 iterate 4 refine k_g ?_
 refine M7 ?_;refine AA ?_;refine AB (by exact Aj (v:= .bool false) [24] rfl gg rfl (eo func60) (fun ρ S w' hb hR=>(h▸KF hx hy w' (N1 hR (by simp) rfl) (hL.bw hb)).mono fun _ _ h=>⟨h.1,h.2.b⟩)) ?_;iterate 5 refine AA ?_
 refine AB (by exact Ar rfl gg rfl (Ht)) ?_;iterate 3 refine AA ?_
 exact AG (AD (Av results34 (Ad rfl rfl underlying87 rfl sizeOf87 rfl rfl) (AE rfl)) fun _ _ hr=>⟨rfl,hr.1⟩)
theorem Ua(hx:x<R)(hy:y<R):BOy .neq 46 (B32 x) (B32 y) (.bool (decide (x≠y))):=by
 intro p q w
 unfold B32
 go_simp
 rw[Qq _ hx hy];by_cases h:x=y<;>simp[h,Result.andThen]
theorem UY(hn:n<R)(h:n=0):BOy .neq 46 (B32 n) (.agg #[.int .u8 0,.int .u8 0,.int .u8 0,.int .u8 0,.int .u8 0,.int .u8 0,.int .u8 0,.int .u8 0,.int .u8 0,.int .u8 0,.int .u8 0,.int .u8 0,.int .u8 0,.int .u8 0,.int .u8 0,.int .u8 0,.int .u8 0,.int .u8 0,.int .u8 0,.int .u8 0,.int .u8 0,.int .u8 0,.int .u8 0,.int .u8 0,.int .u8 0,.int .u8 0,.int .u8 0,.int .u8 0,.int .u8 0,.int .u8 0,.int .u8 0,.int .u8 0]) (.bool false):=by
 intro p q w
 have:=Ua hn (by decide:0<R) p q w;rw[decide_eq_false (by omega)]at this;exact this
theorem UZ(hn:n<R)(h:n≠0):BOy .neq 46 (B32 n) (.agg #[.int .u8 0,.int .u8 0,.int .u8 0,.int .u8 0,.int .u8 0,.int .u8 0,.int .u8 0,.int .u8 0,.int .u8 0,.int .u8 0,.int .u8 0,.int .u8 0,.int .u8 0,.int .u8 0,.int .u8 0,.int .u8 0,.int .u8 0,.int .u8 0,.int .u8 0,.int .u8 0,.int .u8 0,.int .u8 0,.int .u8 0,.int .u8 0,.int .u8 0,.int .u8 0,.int .u8 0,.int .u8 0,.int .u8 0,.int .u8 0,.int .u8 0,.int .u8 0]) (.bool true):=by
 intro p q w
 have:=Ua hn (by decide:0<R) p q w;rw[decide_eq_true (by omega)]at this;exact this
def sec(a:Nat):Bool:=decide (a≠0∧a<nn)
theorem cP(ha:a<R)(w:World)(_hL:Laid w)(h:a=0):CBy 30 #[B32 a] w (.bool false):=by
 go_enter func30,ntmps30
 refine AO ?_;iterate 8 refine AA ?_
 refine k_9 ?_;refine AB (by exact AN (c:= .bool false) rfl gg rfl rfl (fun w=>UY ha h _ _ w)) ?_;iterate 2 refine AA ?_
 refine DW ?_;refine AA ?_;refine DW ?_;iterate 3 refine AA ?_
 exact AG (AD (AM results30 (AE rfl)) fun _ _ hr=>⟨rfl,hr.1⟩)
theorem cR(ha:a<R)(w:World)(hL:Laid w)(h:a≠0):CBy 30 #[B32 a] w (.bool (decide (a<nn))):=by
 go_enter func30,ntmps30
 refine AO ?_;iterate 8 refine AA ?_
 refine k_9 ?_;refine AB (by exact AN (c:= .bool true) rfl gg rfl rfl (fun w=>UZ ha h _ _ w)) ?_;iterate 2 refine AA ?_
 refine AB (by first|exact Ev.skip (fun _=>rfl)|exact AS rfl (fun _=>rfl) rfl (eo func41) (fun w' hw'=>ofN a ha w')) ?_;refine AB (by first|exact Ev.skip (fun _=>rfl)|exact CS rfl (fun _=>rfl) rfl underlying96 rfl sizeOf96 (hL.nn) rfl) ?_;refine WF ?_;iterate 3 refine AA ?_
 exact AG (AD (AM results30 (AE rfl)) fun _ _ hr=>⟨rfl,hr.1⟩)
theorem cQ(ha:a<R)(w:World)(hL:Laid w):CBy 30 #[B32 a] w (.bool (sec a)):=by
 by_cases h:a=0
 ·have e:sec a=false:=decide_eq_false (fun c=>c.1 h)
  rw[e];exact cP ha w hL h
 ·have e:sec a=decide (a<nn):=by unfold sec;simp[h]
  rw[e];exact cR ha w hL h
def wl:Pt→List Value
 | .inf=>[]
 | .aff x y=>wb x.val y.val
theorem Zo{p:Pt}(hp:p.on)(w:World)(hL:Laid w):CRy 31 #[PV p] w ((wl p).length) (wl p):=by
 cases p with
 |inf=>exact Zq (x:=0) (y:=0) (by decide) (by decide) w hL (by decide+kernel)
 |aff x y=>exact Zp (C4 x) (C4 y) w hL ((dif_pos ⟨x.isLt,y.isLt⟩).trans (MS.2 hp))
theorem Zs(p:Pt):(wl p).length=(wl p).length*1:=(Nat.mul_one _).symm
theorem HO(ha:a<R){q:Pt}(w:World)(hL:Laid w)(h:sec a=true)(hq:AZ a base=q)(oq:q.on):Calls prog 17 #[B32 a] w fun e w'=> ∃v,e= .returned (.tuple #[v,.int .i64 0])∧BJ w w' v ((wl q).length) 1 5 (wl q)∧Bw w w':=by
 go_enter func17,ntmps17
 refine AO ?_;iterate 10 refine AA ?_
 refine AB (by exact Ah (v:= .bool true) rfl gg rfl (eo func30) (fun w' hb=>h▸cQ ha w' (hL.bw hb))) ?_;iterate 7 refine AA ?_
 refine Kq ?_;refine AB (by exact AS rfl gg rfl (eo func32) (fun w' hw'=>Rl ha hq TollEc.base_on w' (hL.bw hw'))) ?_;refine AB (by exact Cs [] rfl rfl gg rfl (eo func31) (Zs q) (fun ρ S w' hb _=>Zo oq w' (hL.bw hb))) ?_;iterate 3 refine AA ?_
 refine AG ?_;refine AD (Av results17 (AE rfl) (AE rfl)) ?_;intro ρ w' hr;exact⟨_,rfl,BR hr rfl,hr.1⟩
theorem Xb:C2 prog 108 3 56:=by unfold C2;kernel_rfl
def Cq(t:Int):Bool:=decide (t=48)||(decide (t≥160) && decide (t≤163))
def EX:List Nat→Bool
 | []=>false
 | [_]=>true
 |b0::b1::_=> !((decide (b0=0) && decide (b1<128))||(decide (b0=255) && decide (b1≥128)))
def Co(b:Nat):Bool:=decide (b<32)||decide (b>126)
def Tz(b:List Nat):Bool:= !b.any Co
theorem DT(a c:Nat):decide ((a:Int)=(c:Int))=decide (a=c):=decide_eq_decide.2 (by omega)
theorem KU(a c:Nat):decide ((a:Int)≥(c:Int))=decide (a≥c):=decide_eq_decide.2 (by omega)
theorem Pw(t:Int)(w:World):CBy 108 #[.int .i64 t] w (.bool (Cq t)):=by
 unfold Cq;obtain⟨p1,h_p1⟩: ∃p,decide (t=48)=p:=⟨_,rfl⟩
 obtain⟨p2,h_p2⟩: ∃p,decide (t≥160)=p:=⟨_,rfl⟩
 obtain⟨p3,h_p3⟩: ∃p,decide (t≤163)=p:=⟨_,rfl⟩
 rw[h_p1,h_p2,h_p3]
 go_enter func108,ntmps108
 refine AO ?_;cases p1<;>cases p2<;>cases p3<;>
 (
  iterate 7 refine k_g ?_
  refine k_s (by exact Ax rfl gg rfl rfl h_p1) ?_;iterate 2 refine k_g ?_
  refine k_s (by first|exact Ev.skip (fun _=>rfl)|exact Dh rfl (fun _=>rfl) rfl rfl h_p2) ?_;iterate 2 refine k_g ?_
  refine k_s (by first|exact Ev.skip (fun _=>rfl)|exact XI rfl (fun _=>rfl) rfl rfl h_p3) ?_;iterate 4 refine k_g ?_
  exact AG (AD (AM results108 (AE rfl)) fun _ _ hr=>⟨rfl,hr.1⟩)
 )
theorem eU(b:Nat)(w:World):CBy 132 #[b8 b] w (.bool (Co b)):=by
 unfold Co;obtain⟨p1,h_p1⟩: ∃p,decide (b<32)=p:=⟨_,rfl⟩
 obtain⟨p2,h_p2⟩: ∃p,decide (b>126)=p:=⟨_,rfl⟩
 rw[h_p1,h_p2];rw[←Cw b 32]at h_p1;rw[←EI b 126]at h_p2
 go_enter func132,ntmps132
 refine AO ?_;cases p1<;>cases p2<;>
 (
  iterate 7 refine k_g ?_
  refine k_s (by exact Em rfl gg rfl rfl h_p1) ?_;iterate 2 refine k_g ?_
  refine k_s (by first|exact Ev.skip (fun _=>rfl)|exact Bf rfl (fun _=>rfl) rfl rfl h_p2) ?_;iterate 3 refine k_g ?_
  exact AG (AD (AM results132 (AE rfl)) fun _ _ hr=>⟨rfl,hr.1⟩)
 )
theorem SC{l:List Value}(hn:n<2)(w:World)(hv:AJ w v n 1 l S):CBy 121 #[v] w (.bool (decide (n=1))):=by
 go_enter func121,ntmps121
 refine AO ?_;iterate 8 refine k_g ?_
 refine CQ ?_;refine M5 ?_;iterate 5 refine k_g ?_
 refine CQ ?_;refine k_s (by exact Ax rfl gg rfl rfl (DT n 1)) ?_;iterate 2 refine k_g ?_
 exact AG (AD (AM results121 (AE rfl)) fun _ _ hr=>⟨rfl,hr.1⟩)
theorem Zx{b1:Nat}{l:List Value}(hn:2≤n)(w:World)(hv:AJ w v n 1 (b8 b0::b8 b1::l) S):CBy 121 #[v] w (.bool (!((decide (b0=0) && decide (b1<128))||(decide (b0=255) && decide (b1≥128))))):=by
 obtain⟨p1,h_p1⟩: ∃p,decide (b0=0)=p:=⟨_,rfl⟩
 obtain⟨p2,h_p2⟩: ∃p,decide (b1<128)=p:=⟨_,rfl⟩
 obtain⟨p3,h_p3⟩: ∃p,decide (b0=255)=p:=⟨_,rfl⟩
 obtain⟨p4,h_p4⟩: ∃p,decide (b1≥128)=p:=⟨_,rfl⟩
 rw[h_p1,h_p2,h_p3,h_p4];rw[←DT b0 0]at h_p1;rw[←Cw b1 128]at h_p2;rw[←DT b0 255]at h_p3;rw[←KU b1 128]at h_p4
 go_enter func121,ntmps121
 refine AO ?_;cases p1<;>cases p2<;>cases p3<;>cases p4<;>
 (
  iterate 8 refine k_g ?_
  refine CQ ?_;refine Iu ?_;iterate 6 refine k_g ?_
  refine k_s (by exact BU (k:=0) rfl gg rfl rfl underlying26 sizeOf5 (AW hv) (by omega) (by decide)) ?_;refine HY ?_;refine k_s (by exact Ax rfl gg rfl rfl h_p1) ?_;iterate 2 refine k_g ?_
  refine V7 ?_;refine M6 ?_;refine k_s (by first|exact Ev.skip (fun _=>rfl)|exact Em rfl (fun _=>rfl) rfl rfl h_p2) ?_;iterate 3 refine k_g ?_
  refine k_s (by first|exact Ev.skip (fun _=>rfl)|exact BU (k:=0) rfl (fun _=>rfl) rfl rfl underlying26 sizeOf5 (AW hv) (by omega) (by decide)) ?_;refine M6 ?_;refine k_s (by first|exact Ev.skip (fun _=>rfl)|exact Ax rfl (fun _=>rfl) rfl rfl h_p3) ?_;iterate 2 refine k_g ?_
  refine V7 ?_;refine M6 ?_;refine k_s (by first|exact Ev.skip (fun _=>rfl)|exact K6 rfl (fun _=>rfl) rfl rfl h_p4) ?_;iterate 5 refine k_g ?_
  exact AG (AD (AM results121 (AE rfl)) fun _ _ hr=>⟨rfl,hr.1⟩)
 )
def Dv(p:Nat→Bool):List Nat→Nat→Int
 | [],_=> -1
 |b::r,k=>if p b then(k:Nat)else Dv p r (k+1)
theorem Wm(p:Nat→Bool): ∀(l:List Nat) (k:Nat),decide (Dv p l k≥0)=l.any p
 | [],k=>by simp[Dv]
 |b::r,k=>by
  by_cases h:p b=true
  ·have e:Dv p (b::r) k=(k:Nat):=if_pos h
   rw[e,List.any_cons,h,Bool.true_or];exact decide_eq_true (by omega)
  ·have e:Dv p (b::r) k=Dv p r (k+1):=if_neg h
   rw[e,Wm p r (k+1),List.any_cons];simp[h]
theorem Gh{l:List α}(h:i<l.length): ∃x,l[i]? =some x:=⟨l[i],List.getElem?_eq_getElem h⟩
theorem Di{l:List α}{x:α}(h:l[i]? =some x):l.drop i=x::l.drop (i+1):=by
 obtain⟨hi,e⟩:=List.getElem?_eq_some_iff.1 h;rw[List.drop_eq_getElem_cons hi,e]
theorem HS(h:bs[i]? =some b):(bs.map b8)[i]? =some (b8 b):=by rw[List.getElem?_map,h];rfl
theorem VX{w:World}{size:Nat}{l:List Value}(h:AJ w v n size l S)(_hs:0<size)(_hm:True):l.length=n*size:=by
 obtain⟨_,_,_,_,h,_⟩:=h;exact h
theorem mo(hv:AJ w v bs.length 1 (bs.map b8) S)(hm:bs.length<9223372036854775807)(he: ∀args w,(callFunc fid args).run prog w= .ok (.enter fid args) w)(hc: ∀b∈bs,∀w',Bw w w'→Calls prog fid (#[]++[b8 b].toArray++cap) w' fun e w''=>e= .returned (.bool (p b))∧Bw w' w''):CBy 138 #[v,.func (.func fid) #[] cap] w (.int .i64 (Dv p bs 0)):=by
 go_enter func138,ntmps138
 refine AO ?_;iterate 8 refine k_g ?_
 refine CQ ?_;iterate 3 refine k_g ?_
 refine B7 (α:={i:Nat // i≤bs.length∧Dv p bs 0=Dv p (bs.drop i) i}) (fun(x:{i:Nat // i≤bs.length∧Dv p bs 0=Dv p (bs.drop i) i}) f=>⟨.v v:: .v (.func (.func fid) #[] cap):: .v (f 2):: .v (f 3):: .v (f 4):: .v (f 5):: .v v:: .v (.int .i64 (bs.length:Nat)):: .v (.int .i64 (x.1:Nat))::fv f 10 9 [],AK []⟩) (fun x=>bs.length-x.1) ?_ (⟨0,Nat.zero_le _,rfl⟩) ?_
 ·rintro⟨i,hi,hidx⟩ f
  obtain⟨q,h_q⟩: ∃q,decide ((i:Int)<(bs.length:Int))=q:=⟨_,rfl⟩
  change VOk _ _ _ _ _;simp only[fv,Nat.reduceAdd];iterate 2 refine k_g ?_
  refine I0 ?_;iterate 2 refine k_g ?_
  cases q
  ·refine k_g ?_
   have hge:bs.length≤i:=by have:=of_decide_eq_false h_q;omega
   rw[List.drop_eq_nil_of_le hge]at hidx;refine Aq ?_;change VOk _ _ _ _ _;iterate 4 refine k_g ?_
   refine AG ?_;refine AD (AM results138 (AE rfl)) ?_;intro ρ w' hr;first|(refine⟨?_,hr.1⟩;rw[hidx];rfl)|(refine⟨?_,hr.1⟩;rw[hidx,Di hb];simp only[Dv,h_q2];rfl)
  ·refine k_g ?_
   have hlt:i<bs.length:=by have:=of_decide_eq_true h_q;omega
   obtain⟨b,hb⟩:=Gh hlt;obtain⟨q2,h_q2⟩: ∃q2,p b=q2:=⟨_,rfl⟩
   iterate 13 refine k_g ?_
   refine k_s (by exact BU (k:=i) rfl gg rfl rfl underlying26 sizeOf5 (AW hv) (hlt) (by decide)) ?_;refine k_s (by exact B5 rfl gg rfl underlying5 rfl (AW hv) (HS hb)) ?_;refine k_s (by exact XS rfl gg rfl rfl he (fun w' hbw=>h_q2▸hc b (List.mem_of_getElem? hb) w' hbw)) ?_;refine k_g ?_;cases q2
   ·iterate 3 refine k_g ?_
    refine FG ?_;iterate 2 refine k_g ?_
    refine⟨⟨i+1,by omega,by rw[hidx,Di hb];simp only[Dv,h_q2];rfl⟩,by show bs.length-(i+1)<bs.length-i;omega,?_⟩;exact Al (fun i=>i==0||i==1||i==6||i==7||i==8) []
   ·iterate 6 refine k_g ?_
    refine AG ?_;refine AD (AM results138 (AE rfl)) ?_;intro ρ w' hr;first|(refine⟨?_,hr.1⟩;rw[hidx];rfl)|(refine⟨?_,hr.1⟩;rw[hidx,Di hb];simp only[Dv,h_q2];rfl)
 ·exact Al (fun i=>i==0||i==1||i==6||i==7||i==8) []
theorem p8(hv:AJ w v bs.length 1 (bs.map b8) S)(hm:bs.length<9223372036854775807)(he: ∀args w,(callFunc fid args).run prog w= .ok (.enter fid args) w)(hc: ∀b∈bs,∀w',Bw w w'→Calls prog fid (#[]++[b8 b].toArray++cap) w' fun e w''=>e= .returned (.bool (p b))∧Bw w' w''):CBy 131 #[v,.func (.func fid) #[] cap] w (.bool (bs.any p)):=by
 go_enter func131,ntmps131
 refine AO ?_;iterate 8 refine k_g ?_
 refine k_s (by exact Ah rfl gg rfl (eo func138) (fun w' hb=>mo w' (Aa hv hb) hm he (fun b h2 w'' h3=>hc b h2 w'' (hb.trans h3)))) ?_;refine k_s (by exact Dh rfl gg rfl rfl (Wm p bs 0)) ?_;iterate 2 refine k_g ?_
 exact AG (AD (AM results131 (AE rfl)) fun _ _ hr=>⟨rfl,hr.1⟩)
theorem eV(hv:AJ w v bs.length 1 (bs.map b8) S)(hm:bs.length<9223372036854775807):CBy 124 #[v] w (.bool (Tz bs)):=by
 go_enter func124,ntmps124
 refine AO ?_;iterate 7 refine k_g ?_
 refine k_s (by exact Ah rfl gg rfl (eo func131) (fun w' hb=>p8 w' (Aa hv hb) hm (eo func132) (fun b _ w'' _=>eU b w''))) ?_;iterate 3 refine k_g ?_
 exact AG (AD (AM results124 (AE rfl)) fun _ _ hr=>⟨rfl,hr.1⟩)
def D5:Bool→List Nat→Option Bool
 |a,[]=>some a
 |a,b::r=>if a && decide (b=128)then none else D5 (decide (b<128)) r
def Ia(bs:List Nat):Bool:=match D5 true bs with|none=>false|some a=>decide (bs.length>0) && a
theorem UK{a:Bool}(h:(a && decide (b=128))=true):D5 a (b::r)=none:=if_pos h
theorem fZ{a:Bool}(h:(a && decide (b=128))=false):D5 a (b::r)=D5 (decide (b<128)) r:=if_neg (by simp[h])
theorem fY(hv:AJ w v bs.length 1 (bs.map b8) S)(hm:bs.length<9223372036854775807):CBy 123 #[v] w (.bool (Ia bs)):=by
 go_enter func123,ntmps123
 refine AO ?_;iterate 12 refine k_g ?_
 refine CQ ?_;iterate 3 refine k_g ?_
 refine B7 (α:={x:Nat×Bool // x.1≤bs.length∧D5 true bs=D5 x.2 (bs.drop x.1)}) (fun(x:{x:Nat×Bool // x.1≤bs.length∧D5 true bs=D5 x.2 (bs.drop x.1)}) f=>⟨.v v:: .v (f 1):: .v (.bool false):: .v (.bool x.1.2):: .v (f 4):: .v (f 5):: .v v:: .v (.int .i64 (bs.length:Nat)):: .v (.int .i64 (x.1.1:Nat))::fv f 17 9 [],AK []⟩) (fun x=>bs.length-x.1.1) ?_ (⟨(0,true),Nat.zero_le _,rfl⟩) ?_
 ·rintro⟨⟨i,bg⟩,hi,hgo⟩ f
  simp only at hi hgo;obtain⟨q,h_q⟩: ∃q,decide ((i:Int)<(bs.length:Int))=q:=⟨_,rfl⟩
  change VOk _ _ _ _ _;simp only[fv,Nat.reduceAdd];iterate 2 refine k_g ?_
  refine I0 ?_;iterate 2 refine k_g ?_
  cases q
  ·refine k_g ?_
   have hge:bs.length≤i:=by have:=of_decide_eq_false h_q;omega
   rw[List.drop_eq_nil_of_le hge]at hgo;obtain⟨q5,h_q5⟩: ∃q5,decide (bs.length>0)=q5:=⟨_,rfl⟩
   have h_q5':=(EI bs.length 0).trans h_q5;cases bg<;>cases q5<;>
   (
    refine Aq ?_;change VOk _ _ _ _ _;iterate 3 refine k_g ?_
    refine CQ ?_;refine k_s (by exact Bf rfl gg rfl rfl h_q5') ?_;iterate 5 refine k_g ?_
    refine AG ?_;refine AD (AM results123 (AE rfl)) ?_;intro ρ w' hr
    (first|(refine⟨?_,hr.1⟩;unfold Ia;rw[hgo,Di hb,UK (by rw[h_q3];rfl)];rfl)|(refine⟨?_,hr.1⟩;unfold Ia;rw[hgo];simp only[D5,h_q5];rfl))
   )
  ·refine k_g ?_
   have hlt:i<bs.length:=by have:=of_decide_eq_true h_q;omega
   obtain⟨b,hb⟩:=Gh hlt;obtain⟨q3,h_q3⟩: ∃q3,decide (b=128)=q3:=⟨_,rfl⟩
   obtain⟨q4,h_q4⟩: ∃q4,decide (b<128)=q4:=⟨_,rfl⟩
   have h_q3':=(DT b 128).trans h_q3;have h_q4':=(Cw b 128).trans h_q4;cases bg<;>cases q3<;>
   (
    iterate 5 refine k_g ?_
    refine k_s (by exact BU (k:=i) rfl gg rfl rfl underlying26 sizeOf5 (AW hv) (hlt) (by decide)) ?_;refine k_s (by exact B5 rfl gg rfl underlying5 rfl (AW hv) (HS hb)) ?_;iterate 8 refine k_g ?_
    refine k_s (by first|exact Ev.skip (fun _=>rfl)|exact Ax rfl (fun _=>rfl) rfl rfl h_q3') ?_;iterate 2 refine k_g ?_
    first
    |(
     iterate 5 refine k_g ?_
     refine AG ?_;refine AD (AM results123 (AE rfl)) ?_;intro ρ w' hr
     (first|(refine⟨?_,hr.1⟩;unfold Ia;rw[hgo,Di hb,UK (by rw[h_q3];rfl)];rfl)|(refine⟨?_,hr.1⟩;unfold Ia;rw[hgo];simp only[D5,h_q5];rfl))
     )
    |(
     iterate 4 refine k_g ?_
     refine k_s (by exact Em rfl gg rfl rfl h_q4') ?_;iterate 3 refine k_g ?_
     refine FG ?_;iterate 2 refine k_g ?_
     refine⟨⟨(i+1,q4),by show i+1≤bs.length;omega,by show D5 true bs=D5 q4 (bs.drop (i+1));rw[hgo,Di hb,fZ (by rw[h_q3];rfl),h_q4]⟩,by show bs.length-(i+1)<bs.length-i;omega,?_⟩;exact Al (fun i=>i==0||i==2||i==3||i==6||i==7||i==8) []
     )
   )
 ·exact Al (fun i=>i==0||i==2||i==3||i==6||i==7||i==8) []
def Ir(bs:List Nat):Nat:=bs.getD (bs.length-1) 0
def md(a b:Nat):Nat:=a %2^b
def LQ(b0:Nat)(r:List Nat):Bool:=bif decide (b0≥8)then false else bif decide (r.length+1=1)then decide (b0=0)else decide (md (Ir (b0::r)) b0=0)
def Nx:List Nat→Bool
 | []=>false
 |b0::r=>LQ b0 r
def UI(bs:List Nat):Bool:=decide (bs.length=1) && (decide (bs.getD 0 0=0)||decide (bs.getD 0 0=255))
def Er(tag:Int)(bs:List Nat):Bool:=
 bif decide (tag=1)then UI bs else bif decide (tag=2)then EX bs else bif decide (tag=3)then Nx bs else bif decide (tag=4)then true else bif decide (tag=6)then Ia bs else bif decide (tag=12)then Tz bs else false
theorem Wx(h:i<bs.length):bs[i]? =some (bs.getD i 0):=by simp[List.getD,h]
theorem cK(hb:b<8):BOy .shl 5 (.int .u8 1) (.int .u8 (b:Nat)) (.int .u8 ((2^b:Nat):Int)):=by
 intro p q w
 have:b=0∨b=1∨b=2∨b=3∨b=4∨b=5∨b=6∨b=7:=by omega
 rcases this with rfl|rfl|rfl|rfl|rfl|rfl|rfl|rfl<;>(go_simp;rfl)
theorem sO(ha:a<256)(hb:b<8):BOy .and 5 (.int .u8 (a:Nat)) (.int .u8 ((2^b-1:Nat):Int)) (.int .u8 ((md a b:Nat):Int)):=by
 intro p q w
 have h2:2^b≤2^8:=Nat.pow_le_pow_right (by decide) (by omega)
 go_simp
 rw[u8_and_nat a (2^b-1) ha (by omega),Nat.and_two_pow_sub_one_eq_mod];rfl
theorem Zw(hv:AJ w v bs.length 1 (bs.map b8) S):CBy 121 #[v] w (.bool (EX bs)):=by
 match bs,hv with
 | [],hv=>exact SC (n:=0) (by decide) w hv
 | [_],hv=>exact SC (n:=1) (by decide) w hv
 |b0::b1::r,hv=>exact Zx (by simp) w hv
theorem rP{l:List Value}(hv:AJ w v 0 1 l S):CBy 122 #[v] w (.bool false):=by
 go_enter func122,ntmps122
 refine AO ?_;iterate 9 refine k_g ?_
 refine CQ ?_;refine Vr ?_;iterate 2 refine k_g ?_
 refine k_s (by first|exact Ev.skip (fun _=>rfl)|exact Gk rfl (fun _=>rfl) rfl rfl underlying26 sizeOf5 (by decide) (by decide)|exact Gj rfl (fun _=>rfl) rfl rfl underlying26 sizeOf5 (by decide) (by decide)) ?_;refine k_s (by first|exact Ev.skip (fun _=>rfl)|exact Cl rfl (fun _=>rfl) rfl rfl underlying5 rfl rfl|exact Ck rfl (fun _=>rfl) rfl underlying5 rfl (by assumption)) ?_;refine k_3 ?_;iterate 8 refine k_g ?_
 exact AG (AD (AM results122 (AE rfl)) fun _ _ hr=>⟨rfl,hr.1⟩)
theorem rQ(hv:AJ w v (b0::r).length 1 ((b0::r).map b8) S)(hm:r.length<9223372036854775807)(h8: ∀b∈b0::r,b<256):CBy 122 #[v] w (.bool (LQ b0 r)):=by
 unfold LQ;obtain⟨q1,h_q1⟩: ∃p,decide (b0≥8)=p:=⟨_,rfl⟩
 obtain⟨q2,h_q2⟩: ∃p,decide (r.length+1=1)=p:=⟨_,rfl⟩
 rw[h_q1,h_q2];have h_q1':=(KU b0 8).trans h_q1;have h_q2':=(DT (r.length+1) 1).trans h_q2;have hlast:(b0::r)[r.length]? =some (Ir (b0::r)):=by unfold Ir;exact Wx (by simp)
 have hl8:Ir (b0::r)<256:=h8 _ (List.mem_of_getElem? hlast)
 go_enter func122,ntmps122
 refine AO ?_;iterate 9 refine k_g ?_
 refine CQ ?_;refine k_s (by exact Ax (p:=false) rfl gg rfl rfl (decide_eq_false (by simp;omega))) ?_;iterate 2 refine k_g ?_
 refine k_s (by first|exact Ev.skip (fun _=>rfl)|exact BU (k:=0) rfl (fun _=>rfl) rfl rfl underlying26 sizeOf5 (AW hv) (by simp) (by decide)) ?_;refine M6 ?_;refine k_s (by first|exact Ev.skip (fun _=>rfl)|exact K6 rfl (fun _=>rfl) rfl rfl h_q1') ?_;iterate 3 refine k_g ?_
 cases q1
 ·refine k_g ?_
  have hb8:b0<8:=by have:=of_decide_eq_false h_q1;omega
  iterate 3 refine k_g ?_
  refine CQ ?_;refine k_s (by exact Ax rfl gg rfl rfl h_q2') ?_;iterate 2 refine k_g ?_
  cases q2
  ·iterate 6 refine k_g ?_
   refine CQ ?_;refine k_s (by exact CF (c:=((r.length:Nat):Int)) rfl gg rfl rfl (by simp only[List.length_cons];rw[Af (by omega) (by omega)];omega)) ?_;refine k_s (by exact BU (k:=r.length) rfl gg rfl rfl underlying26 sizeOf5 (AW hv) (by simp) (by decide)) ?_;refine k_s (by exact B5 rfl gg rfl underlying5 rfl (AW hv) (HS hlast)) ?_;refine k_g ?_;refine Kr ?_;refine HY ?_;refine k_s (by exact AN rfl gg rfl rfl (fun w=>cK hb8 _ _ w)) ?_;refine k_s (by exact CF (c:=((2^b0-1:Nat):Int)) rfl gg rfl rfl (by rw[IntKind.wrap_u8'];have:=Nat.pow_le_pow_right (show 0<2 by decide) (show b0≤7 by omega);have:=Nat.two_pow_pos b0;omega)) ?_;refine k_s (by exact AN rfl gg rfl rfl (fun w=>sO hl8 hb8 _ _ w)) ?_;refine k_s (by exact Ax rfl gg rfl rfl (DT _ 0)) ?_;iterate 2 refine k_g ?_
   exact AG (AD (AM results122 (AE rfl)) fun _ _ hr=>⟨rfl,hr.1⟩)
  ·iterate 4 refine k_g ?_
   refine Kr ?_;refine HY ?_;refine k_s (by exact Ax rfl gg rfl rfl (DT b0 0)) ?_;iterate 2 refine k_g ?_
   exact AG (AD (AM results122 (AE rfl)) fun _ _ hr=>⟨rfl,hr.1⟩)
 ·iterate 5 refine k_g ?_
  exact AG (AD (AM results122 (AE rfl)) fun _ _ hr=>⟨rfl,hr.1⟩)
theorem rO(hv:AJ w v bs.length 1 (bs.map b8) S)(hm:bs.length<9223372036854775807)(h8: ∀b∈bs,b<256):CBy 122 #[v] w (.bool (Nx bs)):=by
 cases bs with
 |nil=>exact rP w hv
 |cons b0 r=>exact rQ w hv (by simp at hm;omega) h8
theorem Yn(tag:Int)(w:World)(hv:AJ w v bs.length 1 (bs.map b8) S)(hm:bs.length<9223372036854775807)(h8: ∀b∈bs,b<256):CBy 109 #[.int .i64 tag,v] w (.bool (Er tag bs)):=by
 unfold Er UI;obtain⟨q1,h_q1⟩: ∃p,decide (tag=1)=p:=⟨_,rfl⟩
 obtain⟨q2,h_q2⟩: ∃p,decide (tag=2)=p:=⟨_,rfl⟩
 obtain⟨q3,h_q3⟩: ∃p,decide (tag=3)=p:=⟨_,rfl⟩
 obtain⟨q4,h_q4⟩: ∃p,decide (tag=4)=p:=⟨_,rfl⟩
 obtain⟨q5,h_q5⟩: ∃p,decide (tag=6)=p:=⟨_,rfl⟩
 obtain⟨q6,h_q6⟩: ∃p,decide (tag=12)=p:=⟨_,rfl⟩
 obtain⟨p1,h_p1⟩: ∃p,decide (bs.length=1)=p:=⟨_,rfl⟩
 obtain⟨p2,h_p2⟩: ∃p,decide (bs.getD 0 0=0)=p:=⟨_,rfl⟩
 obtain⟨p3,h_p3⟩: ∃p,decide (bs.getD 0 0=255)=p:=⟨_,rfl⟩
 rw[h_q1,h_q2,h_q3,h_q4,h_q5,h_q6,h_p1,h_p2,h_p3];have h_p1':=(DT bs.length 1).trans h_p1;have h_p2':=(DT (bs.getD 0 0) 0).trans h_p2;have h_p3':=(DT (bs.getD 0 0) 255).trans h_p3;have hb0:decide (bs.length=1)=true→bs[0]? =some (bs.getD 0 0):=fun h=>Wx (by have:=of_decide_eq_true h;omega)
 go_enter func109,ntmps109
 refine AO ?_;iterate 12 refine k_g ?_
 refine k_s (by exact Ax rfl gg rfl rfl h_q1) ?_;iterate 2 refine k_g ?_
 cases q1
 ·iterate 3 refine k_g ?_
  refine k_s (by exact Ax rfl gg rfl rfl h_q2) ?_;iterate 2 refine k_g ?_
  cases q2
  ·iterate 3 refine k_g ?_
   refine k_s (by exact Ax rfl gg rfl rfl h_q3) ?_;iterate 2 refine k_g ?_
   cases q3
   ·iterate 3 refine k_g ?_
    refine k_s (by exact Ax rfl gg rfl rfl h_q4) ?_;iterate 2 refine k_g ?_
    cases q4
    ·iterate 3 refine k_g ?_
     refine k_s (by exact Ax rfl gg rfl rfl h_q5) ?_;iterate 2 refine k_g ?_
     cases q5
     ·iterate 3 refine k_g ?_
      refine k_s (by exact Ax rfl gg rfl rfl h_q6) ?_;iterate 2 refine k_g ?_
      cases q6
      ·iterate 6 refine k_g ?_
       exact AG (AD (AM results109 (AE rfl)) fun _ _ hr=>⟨rfl,hr.1⟩)
      ·iterate 4 refine k_g ?_
       refine k_s (by exact Ah rfl gg rfl (eo func124) (fun w' hb=>eV w' (Aa hv hb) hm)) ?_;iterate 2 refine k_g ?_
       exact AG (AD (AM results109 (AE rfl)) fun _ _ hr=>⟨rfl,hr.1⟩)
     ·iterate 4 refine k_g ?_
      refine k_s (by exact Ah rfl gg rfl (eo func123) (fun w' hb=>fY w' (Aa hv hb) hm)) ?_;iterate 2 refine k_g ?_
      exact AG (AD (AM results109 (AE rfl)) fun _ _ hr=>⟨rfl,hr.1⟩)
    ·iterate 5 refine k_g ?_
     exact AG (AD (AM results109 (AE rfl)) fun _ _ hr=>⟨rfl,hr.1⟩)
   ·iterate 4 refine k_g ?_
    refine k_s (by exact Ah rfl gg rfl (eo func122) (fun w' hb=>rO w' (Aa hv hb) hm h8)) ?_;iterate 2 refine k_g ?_
    exact AG (AD (AM results109 (AE rfl)) fun _ _ hr=>⟨rfl,hr.1⟩)
  ·iterate 4 refine k_g ?_
   refine k_s (by exact Ah rfl gg rfl (eo func121) (fun w' hb=>Zw w' (Aa hv hb))) ?_;iterate 2 refine k_g ?_
   exact AG (AD (AM results109 (AE rfl)) fun _ _ hr=>⟨rfl,hr.1⟩)
 ·refine k_g ?_
  cases p1<;>cases p2<;>cases p3<;>
  (
   iterate 3 refine k_g ?_
   refine CQ ?_;refine k_s (by exact Ax rfl gg rfl rfl h_p1') ?_;iterate 2 refine k_g ?_
   refine WO ?_;refine k_s (by first|exact Ev.skip (fun _=>rfl)|exact B5 rfl (fun _=>rfl) rfl underlying5 rfl (AW hv) (HS (hb0 h_p1))) ?_;refine k_s (by first|exact Ev.skip (fun _=>rfl)|exact Ax rfl (fun _=>rfl) rfl rfl h_p2') ?_;iterate 2 refine k_g ?_
   refine WO ?_;refine k_s (by first|exact Ev.skip (fun _=>rfl)|exact B5 rfl (fun _=>rfl) rfl underlying5 rfl (AW hv) (HS (hb0 h_p1))) ?_;refine k_s (by first|exact Ev.skip (fun _=>rfl)|exact Ax rfl (fun _=>rfl) rfl rfl h_p3') ?_;iterate 4 refine k_g ?_
   exact AG (AD (AM results109 (AE rfl)) fun _ _ hr=>⟨rfl,hr.1⟩)
  )
inductive Tr where
 |mk (tag:Int) (body:List Nat) (kids:List Tr)
mutual
def DN(w:World)(S:Nat→Prop):Tr→List Value→Prop
 | .mk t b ks,xs=> ∃bv kv cs,xs=[.int .i64 t,bv,kv]∧AJ w bv b.length 1 (b.map b8) S∧AJ w kv ks.length 3 cs S∧DNs w S ks cs
def DNs(w:World)(S:Nat→Prop):List Tr→List Value→Prop
 | [],xs=>xs=[]
 |k::ks,xs=> ∃x y,xs=x++y∧DN w S k x∧DNs w S ks y
end
mutual
def Tr.ok:Tr→Prop
 | .mk _ b ks=>(∀x∈b,x<256)∧b.length≤1048576∧ks.length≤1048576∧oks ks
def oks:List Tr→Prop
 | []=>True
 |k::ks=>k.ok∧oks ks
end
mutual
def Ag:Tr→Nat→Bool
 | .mk t b ks,d=>bif decide (d>8)then false else bif !(Cq t)then(decide (ks.length=0) && Er t b)else bif (decide (b.length>0)||decide (ks.length>20))then false else !(D6 ks (d+1))
def D6:List Tr→Nat→Bool
 | [],_=>false
 |k::ks,d=> !(Ag k d)||D6 ks d
end
def nr(d:Nat)(k:Tr):Bool:= !(Ag k (d+1))
theorem PU(d:Nat): ∀ks,D6 ks d=ks.any (fun k=> !(Ag k d))
 | []=>by simp[D6]
 |k::ks=>by simp only[D6,List.any_cons,PU d ks]
theorem CM{w:World}{t:Tr}(h:DN w S t xs):xs.length=3:=by
 cases t with
 |mk t b ks=>simp only[DN]at h;obtain⟨_,_,_,rfl,_⟩:=h;rfl
theorem LX{w:World}{S:Nat→Prop}: ∀{ks:List Tr} {cs:List Value},DNs w S ks cs→ ∀{i:Nat} {k:Tr},ks[i]? =some k→ ∃x,(cs.drop (i*3)).take 3=x∧DN w S k x
 | [],_,_,i,k,h=>by cases h
 |k0::ks,cs,h,i,k,hk=>by
  simp only[DNs]at h;obtain⟨x,y,rfl,h1,h2⟩:=h;have hx:=CM h1;cases i with
  |zero=>
   simp only[List.getElem?_cons_zero,Option.some.injEq]at hk;subst hk;exact⟨x,by rw[Nat.zero_mul,List.drop_zero,←hx];exact List.take_left,h1⟩
  |succ i=>
   obtain⟨x',e,h3⟩:=LX h2 (i:=i) (k:=k) (by simpa using hk);refine⟨x',?_,h3⟩;rw[show(i+1)*3=3+i*3 by omega,←hx,List.drop_append,List.drop_of_length_le (by omega),List.nil_append,←e,hx];congr 2
   omega
mutual
theorem Dk{w w':World}{S:Nat→Prop}(hb:Bw w w'): ∀{t:Tr} {xs:List Value},DN w S t xs→DN w' S t xs
 | .mk t b ks,xs,h=>by
   simp only[DN]at h⊢;obtain⟨bv,kv,cs,h1,h2,h3,h4⟩:=h;exact⟨bv,kv,cs,h1,Aa h2 hb,Aa h3 hb,Ja hb h4⟩
theorem Ja{w w':World}{S:Nat→Prop}(hb:Bw w w'): ∀{ks:List Tr} {xs:List Value},DNs w S ks xs→DNs w' S ks xs
 | [],xs,h=>by simp only[DNs]at h ⊢; exact h
 |k::ks,xs,h=>by
  simp only[DNs]at h⊢;obtain⟨x,y,h1,h2,h3⟩:=h;exact⟨x,y,h1,Dk hb h2,Ja hb h3⟩
end
def Ei{α:Type}(p:α→Bool):List α→Nat→Int
 | [],_=> -1
 |b::r,k=>if p b then(k:Nat)else Ei p r (k+1)
theorem Qb{p:α→Bool}{b:α}{r:List α}(h:p b=true):Ei p (b::r) k=(k:Nat):=if_pos h
theorem Wn{p:α→Bool}{b:α}{r:List α}(h:p b=false):Ei p (b::r) k=Ei p r (k+1):=if_neg (by simp[h])
theorem Wo{α:Type}(p:α→Bool): ∀(l:List α) (k:Nat),decide (Ei p l k≥0)=l.any p
 | [],k=>by simp[Ei]
 |b::r,k=>by
  cases h:p b with
  |true=>rw[Qb h,List.any_cons,h,Bool.true_or];exact decide_eq_true (by omega)
  |false=>rw[Wn h,Wo p r (k+1),List.any_cons,h,Bool.false_or]
def JX(t:Tr):Prop:= ∀(d:Nat) (xs:List Value) (w:World) (S:Nat→Prop),d≤9→DN w S t xs→CBy 79 #[.agg xs.toArray,.int .i64 (d:Nat)] w (.bool (Ag t d))
theorem qF{k:Tr}(ih:JX k){a:Addr}(w:World)(hx:DN w S k [.int .i64 t,bv,kv])(hc:w.cell? a=some (.int .i64 (d:Nat)))(hd:d≤8):CBy 111 #[.agg #[.int .i64 t,bv,kv],.pointer (some a)] w (.bool (nr d k)):=by
 go_enter func111,ntmps111
 refine AO ?_;iterate 9 refine k_g ?_
 refine WV ?_;refine k_s (by exact Ah rfl gg rfl (eo func79) (fun w' hb=>ih (d+1) _ w' _ (by omega) (Dk hb hx))) ?_;iterate 3 refine k_g ?_
 exact AG (AD (AM results111 (AE rfl)) fun _ _ hr=>⟨rfl,hr.1⟩)
theorem mn{ks:List Tr}{cs:List Value}{a:Addr}(hih: ∀k∈ks,JX k)(hv:AJ w kv ks.length 3 cs S)(hn:DNs w S ks cs)(hm:ks.length≤1048576)(hc:w.cell? a=some (.int .i64 (d:Nat)))(hd:d≤8):CBy 125 #[kv,LN 111 (.pointer (some a))] w (.int .i64 (Ei (nr d) ks 0)):=by
 go_enter func125,ntmps125
 refine AO ?_;iterate 8 refine k_g ?_
 refine k_s (by exact BM rfl gg rfl underlying106 (AW hv)) ?_;iterate 3 refine k_g ?_
 refine B7 (α:={i:Nat // i≤ks.length∧Ei (nr d) ks 0=Ei (nr d) (ks.drop i) i}) (fun(x:{i:Nat // i≤ks.length∧Ei (nr d) ks 0=Ei (nr d) (ks.drop i) i}) f=>⟨.v kv:: .v (LN 111 (.pointer (some a))):: .v (f 2):: .v (f 3):: .v (f 4):: .v (f 5):: .v kv:: .v (.int .i64 (ks.length:Nat)):: .v (.int .i64 (x.1:Nat))::fv f 10 9 [],AK []⟩) (fun x=>ks.length-x.1) ?_ (⟨0,Nat.zero_le _,rfl⟩) ?_
 ·rintro⟨i,hi,hidx⟩ f
  obtain⟨q,h_q⟩: ∃q,decide ((i:Int)<(ks.length:Int))=q:=⟨_,rfl⟩
  change VOk _ _ _ _ _;simp only[fv,Nat.reduceAdd];iterate 2 refine k_g ?_
  refine I0 ?_;iterate 2 refine k_g ?_
  cases q
  ·refine k_g ?_
   have hge:ks.length≤i:=by have:=of_decide_eq_false h_q;omega
   rw[List.drop_eq_nil_of_le hge]at hidx;refine Aq ?_;change VOk _ _ _ _ _;iterate 4 refine k_g ?_
   refine AG ?_;refine AD (AM results125 (AE rfl)) ?_;intro ρ w' hr
   (first|(refine⟨?_,hr.1⟩;rw[hidx];rfl)|(refine⟨?_,hr.1⟩;rw[hidx,Di hk,Qb h_q2];rfl))
  ·refine k_g ?_
   have hlt:i<ks.length:=by have:=of_decide_eq_true h_q;omega
   obtain⟨kk,hk⟩:=Gh hlt;obtain⟨x,hx,hdn⟩:=LX hn hk;obtain⟨t,b,kks,rfl⟩: ∃t b kks,kk=Tr.mk t b kks:=by cases kk with|mk t b kks=>exact⟨t,b,kks,rfl⟩
   have hdn':=hdn;simp only[DN]at hdn';obtain⟨bv',kv',cs',rfl,_,_,_⟩:=hdn';obtain⟨q2,h_q2⟩: ∃q2,nr d (.mk t b kks)=q2:=⟨_,rfl⟩
   iterate 13 refine k_g ?_
   refine k_s (by exact BU (k:=i) rfl gg rfl rfl underlying106 sizeOf108 (AW hv) (hlt) (by decide)) ?_;refine k_s (by exact NN rfl gg rfl underlying108 rfl sizeOf108 (AW hv) (hx) rfl (by decide)) ?_;refine k_s (by exact XS rfl gg rfl rfl (eo func111) (fun w' hb=>h_q2▸qF (hih _ (List.mem_of_getElem? hk)) w' (Dk hb hdn) (hb.cell hc) hd)) ?_;refine k_g ?_;cases q2
   ·iterate 3 refine k_g ?_
    refine FG ?_;iterate 2 refine k_g ?_
    refine⟨⟨i+1,by omega,by rw[hidx,Di hk,Wn h_q2]⟩,by show ks.length-(i+1)<ks.length-i;omega,?_⟩;exact Al (fun i=>i==0||i==1||i==6||i==7||i==8) []
   ·iterate 6 refine k_g ?_
    refine AG ?_;refine AD (AM results125 (AE rfl)) ?_;intro ρ w' hr
    (first|(refine⟨?_,hr.1⟩;rw[hidx];rfl)|(refine⟨?_,hr.1⟩;rw[hidx,Di hk,Qb h_q2];rfl))
 ·exact Al (fun i=>i==0||i==1||i==6||i==7||i==8) []
theorem p7{ks:List Tr}{cs:List Value}{a:Addr}(hih: ∀k∈ks,JX k)(hv:AJ w kv ks.length 3 cs S)(hn:DNs w S ks cs)(hm:ks.length≤1048576)(hc:w.cell? a=some (.int .i64 (d:Nat)))(hd:d≤8):CBy 110 #[kv,LN 111 (.pointer (some a))] w (.bool (D6 ks (d+1))):=by
 go_enter func110,ntmps110
 refine AO ?_;iterate 8 refine k_g ?_
 refine k_s (by exact Ah rfl gg rfl (eo func125) (fun w' hb=>mn w' hih (Aa hv hb) (Ja hb hn) hm (hb.cell hc) hd)) ?_;refine k_s (by exact Dh rfl gg rfl rfl ((Wo _ ks 0).trans (PU (d+1) ks).symm)) ?_;iterate 2 refine k_g ?_
 exact AG (AD (AM results110 (AE rfl)) fun _ _ hr=>⟨rfl,hr.1⟩)
theorem cj{b:List Nat}{ks:List Tr}{cs:List Value}(hih: ∀k∈ks,JX k)(hbv:AJ w bv b.length 1 (b.map b8) S)(hv:AJ w kv ks.length 3 cs S)(hn:DNs w S ks cs)(h8: ∀x∈b,x<256)(hbl:b.length≤1048576)(hm:ks.length≤1048576)(hd9:d≤9):CBy 79 #[.agg #[.int .i64 t,bv,kv],.int .i64 (d:Nat)] w (.bool (Ag (.mk t b ks) d)):=by
 unfold Ag;obtain⟨q1,h_q1⟩: ∃p,decide (d>8)=p:=⟨_,rfl⟩
 obtain⟨q2,h_q2⟩: ∃p,Cq t=p:=⟨_,rfl⟩
 obtain⟨q3,h_q3⟩: ∃p,decide (ks.length=0)=p:=⟨_,rfl⟩
 obtain⟨q5,h_q5⟩: ∃p,decide (b.length>0)=p:=⟨_,rfl⟩
 obtain⟨q6,h_q6⟩: ∃p,decide (ks.length>20)=p:=⟨_,rfl⟩
 rw[h_q1,h_q2,h_q3,h_q5,h_q6];have h_q1':=(EI d 8).trans h_q1;have h_q3':=(DT ks.length 0).trans h_q3;have h_q5':=(EI b.length 0).trans h_q5;have h_q6':=(EI ks.length 20).trans h_q6
 go_enter func79,ntmps79
 refine AO ?_;iterate 11 refine k_g ?_
 refine k_s (by exact Bf rfl gg rfl rfl h_q1') ?_;iterate 2 refine k_g ?_
 cases q1
 ·iterate 5 refine k_g ?_
  refine k_s (by exact Ah (v:= .bool q2) rfl gg rfl (eo func108) (fun w' hb=>h_q2▸Pw t w')) ?_;iterate 3 refine k_g ?_
  cases q2
  ·refine k_g ?_
   cases q3<;>
   (
    iterate 4 refine k_g ?_
    refine k_s (by exact BM rfl gg rfl underlying106 (AW hv)) ?_;refine k_s (by exact Ax rfl gg rfl rfl h_q3') ?_;refine k_g ?_;refine k_s (by first|exact Ev.skip (fun _=>rfl)|exact Cn rfl (fun _=>rfl) rfl underlying108 rfl sizeOf3|exact Cm rfl (fun _=>rfl) rfl underlying108 rfl sizeOf3) ?_;iterate 3 refine k_g ?_
    refine k_s (by first|exact Ev.skip (fun _=>rfl)|exact Ah rfl (fun _=>rfl) rfl (eo func109) (fun w' hb=>Yn t w' (Aa hbv hb) (by omega) h8)) ?_;iterate 3 refine k_g ?_
    exact AG (AD (AM results79 (AE rfl)) fun _ _ hr=>⟨rfl,hr.1⟩)
   )
  ·refine k_g ?_
   cases q5<;>cases q6<;>
   (
    iterate 4 refine k_g ?_
    refine k_s (by exact BM rfl gg rfl underlying26 (AW hbv)) ?_;refine k_s (by exact Bf rfl gg rfl rfl h_q5') ?_;iterate 3 refine k_g ?_
    refine k_s (by first|exact Ev.skip (fun _=>rfl)|exact BM rfl (fun _=>rfl) rfl underlying106 (AW hv)) ?_;refine k_s (by first|exact Ev.skip (fun _=>rfl)|exact Bf rfl (fun _=>rfl) rfl rfl h_q6') ?_;iterate 3 refine k_g ?_
    first
    |(
     iterate 5 refine k_g ?_
     exact AG (AD (AM results79 (AE rfl)) fun _ _ hr=>⟨rfl,hr.1⟩)
     )
    |(
     iterate 6 refine k_g ?_
     refine k_s (by exact nq rfl gg rfl) ?_;refine k_s (by exact Aj (v:= .bool (D6 ks (d+1))) [3] rfl gg rfl (eo func110) (fun ρ S' w' hb hR=>p7 w' hih (Aa hv hb) (Ja hb hn) hm (O6 hR (by simp) rfl 0 [.int .i64 (d:Nat)] rfl 0 _ rfl) (by have:=of_decide_eq_false h_q1;omega))) ?_;iterate 3 refine k_g ?_
     exact AG (AD (AM results79 (AE rfl)) fun _ _ hr=>⟨rfl,hr.1⟩)
     )
   )
 ·iterate 5 refine k_g ?_
  exact AG (AD (AM results79 (AE rfl)) fun _ _ hr=>⟨rfl,hr.1⟩)
mutual
theorem MG: ∀t:Tr,t.ok→JX t
 | .mk t b ks,h=>fun d xs w S hd hx=>by
   simp only[Tr.ok]at h;simp only[DN]at hx;obtain⟨bv,kv,cs,rfl,h2,h3,h4⟩:=hx;exact cj w (TH ks h.2.2.2) h2 h3 h4 h.1 h.2.1 h.2.2.1 hd
theorem TH: ∀ks:List Tr,oks ks→ ∀k∈ks,JX k
 | [],_=>fun k hk=>by cases hk
 |k0::ks,h=>fun k hk=>by
  simp only[oks]at h;rcases List.mem_cons.1 hk with e|hk
  ·exact e▸MG k0 h.1
  ·exact TH ks h.2 k hk
end
end
end Go.Proofs.YtefpajmkaaielaaGreatDoor
