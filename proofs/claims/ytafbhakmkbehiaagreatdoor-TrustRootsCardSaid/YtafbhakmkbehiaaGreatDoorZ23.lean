import Derived.Test.YtafbhakmkbehiaaGreatDoorRows
import Derived.LaidMore
import Derived.Lay
import Derived.Stop.Joined
import Derived.ChangeSlices
import Derived.Test.YtafbhakmkbehiaaGreatDoorZ19
open Go.Proofs.Tryz
set_option maxHeartbeats 4000000
set_option maxRecDepth 100000
namespace Go.Proofs.YtafbhakmkbehiaaGreatDoor
open Go.RowKit Go.Vx Go.ChangeShapes Go.WideShapes Go.ChangeAt Go.Lib
variable{ops:Array Oper}{held:Bool}{e:Eff}{Q:Exit→VS→Prop}{p ps:List MemPlace}{fr:List SV}{fuel g id n:Nat}{sp:Nat→Bool}{o:Oper}{P:Program}{A B:Prop}{name:String}{H:Type}{s s1:VS}{w w0:World}
open TollMont
open Go.Toll (Gw)
open TollEc (F pp cb Jp Pt Au add base nn neg)
open TollSha (sha CH)
theorem lJ:TollNt.Prm nn:=TollNt.prm_115792089210356248762697446949407573529996955224135760342422259061068512044369
theorem aN{t:Nat}(h:sec t=true):t^(nn-2) %nn*t %nn=1∧t^(nn-2) %nn<nn:=by
 have h1:=of_decide_eq_true h;refine⟨?_,Nat.mod_lt _ (by decide)⟩;rw[Nat.mod_mul_mod,←Nat.pow_succ];have e:(nn-2).succ=nn-1:=by decide
 rw[e];exact TollNt.fermat lJ fun c=>by have:=Nat.le_of_dvd (by omega) c;omega
def JE(w:World)(v:Value):Prop:= ∀w',Bw w w'→Calls prog 78 #[v] w' fun e w''=>e= .returned (.tuple #[.agg #[.int .u8 0,.int .u8 0,.int .u8 0,.int .u8 0,.int .u8 0,.int .u8 0,.int .u8 0,.int .u8 0,.int .u8 0,.int .u8 0,.int .u8 0,.int .u8 0,.int .u8 0,.int .u8 0,.int .u8 0,.int .u8 0,.int .u8 0,.int .u8 0,.int .u8 0,.int .u8 0,.int .u8 0,.int .u8 0,.int .u8 0,.int .u8 0,.int .u8 0,.int .u8 0,.int .u8 0,.int .u8 0,.int .u8 0,.int .u8 0,.int .u8 0,.int .u8 0,.int .u8 0,.int .u8 0,.int .u8 0,.int .u8 0,.int .u8 0,.int .u8 0,.int .u8 0,.int .u8 0,.int .u8 0,.int .u8 0,.int .u8 0,.int .u8 0,.int .u8 0,.int .u8 0,.int .u8 0,.int .u8 0,.int .u8 0,.int .u8 0,.int .u8 0,.int .u8 0,.int .u8 0,.int .u8 0,.int .u8 0,.int .u8 0,.int .u8 0,.int .u8 0,.int .u8 0,.int .u8 0,.int .u8 0,.int .u8 0,.int .u8 0,.int .u8 0],.int .i64 15])∧Bw w' w''
def JO(w:World)(v:Value)(x y:Nat):Prop:=x<R∧y<R∧ ∀w',Bw w w'→Calls prog 78 #[v] w' fun e w''=>e= .returned (.tuple #[PT x y,.int .i64 0])∧Bw w' w''
theorem PU(n:Nat):l32 n=(bl n).map b8:=rfl
theorem fc{a:Nat}(h:sec a=true):Au a base≠ .inf:=fun c=>by
 have h1:=of_decide_eq_true h;have h2:=TollEc.smul_eq_inf c;have:=Nat.le_of_dvd (by omega) h2;omega
open TollSha (H0)
open TollMont (R)
theorem Tryz.own:ownKnob prog.godebug=none:=by kernel_rfl
theorem Xl:Plain prog:=⟨by kernel_rfl,by kernel_rfl,by kernel_rfl⟩
theorem bD:prog.cellsOf 5=1:=by kernel_rfl
theorem py:prog.cellsOf 247=1:=by kernel_rfl
theorem pt:prog.cellsOf 248=8:=by kernel_rfl
theorem pu:prog.cellsOf 262=64:=by kernel_rfl
theorem px:prog.cellsOf 147=4:=by kernel_rfl
theorem pr:prog.cellsOf 49=1:=by kernel_rfl
theorem bV{zs:List Int}(h: ∀z∈zs,(Lit.int .u8 z).wf=true): ∃bs:List Nat,zs.map (Value.int .u8)=bs.map b8∧bs.length=zs.length∧ ∀x∈bs,x<256:=by
 refine⟨zs.map Int.toNat,?_,by simp,?_⟩
 ·rw[List.map_map]
  apply List.map_congr_left;intro z hz;have:=h z hz;simp[Lit.wf,IntKind.min,IntKind.max,IntKind.bits,IntKind.signed]at this;simp only[Function.comp,b8];rw[Int.toNat_of_nonneg (by omega)]
 ·intro x hx
  obtain⟨z,hz,rfl⟩:=List.mem_map.1 hx;have:=h z hz;simp[Lit.wf,IntKind.min,IntKind.max,IntKind.bits,IntKind.signed]at this;omega
theorem kg{enc:TypeId×Value→H}{base:Nat}{u:Value}{x:DataW H×List MemPlace}
 (hf:DataW.trod enc prog w base (fun _=>true) held fuel 23 [u]=some x): ∃bs:List Nat,AO w u bs.length 1 (bs.map b8) (fun _=>True)∧ ∀x∈bs,x<256:=by
 obtain⟨d,ps⟩:=x;rcases Go.ChangeShapes.open_ints underlying23 underlying5 bD hf with⟨h,_⟩|⟨a,len',cap',zs,h,_,h1,_,h2,_,h3,h4⟩
 ·simp only[List.cons.injEq,and_true]at h
  subst h;exact⟨[],⟨none,0,rfl,Nat.le_refl _,rfl,.inl rfl⟩,fun z hz=>by cases hz⟩
 ·simp only[List.cons.injEq,and_true]at h
  subst h;simp only[if_true]at h2;obtain⟨bs,e1,e2,e3⟩:=bV (zs:=zs.take len') fun z hz=>h4 z (List.mem_of_mem_take hz)
  have hbl:bs.length=len':=by rw[e2,List.length_take];omega
  refine⟨bs,⟨_,cap',by rw[hbl],by omega,by simp,.inr ⟨a,rfl,True.intro,fun i x hx=> ?_⟩⟩,e3⟩;rw[←e1,List.getElem?_map]at hx;cases hz:(zs.take len')[i]? with
  |none=>rw[hz]at hx;cases hx
  |some y=>
   rw[hz]at hx;simp only[Option.map_some,Option.some.injEq]at hx;rw[List.getElem?_take]at hz;split at hz
   ·have hlt:=(List.getElem?_eq_some_iff.1 hz).1
    have:=h3 i hlt;rw[show zs.getD i 0=y by simp[List.getD,hz]]at this;rw[this,hx]
   ·cases hz
theorem X4{enc:TypeId×Value→H}{base:Nat}{r:Reach}{b0:Nat}{v:Value}{d:DataW H}
 (hv:Value.okWide prog w r b0 23 v)(hd:DataW.Trod enc prog w base (fun _=>true) held 23 v d ps): ∃bs:List Nat,AO w v bs.length 1 (bs.map b8) (fun _=>True)∧ ∀x∈bs,x<256:=by
 obtain⟨ao,len,cap,rfl⟩:=okWide_slice underlying23 hv;obtain⟨fuel,hf⟩:=hd;exact kg (u:= .slice ao len cap) (by exact hf)
theorem Z9:prog.globalNamed "tollgate/hash.start" =some 6:=by kernel_rfl
theorem eJ:(prog.globals[6]?).map (·.type)=some 248:=by kernel_rfl
theorem aA:prog.globalNamed "tollgate/hash.rounds" =some 7:=by kernel_rfl
theorem eK:(prog.globals[7]?).map (·.type)=some 262:=by kernel_rfl
theorem aB:prog.globalNamed "tollgate/curve.prime" =some 4:=by kernel_rfl
theorem eN:(prog.globals[4]?).map (·.type)=some 147:=by kernel_rfl
theorem mM:Bq (pp)=[18446744073709551615,4294967295,0,18446744069414584321].map (Value.int .u64):=by
 obtain⟨e0,e1,e2,e3⟩:=Yq;unfold Bq;rw[e0,e1,e2,e3];rfl
theorem aC:prog.globalNamed "tollgate/curve.order" =some 3:=by kernel_rfl
theorem eO:(prog.globals[3]?).map (·.type)=some 147:=by kernel_rfl
theorem mN:Bq (nn)=[17562291160714782033,13611842547513532036,18446744073709551615,18446744069414584320].map (Value.int .u64):=by
 obtain⟨e0,e1,e2,e3⟩:=mC;unfold Bq;rw[e0,e1,e2,e3];rfl
theorem aD:prog.globalNamed "tollgate/curve.coeff" =some 5:=by kernel_rfl
theorem eP:(prog.globals[5]?).map (·.type)=some 147:=by kernel_rfl
theorem mP:Bq (cb.val)=[4309448131093880907,7285987128567378166,12964664127075681980,6540974713487397863].map (Value.int .u64):=by
 obtain⟨e0,e1,e2,e3⟩:=Yp;unfold Bq;rw[e0,e1,e2,e3];rfl
theorem aF:prog.globalNamed "tollgate/curve.baseX" =some 1:=by kernel_rfl
theorem eR:(prog.globals[1]?).map (·.type)=some 147:=by kernel_rfl
theorem mR:Bq (TollEc.bx.val)=[17627433388654248598,8575836109218198432,17923454489921339634,7716867327612699207].map (Value.int .u64):=by
 obtain⟨e0,e1,e2,e3⟩:=mE;unfold Bq;rw[e0,e1,e2,e3];rfl
theorem aE:prog.globalNamed "tollgate/curve.baseY" =some 2:=by kernel_rfl
theorem eQ:(prog.globals[2]?).map (·.type)=some 147:=by kernel_rfl
theorem mQ:Bq (TollEc.bY.val)=[14678990851816772085,3156516839386865358,10297457778147434006,5756518291402817435].map (Value.int .u64):=by
 obtain⟨e0,e1,e2,e3⟩:=mD;unfold Bq;rw[e0,e1,e2,e3];rfl
theorem Np{enc:TypeId×Value→H}{W:World}{base:Nat}{zs:List Int}{cs:Array Value}(hg:prog.globalNamed name=some g)(hv:W.var? prog name=some cs)
 (hd:DataW.trod enc prog W base sp held fuel 147 cs.toList=some (tabData .u64 zs,p))(hl:Bq n=zs.map (Value.int .u64)): ∀(j:Nat) (v:Value),(Bq n)[j]? =some v→W.cell? ⟨g,0+j,none⟩=some v:=fun j v hj=>by
 have h1:=cells_of_tab underlying147 underlying49 pr px hd;have h2:=World.var?_cell hg hv (0+j);rw[h2,Nat.zero_add];rw[hl,←h1]at hj;simpa using hj
theorem bE{enc:TypeId×Value→H}{W:World}{T base:Nat}{zs:List Int}{cs:Array Value}(hu:prog.underlying T=some (.array n 247))(hc:prog.cellsOf T=n)(hg:prog.globalNamed name=some g)(hv:W.var? prog name=some cs)
 (hd:DataW.trod enc prog W base sp held fuel T cs.toList=some (tabData .u32 zs,p)): ∀(j:Nat) (z:Int),zs[j]? =some z→W.cell? ⟨g,j,none⟩=some (.int .u32 z):=fun j z hj=>by
 have h1:=cells_of_tab hu underlying247 py hc hd;have h2:=World.var?_cell hg hv j;rw[h2];have:(zs.map (Value.int .u32))[j]? =some (.int .u32 z):=by rw[List.getElem?_map,hj];rfl
 rw[←h1]at this;simpa using this
def P5:List Int:=[1779033703,3144134277,1013904242,2773480762,1359893119,2600822924,528734635,1541459225]
def NH:List Int:=[1116352408,1899447441,3049323471,3921009573,961987163,1508970993,2453635748,2870763221,3624381080,310598401,607225278,1426881987,1925078388,2162078206,2614888103,3248222580,3835390401,4022224774,264347078,604807628,770255983,1249150122,1555081692,1996064986,2554220882,2821834349,2952996808,3210313671,3336571891,3584528711,113926993,338241895,666307205,773529912,1294757372,1396182291,1695183700,1986661051,2177026350,2456956037,2730485921,2820302411,3259730800,3345764771,3516065817,3600352804,4094571909,275423344,430227734,506948616,659060556,883997877,958139571,1322822218,1537002063,1747873779,1955562222,2024104815,2227730452,2361852424,2428436474,2756734187,3204031479,3329325298]
theorem nh:P5.map (Value.int .u32)=[uv H0.a,uv H0.b,uv H0.c,uv H0.d,uv H0.e,uv H0.f,uv H0.g,uv H0.h]:=by kernel_rfl
theorem Zr:P5.length=8∧NH.length=64∧NH.map (Value.int .u32)=TollSha.K.map uv:=⟨by kernel_rfl,by kernel_rfl,by kernel_rfl⟩
def FN:List (String×DataW Unit):=Rows.certReadsRow.laid
theorem H9{W:World}(h:laidMetH prog FN W):Laid W∧B6 W∧CQ W∧7<W.heap.size:=by
 unfold FN at h;rw[MakeChecks.laidMetH_plain _ _ _ (by kernel_rfl)]at h;obtain⟨ps,⟨g0,t0,cs0,f0,p0,q0,hg0,ht0,hv0,hd0,⟨g1,t1,cs1,f1,p1,q1,hg1,ht1,hv1,hd1,⟨g2,t2,cs2,f2,p2,q2,hg2,ht2,hv2,hd2,⟨g3,t3,cs3,f3,p3,q3,hg3,ht3,hv3,hd3,⟨g4,t4,cs4,f4,p4,q4,hg4,ht4,hv4,hd4,⟨g5,t5,cs5,f5,p5,q5,hg5,ht5,hv5,hd5,⟨g6,t6,cs6,f6,p6,q6,hg6,ht6,hv6,hd6,_,_⟩,_⟩,_⟩,_⟩,_⟩,_⟩,_⟩,_⟩:=h;obtain rfl:=Option.some.inj (Z9.symm.trans hg0);obtain rfl:=Option.some.inj (eJ.symm.trans ht0);obtain rfl:=Option.some.inj (aA.symm.trans hg1);obtain rfl:=Option.some.inj (eK.symm.trans ht1);obtain rfl:=Option.some.inj (aB.symm.trans hg2);obtain rfl:=Option.some.inj (eN.symm.trans ht2);obtain rfl:=Option.some.inj (aC.symm.trans hg3);obtain rfl:=Option.some.inj (eO.symm.trans ht3);obtain rfl:=Option.some.inj (aD.symm.trans hg4);obtain rfl:=Option.some.inj (eP.symm.trans ht4);obtain rfl:=Option.some.inj (aF.symm.trans hg5);obtain rfl:=Option.some.inj (eR.symm.trans ht5);obtain rfl:=Option.some.inj (aE.symm.trans hg6);obtain rfl:=Option.some.inj (eQ.symm.trans ht6);have k1: ∀(j:Nat) (z:Int),NH[j]? =some z→W.cell? ⟨7,j,none⟩=some (.int .u32 z):=bE underlying262 pu aA hv1 hd1;have k0: ∀(j:Nat) (z:Int),P5[j]? =some z→W.cell? ⟨6,j,none⟩=some (.int .u32 z):=bE underlying248 pt Z9 hv0 hd0
 have hK:B6 W:=fun i hi=>by
  obtain⟨z,e⟩: ∃z,NH[i]? =some z:=⟨_,List.getElem?_eq_getElem (by rw[Zr.2.1];exact hi)⟩
  have:=k1 i _ e;rw[this];have e2:(NH.map (Value.int .u32))[i]? =some (.int .u32 z):=by rw[List.getElem?_map,e];rfl
  rw[Zr.2.2,List.getElem?_map]at e2;cases hq:TollSha.K[i]? with
  |none=>rw[hq]at e2;cases e2
  |some q=>
   rw[hq]at e2;rw[List.getD_eq_getElem?_getD,hq];exact e2.symm
 refine⟨⟨Np aF hv5 hd5 mR,Np aE hv6 hd6 mQ,Np aC hv3 hd3 mN,Np aB hv2 hd2 mM,Np aD hv4 hd4 mP⟩,hK,fun j v hj=> ?_,World.block_lt_of_cell? _ _ (hK 0 (by omega))⟩;rw[←nh,List.getElem?_map]at hj;cases hq:P5[j]? with
 |none=>rw[hq]at hj;cases hj
 |some z=>
  rw[hq]at hj;obtain rfl:Value.int .u32 z=v:=by simpa using hj
  exact k0 j z hq
def fv(f:Nat→Value):Nat→Nat→List SV→List SV
 |0,_,l=>l
 |n+1,k,l=>.v (f k)::fv f n (k+1) l
def zs:Nat→List SV
 |0=>[]
 |n+1=>.v (.int .u8 0)::zs n
def q_K(P:Program)(ops:Array Oper)(w0:World)(l:List Oper)(s:VS)(R:List Eff→VS→Prop):Prop:= ∃E s',VE P ops w0 l E s s'∧R E s'
theorem q_n{R:List Eff→VS→Prop}(h:R [] s):q_K P ops w0 [] s R:=⟨[],s,.nil s,h⟩
theorem q_c{l:List Oper}{R:List Eff→VS→Prop}(h:Ev P ops w0 o s e)(hs:s.put o.dst e=s1)(r:q_K P ops w0 l s1 (fun E s'=>R (e::E) s')):q_K P ops w0 (o::l) s R:=by
 subst hs;obtain⟨E,s',h1,h2⟩:=r;exact⟨_,_,.cons h h1,h2⟩
theorem q_p{l:List Oper}{m:List (Nat×Blk)}(h:q_K P l.toArray w0 l ⟨fr,AJ m⟩ fun E s'=>(l.all (fun o=> !Dv o.op) && Go.Vx.B9 E && Es fr m E)=true∧Q .normal s'):VOk P w0 ⟨fr,AJ m⟩ (.region id l.toArray false) Q:=by
 obtain⟨E,s',h1,h2,h3⟩:=h;exact vrp h1 h2 h3
theorem q_d{l:List Oper}{m:List (Nat×Blk)}(hm:P.follows .mixedOrders=true)(h:q_K P l.toArray w0 l ⟨fr,AJ m⟩ fun E s'=>(veB l.toArray l E && Es fr m E)=true∧Q .normal s'):VOk P w0 ⟨fr,AJ m⟩ (.region id l.toArray true) Q:=by
 obtain⟨E,s',h1,h2,h3⟩:=h;exact vrd hm h1 h2 h3
theorem q_s{l:List Oper}{R:List Eff→VS→Prop}(h:Ev P ops w0 o s e)(r:q_K P ops w0 l s1 (fun E s'=>R (e::E) s'))(hs:s.put o.dst e=s1:=by first|(simp only[nm,seval];exact rfl)|exact rfl):q_K P ops w0 (o::l) s R:=q_c h hs r
theorem AA{l:List Oper}{R:List Eff→VS→Prop}(h:Ev P ops w0 o s e)(r:q_K P ops w0 l s1 (fun E s'=>R (e::E) s'))(hs:s.put o.dst e=s1:=by first|(simp only[nmx,seval];exact rfl)|exact rfl):q_K P ops w0 (o::l) s R:=q_c h hs r
theorem AP{l:List Oper}{R:List Eff→VS→Prop}(h:Ev P ops w0 o s e)(hb:B→q_K P ops w0 l s1 (fun E s'=>R (e::E) s'))(hs:s.put o.dst e=s1:=by first|(simp only[nmx,seval];exact rfl)|exact rfl):B→q_K P ops w0 (o::l) s R:=fun b=>q_c h hs (hb b)
theorem q_0(b:B)(c:B→A:=by exact AP (by refine D6 gg (fun ρ w=>by simp only[VS.act,SV.c,List.map_cons,List.map_nil];go_simp;exact rfl) (fun _ _=>rfl)) id):A:=c b
theorem q_1(b:B)(c:B→A:=by exact AP (by first|exact Ev.skip (fun _=>rfl)|exact BK rfl (fun _=>rfl) rfl rfl underlying3 rfl rfl|exact BR rfl (fun _=>rfl) rfl underlying3 rfl (by assumption)) id):A:=c b
theorem q_3(b:B)(c:B→A:=by exact AP (by first|exact Ev.skip (fun _=>rfl)|refine D6 (fun _=>rfl) (fun ρ w=>by simp only[VS.act,SV.c,List.map_cons,List.map_nil];go_simp;exact rfl) (fun _ _=>rfl)) id):A:=c b
theorem q_4(b:B)(c:B→A:=by exact AP (by first|exact Ev.skip (fun _=>rfl)|exact BK rfl (fun _=>rfl) rfl rfl underlying9 rfl rfl|exact BR rfl (fun _=>rfl) rfl underlying9 rfl (by assumption)) id):A:=c b
theorem q_6(b:B)(c:B→A:=by exact AP (by first|exact BK rfl gg rfl rfl underlying3 rfl rfl|exact BR rfl gg rfl underlying3 rfl (by assumption)) id):A:=c b
theorem q_7(b:B)(c:B→A:=by exact AP (by first|exact Ev.skip (fun _=>rfl)|exact BK rfl (fun _=>rfl) rfl rfl underlying4 rfl rfl|exact BR rfl (fun _=>rfl) rfl underlying4 rfl (by assumption)) id):A:=c b
theorem q_8(b:B)(c:B→A:=by exact AP (by first|exact BD rfl gg rfl rfl underlying61 rfl sizeOf61 rfl rfl|exact A2 rfl gg rfl underlying61 rfl sizeOf61 (by assumption) rfl|exact Bi rfl gg rfl rfl underlying61 rfl sizeOf61 rfl) id):A:=c b
theorem C4(b:B)(c:B→A:=by exact AP (by first|exact BD rfl gg rfl rfl underlying22 rfl sizeOf22 rfl rfl|exact A2 rfl gg rfl underlying22 rfl sizeOf22 (by assumption) rfl|exact Bi rfl gg rfl rfl underlying22 rfl sizeOf22 rfl) id):A:=c b
theorem DY(b:B)(c:B→A:=by exact AP (by first|exact Ev.skip (fun _=>rfl)|exact Ap rfl (fun _=>rfl)) id):A:=c b
theorem I8(b:B)(c:B→A:=by exact AP (by first|exact BA rfl gg rfl rfl rfl sizeOf34 rfl (by simp) rfl|exact Bh (vl:=[_,_,_,_,_,.d 55,_,_,_]) [55,9] rfl gg rfl rfl rfl sizeOf34 rfl (fun ρ S w' _ hR=>⟨DC _,by have hh:=Cf (id:=55) hR (by simp) rfl;simp only[SV.cs,SV.c,List.all_cons,List.all_nil,hh.2];rfl⟩) rfl (by simp)|exact Bh (vl:=[_,_,_,_,_,.d 55,_,_,_]) [55,2] rfl gg rfl rfl rfl sizeOf34 rfl (fun ρ S w' _ hR=>⟨DC _,by have hh:=Cf (id:=55) hR (by simp) rfl;simp only[SV.cs,SV.c,List.all_cons,List.all_nil,hh.2];rfl⟩) rfl (by simp)) id):A:=c b
theorem Gk(b:B)(c:B→A:=by exact AP (by first|exact Ev.skip (fun _=>rfl)|exact BD rfl (fun _=>rfl) rfl rfl underlying34 rfl sizeOf34 rfl rfl|exact A2 rfl (fun _=>rfl) rfl underlying34 rfl sizeOf34 (by assumption) rfl|exact Bi rfl (fun _=>rfl) rfl rfl underlying34 rfl sizeOf34 rfl) id):A:=c b
theorem C3(b:B)(c:B→A:=by exact AP (by first|exact BG rfl gg rfl underlying34 rfl sizeOf3|exact BF rfl gg rfl underlying34 rfl sizeOf3) id):A:=c b
theorem Gi(b:B)(c:B→A:=by exact AP (by first|exact BD rfl gg rfl rfl underlying34 rfl sizeOf34 rfl rfl|exact A2 rfl gg rfl underlying34 rfl sizeOf34 (by assumption) rfl|exact Bi rfl gg rfl rfl underlying34 rfl sizeOf34 rfl) id):A:=c b
theorem H3(b:B)(c:B→A:=by exact AP (by first|exact Ev.skip (fun _=>rfl)|exact BD rfl (fun _=>rfl) rfl rfl underlying22 rfl sizeOf22 rfl rfl|exact A2 rfl (fun _=>rfl) rfl underlying22 rfl sizeOf22 (by assumption) rfl|exact Bi rfl (fun _=>rfl) rfl rfl underlying22 rfl sizeOf22 rfl) id):A:=c b
theorem SN(b:B)(c:B→A:=by exact AP (by exact BA rfl gg rfl rfl rfl sizeOf22 rfl (by simp) rfl) id):A:=c b
theorem H2(b:B)(c:B→A:=by exact AP (by first|exact BD rfl gg rfl rfl underlying64 rfl sizeOf64 rfl rfl|exact A2 rfl gg rfl underlying64 rfl sizeOf64 (by assumption) rfl|exact Bi rfl gg rfl rfl underlying64 rfl sizeOf64 rfl) id):A:=c b
theorem Eg(b:B)(c:B→A:=by exact AP (by first|exact BK rfl gg rfl rfl underlying9 rfl rfl|exact BR rfl gg rfl underlying9 rfl (by assumption)) id):A:=c b
theorem Wx(b:B)(c:B→A:=by exact AP (by first|exact Bh (vl:=[.v (.int .i64 c.se),.v (.string (AB c.is)),.v (.string (AB c.su)),.v (.int .i64 c.fr),.v (.int .i64 c.to),.fn (AN 5) (.d 9),.v (.bool c.ca),.v (.int .i64 c.pa),.v (.int .i64 c.us)]) [9,4] rfl gg rfl rfl rfl sizeOf34 rfl (fun ρ S w' _ hR=>by obtain⟨kv,e,h⟩:=Nb (id:=9) hR (by simp) rfl;exact QL e h) rfl (by simp)|exact Bh (vl:=[.v (.int .i64 c.se),.v (.string (AB c.is)),.v (.string (AB c.su)),.v (.int .i64 c.fr),.v (.int .i64 c.to),.fn (AN 5) (.d 9),.v (.bool c.ca),.v (.int .i64 c.pa),.v (.int .i64 c.us)]) [9,2] rfl gg rfl rfl rfl sizeOf34 rfl (fun ρ S w' _ hR=>⟨DC _,by obtain⟨kv,e,h⟩:=Nb (id:=9) hR (by simp) rfl;exact(QL e h).2⟩) rfl (by simp)) id):A:=c b
theorem Hz(b:B)(c:B→A:=by exact AP (by first|exact Ev.skip (fun _=>rfl)|exact BG rfl (fun _=>rfl) rfl underlying34 rfl sizeOf3|exact BF rfl (fun _=>rfl) rfl underlying34 rfl sizeOf3) id):A:=c b
theorem je(b:B)(c:B→A:=by exact AP (by first|exact Ev.skip (fun _=>rfl)|exact AK rfl (fun _=>rfl) rfl rfl (fun w=>T1 _ _ _ _ w)) id):A:=c b
theorem O5(b:B)(c:B→A:=by exact AP (by first|exact Ev.skip (fun _=>rfl)|exact Cs [55] rfl rfl (fun _=>rfl) rfl (eo func59) (n:=(wrT (c.whole r t)).1.length) (size:=1) (l:=(wrT (c.whole r t)).1.map b8) (by simp) (fun ρ S w' hb hR=>VA (c:=c) (r:=r) (t:=t) w' hF (EH (id:=55) hR (by simp) rfl))) id):A:=c b
theorem O4(b:B)(c:B→A:=by exact AP (by first|exact GG (did:=16) rfl gg rfl rfl rfl rfl sizeOf61 rfl|exact GG (did:=25) rfl gg rfl rfl rfl rfl sizeOf61 rfl|exact GG (did:=28) rfl gg rfl rfl rfl rfl sizeOf61 rfl|exact GG (did:=60) rfl gg rfl rfl rfl rfl sizeOf61 rfl) id):A:=c b
theorem Ww(b:B)(c:B→A:=by exact AP (by first|exact Aj (v:= .tuple #[ZV,.int .i64 2]) [100] rfl gg rfl (eo func8) (fun ρ S w' hb hR=>by have a:=LU w' (T5 (id:=100) hR (by simp) rfl) (Hv hsg) (by have:=KE hsg;omega);rw[h_s]at a;exact a)|exact Aj (v:= .tuple #[PT r t,.int .i64 0]) [100] rfl gg rfl (eo func8) (fun ρ S w' hb hR=>by have a:=LU w' (T5 (id:=100) hR (by simp) rfl) (Hv hsg) (by have:=KE hsg;omega);rw[h_s]at a;exact a)) id):A:=c b
theorem I5(b:B)(c:B→A:=by exact AP (by first|exact BK rfl gg rfl rfl underlying23 rfl rfl|exact BR rfl gg rfl underlying23 rfl (by assumption)) id):A:=c b
theorem O3(b:B)(c:B→A:=by exact AP (by first|exact Ev.skip (fun _=>rfl)|exact aZ h_e [114] rfl (fun _=>rfl) rfl (eo func67) (fun ρ S w' hb hR=>sX w' (EH (id:=114) hR (by simp) rfl) (A5 hv hb) (EE (Lb hF r t)) h8)) id):A:=c b
theorem O2(b:B)(c:B→A:=by exact AP (by first|exact Ev.skip (fun _=>rfl)|exact aZ h_r [55] rfl (fun _=>rfl) rfl (eo func57) (fun ρ S w' hb hR=>WE (c:=c) w' (hL.bw hb) (EH (id:=55) hR (by simp) rfl) k8 i8 s8 il sl)) id):A:=c b
theorem EL(b:B)(c:B→A:=by exact AP (by exact BZ rfl rfl gg zeroValue61) id):A:=c b
theorem KP(b:B)(c:B→A:=by exact AP (by first|exact BG rfl gg rfl underlying34 rfl sizeOf9|exact BF rfl gg rfl underlying34 rfl sizeOf9) id):A:=c b
theorem Ef(b:B)(c:B→A:=by exact AP (by exact BZ rfl rfl gg zeroValue22) id):A:=c b
theorem KN(b:B)(c:B→A:=by exact AP (by first|exact BB (p:=true) rfl gg rfl rfl (by decide)|exact BB (p:=false) rfl gg rfl rfl (by decide)) id):A:=c b
theorem Wu(b:B)(c:B→A:=by exact AP (by first|exact GG (did:=8) rfl gg rfl rfl rfl rfl sizeOf61 rfl|exact Bh (vl:=[.fn (AN 0) (.d 8),.fn (AN 1) (.d 8),.fn (AN 2) (.d 8)]) [2,8] rfl gg rfl rfl rfl sizeOf61 rfl (fun ρ S w' _ hR=>⟨DC _,by obtain⟨c,h1,h2⟩:=Cd (id:=8) hR (by simp) rfl;exact(fn3 h1 (CS h2)).2▸HB h2⟩) rfl (by simp)) id):A:=c b
theorem O0(b:B)(c:B→A:=by exact AP (by first|exact Ev.skip (fun _=>rfl)|exact BG rfl (fun _=>rfl) rfl underlying34 rfl sizeOf4|exact BF rfl (fun _=>rfl) rfl underlying34 rfl sizeOf4) id):A:=c b
theorem SH(b:B)(c:B→A:=by exact AP (by first|exact BA rfl gg rfl rfl rfl sizeOf61 rfl (by simp) rfl|exact BA rfl gg rfl rfl rfl sizeOf61 rfl (by simp) (X9 hu)|exact BA rfl gg rfl rfl rfl sizeOf61 rfl (by simp) (X9 hd2)) id):A:=c b
theorem MF(b:B)(c:B→A:=by exact AP (by first|exact BK rfl gg rfl rfl underlying4 rfl rfl|exact BR rfl gg rfl underlying4 rfl (by assumption)) id):A:=c b
theorem Ow(b:B)(c:B→A:=by exact AP (by first|exact BG rfl gg rfl underlying34 rfl sizeOf23|exact BF rfl gg rfl underlying34 rfl sizeOf23) id):A:=c b
theorem Ov(b:B)(c:B→A:=by exact AP (by first|exact BG rfl gg rfl underlying61 rfl sizeOf59|exact BF rfl gg rfl underlying61 rfl sizeOf59) id):A:=c b
theorem Wt(b:B)(c:B→A:=by exact AP (by first|exact Ad (v:= .tuple #[ZV,.int .i64 15]) rfl gg rfl (eo func78) (fun w' hw'=>hj w' hw')|exact Ad (v:= .tuple #[PT (kX c.ky) (kY c.ky),.int .i64 0]) rfl gg rfl (eo func78) (fun w' hw'=>hj w' hw')) id):A:=c b
theorem Ou(b:B)(c:B→A:=by exact AP (by first|exact BG rfl gg rfl underlying34 rfl sizeOf4|exact BF rfl gg rfl underlying34 rfl sizeOf4) id):A:=c b
theorem Ws(b:B)(c:B→A:=by exact AP (by first|exact Ev.skip (fun _=>rfl)|exact Ev.skip (fun _=>rfl)|exact aS (v:= .int .i64 tg) (rd:=[13]) rfl (fun _=>rfl) rfl rfl underlying3 rfl rfl (fun ρ S w' hR=>by obtain⟨c,h1,h2⟩:=Cd (id:=13) hR (by simp) rfl;exact p8 h1 h2)) id):A:=c b
theorem Gh(b:B)(c:B→A:=by exact AP (by exact BZ rfl rfl gg zeroValue34) id):A:=c b
theorem SE(b:B)(c:B→A:=by exact AP (by first|exact GG (did:=13) rfl gg rfl rfl rfl rfl sizeOf61 rfl|exact GG (did:=37) rfl gg rfl rfl rfl rfl sizeOf61 rfl) id):A:=c b
theorem Wn(b:B)(c:B→A:=by exact AP (by exact A0 (Dat.sl (BO (AC [2] n0)).length 1 ((BO (AC [2] n0)).map b8)) [99] rfl rfl gg rfl (eo func64) (fun ρ S w' hb hR=>bN 99 (Af _ (hok)) hR (by simp) rfl)) id):A:=c b
theorem SC(b:B)(c:B→A:=by exact AP (by first|exact BG rfl gg rfl underlying61 rfl sizeOf23|exact BF rfl gg rfl underlying61 rfl sizeOf23) id):A:=c b
theorem KM(b:B)(c:B→A:=by exact AP (by exact BA rfl gg rfl rfl rfl sizeOf64 rfl (by simp) rfl) id):A:=c b
theorem On(b:B)(c:B→A:=by exact AP (by exact BL rfl rfl gg rfl (e:=3) (l:=CE [1]) rfl (by decide) (fun _=>by kernel_rfl)) id):A:=c b
theorem SA(b:B)(c:B→A:=by exact AP (by exact Al (D:=AR Ey) [] rfl rfl gg rfl (eo func139) (fun ρ S w' hb hR=>dI w')) id):A:=c b
theorem R9(b:B)(c:B→A:=by exact AP (by exact LD (a:=32) (b:=64) rfl gg rfl underlying22 sizeOf5 rfl rfl (by decide) (by decide) (by decide)) id):A:=c b
theorem I4(b:B)(c:B→A:=by exact AP (by exact BZ rfl rfl gg zeroValue64) id):A:=c b
theorem Wg(b:B)(c:B→A:=by exact AP (by exact DL (D:=G5 c) (ys:=[PT r t,.int .i64 0]) [] rfl rfl gg rfl (eo func34) (fun ρ S w' hb hR=>gz w' (hL.bw hb) (A5 hv hb) h8 hbl hc)) id):A:=c b
theorem XZ(b:B)(c:B→A:=by exact AP (by first|exact Ev.skip (fun _=>rfl)|exact BG rfl (fun _=>rfl) rfl underlying61 rfl sizeOf59|exact BF rfl (fun _=>rfl) rfl underlying61 rfl sizeOf59) id):A:=c b
theorem XX(b:B)(c:B→A:=by exact AP (by first|exact Ev.skip (fun _=>rfl)|exact BG rfl (fun _=>rfl) rfl underlying61 rfl sizeOf3|exact BF rfl (fun _=>rfl) rfl underlying61 rfl sizeOf3) id):A:=c b
theorem XW(b:B)(c:B→A:=by exact AP (by first|exact Ev.skip (fun _=>rfl)|exact BG rfl (fun _=>rfl) rfl underlying34 rfl sizeOf9|exact BF rfl (fun _=>rfl) rfl underlying34 rfl sizeOf9) id):A:=c b
theorem XI(b:B)(c:B→A:=by exact AP (by exact A0 (AR (AC [2] n0)) [16,98] rfl rfl gg rfl (eo func61) (fun ρ S w' hb hR=>Ex 16 98 [2] hR (by simp) (by simp) rfl rfl)) id):A:=c b
theorem XH(b:B)(c:B→A:=by exact AP (by exact Al (D:=AR (B5 Hr)) [] rfl rfl gg rfl (eo func107) (fun ρ S w' hb hR=>Jk (b:=Hr) w' (by decide) (by decide))) id):A:=c b
theorem XF(b:B)(c:B→A:=by exact AP (by exact Ad (v:= .tuple #[CZ,ZV,.int .i64 2]) rfl gg rfl (eo func34) (fun w' hw'=>gu w' (hL.bw hw') (A5 hv hw') h8 hbl hc)) id):A:=c b
theorem SS(b:B)(c:B→A:=by exact AP (by exact BE (c:=((i+1:Nat):Int)) rfl gg rfl rfl (by rw[Ah (by omega) (by omega)];omega)) id):A:=c b
theorem SR(b:B)(c:B→A:=by exact AP (by exact BL rfl rfl gg rfl (e:=3) (l:=CE [2]) rfl (by decide) (fun _=>by kernel_rfl)) id):A:=c b
theorem SQ(b:B)(c:B→A:=by exact AP (by exact Bc (k:=i) rfl gg rfl rfl underlying124 sizeOf3 (AW hp) (hlt) (by decide)) id):A:=c b
theorem Wy(b:B)(c:B→A:=by exact AP (by first|exact Ev.skip (fun _=>rfl)|exact CI h_f rfl (fun _=>rfl) rfl (eo func104) (fun w' hw'=>Sp w' s8 sl)) id):A:=c b
theorem PC(b:B)(c:B→A:=by exact AP (by exact BA rfl gg rfl rfl rfl sizeOf34 rfl (by simp) rfl) id):A:=c b
theorem O9(b:B)(c:B→A:=by exact AP (by exact BA rfl gg rfl rfl rfl sizeOf3 rfl (by simp) rfl) id):A:=c b
theorem I7(b:B)(c:B→A:=by exact AP (by exact A6 rfl gg rfl bf) id):A:=c b
theorem O8(b:B)(c:B→A:=by exact AP (by exact NS rfl gg rfl underlying64 sizeOf5) id):A:=c b
theorem SO(b:B)(c:B→A:=by exact AP (by exact Cb rfl gg rfl underlying3 rfl (AW hp) (nD hj)) id):A:=c b
theorem MG(b:B)(c:B→A:=by exact AP (by exact A6 rfl gg rfl qe) id):A:=c b
theorem q_k{P Q:Prop}(h:Q)(c:Q→P:=by
 intro h'q;first
 |(refine q_s (by first|exact Ap rfl gg|exact CJ rfl gg|exact G3 rfl rfl gg rfl|exact Cy rfl gg rfl rfl|exact C8 rfl gg rfl rfl|exact CY rfl gg rfl rfl|exact Ca rfl gg rfl rfl|exact D7 rfl gg rfl|exact IS rfl gg rfl|exact IR rfl gg rfl) ?_;exact h'q)
 |(refine q_n ⟨by kernel_rfl,?_⟩;(try change VOk _ _ _ _ _);exact h'q)
 |(refine Fl ?_;exact h'q)
 |(refine q_p ?_;exact h'q)
 |(refine q_d (by kernel_rfl) ?_;exact h'q)
 |(refine GO ?_;(try change VOk _ _ _ _ _);exact h'q)
 |(refine Hf ?_;exact h'q)
 |(refine GP rfl ?_;exact h'q)
 |(refine GQ rfl ?_;exact h'q)):P:=c h
theorem AL{P Q:Prop}(h:Q)(c:Q→P:=by
 intro h'q;first
 |(refine AA (by first|exact Ap rfl gg|exact CJ rfl gg|exact G3 rfl rfl gg rfl|exact Cy rfl gg rfl rfl|exact C8 rfl gg rfl rfl|exact CY rfl gg rfl rfl|exact Ca rfl gg rfl rfl|exact D7 rfl gg rfl|exact IS rfl gg rfl|exact IR rfl gg rfl) ?_;exact h'q)
 |(refine q_n ⟨by kernel_rfl,?_⟩;(try change VOk _ _ _ _ _);exact h'q)
 |(refine Fl ?_;exact h'q)
 |(refine q_p ?_;exact h'q)
 |(refine q_d (by kernel_rfl) ?_;exact h'q)
 |(refine GO ?_;(try change VOk _ _ _ _ _);exact h'q)
 |(refine Hf ?_;exact h'q)
 |(refine GP rfl ?_;exact h'q)
 |(refine GQ rfl ?_;exact h'q)):P:=c h
theorem Ep(b:B)(c:B→A:=by intro b;refine A4 ?_;(iterate 2 refine q_k ?_);exact b):A:=c b
theorem C0(b:B)(c:B→A:=by intro b;refine q_0 ?_;refine AL ?_;exact b):A:=c b
theorem EJ(b:B)(c:B→A:=by intro b;refine SN ?_;(iterate 2 refine AL ?_);exact b):A:=c b
theorem Dl(b:B)(c:B→A:=by intro b;refine q_k ?_;refine AG ?_;exact b):A:=c b
theorem FJ(b:B)(c:B→A:=by intro b;refine A4 ?_;(iterate 3 refine AL ?_);exact b):A:=c b
theorem Dg(b:B)(c:B→A:=by intro b;refine q_3 ?_;refine q_0 ?_;exact b):A:=c b
theorem FG(b:B)(c:B→A:=by intro b;refine A4 ?_;(iterate 7 refine AL ?_);exact b):A:=c b
theorem E6(b:B)(c:B→A:=by intro b;refine EL ?_;(iterate 3 refine q_k ?_);exact b):A:=c b
theorem HZ(b:B)(c:B→A:=by intro b;refine q_0 ?_;(iterate 2 refine AL ?_);exact b):A:=c b
theorem HR(b:B)(c:B→A:=by intro b;change VOk _ _ _ _ _;(iterate 2 refine q_k ?_);exact b):A:=c b
end Go.Proofs.YtafbhakmkbehiaaGreatDoor
