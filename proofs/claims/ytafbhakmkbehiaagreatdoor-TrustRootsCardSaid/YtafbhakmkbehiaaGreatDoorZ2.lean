import Derived.Laws.CopyRow
import Derived.Test.YtafbhakmkbehiaaGreatDoorZ1
open Go.Proofs.Tryz
set_option maxHeartbeats 4000000
set_option maxRecDepth 100000
namespace Go.Toll
open Go.RowKit
variable{fs:Array Field}{xs:Array Operand}{ats:Array TypeId}{b:Blk}{p:Bool}{Q:Exit→VS→Prop}{fd:Field}{fn:Func}{f:FuncId}{a i:Int}{k:IntKind}{E:List Eff}{rd:List Nat}{fr:List SV}{vs:List Value}{g id n off sz:Nat}{ρ:Nat→Nat}{ix x y:Operand}{d:TypeDesc}{el r t ty:TypeId}{s s':VS}{v:Value}{w:World}
section
variable{P:Program}{w0:World}
def Uj(P:Program)(w0:World)(d:Code)(Q:Exit→VS→Prop):Exit→VS→Prop
 | .normal,s=>VOk P w0 s d Q
 |e,s=>Q e s
theorem Fl{c d:Code}(h:VOk P w0 s c (Uj P w0 d Q)):VOk P w0 s (.seq c d) Q:=by
 intro ρ w R hr hQ;refine wp_seq (h ρ w _ hr ?_);intro e ρ' s' w' hq hr';cases e with
 |normal=>exact hq ρ' w' R hr' hQ
 |_=>exact hQ _ _ _ _ hq hr'
def Ny(id:Nat)(Q:Exit→VS→Prop):Exit→VS→Prop
 | .exit k,s=>if k=id then Q .normal s else Q (.exit k) s
 |e,s=>Q e s
theorem Hf{c:Code}(h:VOk P w0 s c (Ny id Q)):VOk P w0 s (.block id c) Q:=by
 intro ρ w R hr hQ;refine wp_block (h ρ w _ hr ?_);intro e ρ' s' w' hq hr';cases e with
 |exit k=>
  simp only[Ny]at hq;simp only[Exit.inBlock];split
  ·rename_i hk;rw[if_pos hk]at hq;exact hQ _ _ _ _ hq hr'
  ·rename_i hk;rw[if_neg hk]at hq;exact hQ _ _ _ _ hq hr'
 |_=>exact hQ _ _ _ _ hq hr'
theorem GO(h:Q .normal s):VOk P w0 s .skip Q:=fun _ _ _ hr hQ=>wp_skip (hQ _ _ _ _ h hr)
theorem AG(h:Q .ret s):VOk P w0 s .ret Q:=fun _ _ _ hr hQ=>wp_ret (hQ _ _ _ _ h hr)
theorem As(h:Q (.exit id) s):VOk P w0 s (.exit id) Q:=fun _ _ _ hr hQ=>wp_exit (hQ _ _ _ _ h hr)
theorem Le{b:Bool}{c d:Code}(hx:AE s x= .v (.bool b))(h:VOk P w0 s (if b then c else d) Q):VOk P w0 s (.cond x c d) Q:=
 fun ρ w R hr hQ=>wp_cond (by rw[AI,hx];rfl) (h ρ w R hr hQ)
theorem GP{c d:Code}(hx:AE s x= .v (.bool true))(h:VOk P w0 s c Q):VOk P w0 s (.cond x c d) Q:=Le hx h
theorem GQ{c d:Code}(hx:AE s x= .v (.bool false))(h:VOk P w0 s d Q):VOk P w0 s (.cond x c d) Q:=Le hx h
theorem Qy{l:List Oper}(hm:P.follows .mixedOrders=true)(h:VE P l.toArray w0 l E s s')(hB:veB l.toArray l E=true)
 (hfr: ∀e∈E,∀id,e.mw.newId=some id→Bl id s)(hQ:Q .normal s'):VOk P w0 s (.region id l.toArray true) Q:=
 fun _ _ _ hr hR=>Qz hm h hB hfr (fun _ _ hr'=>hR _ _ _ _ hQ hr') hr
theorem Qx{l:List Oper}(h:VE P l.toArray w0 l E s s')(hsel:l.all (fun o=> !Dv o.op)=true)(hB:B9 E=true)
 (hfr: ∀e∈E,∀id,e.mw.newId=some id→Bl id s)(hQ:Q .normal s'):VOk P w0 s (.region id l.toArray false) Q:=
 fun _ _ _ hr hR=>Q0 h hsel hB hfr (fun _ _ hr'=>hR _ _ _ _ hQ hr') hr
def Ia(P:Program)(w0:World)(c:Code)(Q:Exit→VS→Prop):Nat→VS→Prop
 |0,_=>False
 |n+1,s=>VOk P w0 s c fun e s'=>match e with| .normal=>Ia P w0 c Q n s'|e=>Q e s'
theorem Br{c:Code}(n:Nat)(h:Ia P w0 c Q n s):VOk P w0 s (.loop c) Q:=by
 intro ρ w R hr hQ;refine wp_loop_rounds n ?_
 induction n generalizing s ρ w with
 |zero=>exact h.elim
 |succ n ih=>
  rw[rounds_succ];refine h ρ w _ hr ?_;intro e ρ' s' w' hq hr';cases e with
  |normal=>exact ih hq ρ' w' hr'
  |_=>exact hQ _ _ _ _ hq hr'
theorem Ii{c:Code}(I:Nat→VS→Prop)(step: ∀n s,I n s→VOk P w0 s c fun e s'=>match e with| .normal=> ∃m,m<n∧I m s'|e=>Q e s')
 (n:Nat)(h:I n s):VOk P w0 s (.loop c) Q:=by
 refine Br (n+1) ?_
 have key: ∀N n s,n≤N→I n s→Ia P w0 c Q (N+1) s:=by
  intro N
  induction N with
  |zero=>
   intro n s hn hI ρ w R hr hQ;refine step n s hI ρ w R hr ?_;intro e ρ' s' w' hq hr';cases e with
   |normal=>obtain⟨m,hm,_⟩:=hq;omega
   |_=>exact hQ _ _ _ _ hq hr'
  |succ N ih=>
   intro n s hn hI ρ w R hr hQ;refine step n s hI ρ w R hr ?_;intro e ρ' s' w' hq hr';cases e with
   |normal=>obtain⟨m,hm,hI'⟩:=hq;exact hQ _ _ _ _ (ih m s' (by omega) hI') hr'
   |_=>exact hQ _ _ _ _ hq hr'
 exact key n n s (Nat.le_refl _) h
theorem dY{c:Code}{l:List Value}{R:Exit→Act→World→Prop}(Q:Exit→VS→Prop)(h:VOk P w ⟨l.map .v,fun _=>none⟩ c Q)
 (hQ: ∀e ρ s' w',Q e s'→Rel w ρ s' w'→R e (s'.act ρ) w'):c.wp P R ⟨l.toArray,[]⟩ w:=by
 have h1:(⟨l.toArray,[]⟩:Act)=(⟨l.map .v,fun _=>none⟩:VS).act (fun _=>0):=by
  simp[VS.act,SV.c,Function.comp_def]
 rw[h1];exact h _ w R ⟨Gw.refl w,fun _ _ hh=>(by cases hh),fun _ _ hh=>(by cases hh)⟩ hQ
variable{ops:Array Oper}{o:Oper}{s:VS}
theorem Qw(hg:o.guard=none)(t:Array Value):Region.wanted o (yielded ops t)=true:=by simp[Region.wanted,hg]
theorem Ap(ho:o.op= .move x)(hgd: ∀ρ,Region.wanted o (yielded ops (s.act ρ).tmps)=true):Ev P ops w0 o s ⟨AE s x,.none,[]⟩:=
 .run _ _ hgd fun ρ w _=>by simp only[execOp,ho];rw[AI];rfl
theorem CJ(ho:o.op= .assign x)(hgd: ∀ρ,Region.wanted o (yielded ops (s.act ρ).tmps)=true):Ev P ops w0 o s ⟨AE s x,.none,[]⟩:=
 .run _ _ hgd fun ρ w _=>by simp only[execOp,ho];rw[AI];rfl
theorem Ts(v:Value)(hgd: ∀ρ,Region.wanted o (yielded ops (s.act ρ).tmps)=true)(h: ∀ρ w,(execOp (s.act ρ).eval o).run P w= .ok (.value v) w):Ev P ops w0 o s ⟨.v v,.none,[]⟩:=
 .run _ _ hgd fun ρ w _=>h ρ w
theorem D6{r:(Nat→Nat)→World→Result Next}(hgd: ∀ρ,Region.wanted o (yielded ops (s.act ρ).tmps)=true)(h: ∀ρ w,(execOp (s.act ρ).eval o).run P w=r ρ w)(h2: ∀ρ w,r ρ w= .ok (.value v) w):Ev P ops w0 o s ⟨.v v,.none,[]⟩:=
 Ts v hgd fun ρ w=>(h ρ w).trans (h2 ρ w)
theorem BZ{z:Value}(_hd:o.dst=some id)(ho:o.op= .alloc ty)(hgd: ∀ρ,Region.wanted o (yielded ops (s.act ρ).tmps)=true)(hz: ∀w,(zeroValue ty).run P w= .ok z w):
 Ev P ops w0 o s ⟨.p id 0,.new id (z.cells.toList.map .v,ty),[]⟩:=
 .new id _ hgd (by simp[SV.has]) fun ρ w _=>by
  simp[execOp,ho,Instr.alloc,newVar,newRow,newObj,Sem.run_bind,hz,Result.andThen,cellsOf,Function.comp_def,SV.c];rfl
theorem G3(_hd:o.dst=some id)(ho:o.op= .box ty x)(hgd: ∀ρ,Region.wanted o (yielded ops (s.act ρ).tmps)=true)(hx:AE s x= .v v):
 Ev P ops w0 o s ⟨.p id 0,.new id (v.cells.toList.map .v,ty),[]⟩:=
 .new id _ hgd (by simp[SV.has]) fun ρ w _=>by
  have h1:=AI s ρ x;rw[hx]at h1;simp[execOp,ho,h1,Instr.box,newVar,newRow,newObj,Result.andThen,cellsOf,Function.comp_def,SV.c];rfl
def Ba:TypeDesc→Bool
 | .struct _=>true
 | .array _ _=>true
 |_=>false
theorem Bp(hu:P.underlying t=some d)(w:World):(isAgg t).run P w= .ok (Ba d) w:=by
 unfold isAgg;rw[Sem.run_bind,run_underlying hu w];cases d<;>simp[Ba,Result.andThen]
theorem Bd(g off j:Nat):(⟨g,off,none⟩:Addr).add j=⟨g,off+j,none⟩:=by unfold Addr.add;split<;>simp_all
def unV:List SV→Option (List Value)
 | []=>some []
 | .v x::l=>match unV l with|some r=>some (x::r)|none=>none
 | .p _ _::_=>none
 | .s _ _ _ _::_=>none
 | .tp _ _ _::_=>none
 | .ap _ _::_=>none
theorem Eb: ∀{l:List SV} {r:List Value},unV l=some r→l=r.map .v
 | [],r,h=>by simp[unV]at h;subst h;rfl
 | .v x::l,r,h=>by
   simp only[unV]at h;cases hl:unV l with
   |none=>rw[hl]at h;cases h
   |some q=>rw[hl]at h;simp only[Option.some.injEq]at h;subst h;rw[Eb hl];rfl
 | .p _ _::_,_,h=>by simp[unV]at h
 | .s _ _ _ _::_,_,h=>by simp[unV]at h
 | .tp _ _ _::_,_,h=>by simp[unV]at h
 | .ap _ _::_,_,h=>by simp[unV]at h
theorem BD(ho:o.op= .load ty x)(hgd: ∀ρ,Region.wanted o (yielded ops (s.act ρ).tmps)=true)(hx:AE s x= .p id off)(hm:s.mem id=some b)
 (hu:P.underlying ty=some d)(hd:Ba d=true)(hs: ∀w,(Go.sizeOf ty).run P w= .ok n w)(hv0:unV ((b.1.drop off).take n)=some vs)(hl:vs.length=n):Ev P ops w0 o s ⟨.v (.agg vs.toArray),.none,[id]⟩:=
 .run _ _ hgd fun ρ w hw=>by
  have h1:=AI s ρ x;rw[hx]at h1;obtain⟨_,hb⟩:=hw.2 id b (by simp) hm;have hv:=Eb hv0
  have hl':(loadCells ⟨ρ id,off,none⟩ vs.length).run P w= .ok vs.toArray w:=run_loadCells_list w _ vs fun j v hj=>by
   rw[Bd];simp only[World.cell?,hb,cellsOf];have h2:((b.1.drop off).take n)[j]? =some (.v v):=by rw[hv];simp[hj]
   have h3:b.1[off+j]? =some (.v v):=by
    rw[List.getElem?_take]at h2;split at h2
    ·rwa [List.getElem?_drop]at h2
    ·cases h2
   simp[h3,SV.c]
  rw[hl]at hl';simp[execOp,ho,h1,SV.c,Instr.loadAt,Instr.sureAddr,loadVar,Bp hu,hd,hs,hl']
theorem BK(ho:o.op= .load ty x)(hgd: ∀ρ,Region.wanted o (yielded ops (s.act ρ).tmps)=true)(hx:AE s x= .p id off)(hm:s.mem id=some b)
 (hu:P.underlying ty=some d)(hd:Ba d=false)(hv:b.1[off]? =some (.v v)):Ev P ops w0 o s ⟨.v v,.none,[id]⟩:=
 .run _ _ hgd fun ρ w hw=>by
  have h1:=AI s ρ x;rw[hx]at h1;obtain⟨_,hb⟩:=hw.2 id b (by simp) hm;have hc:w.cell? ⟨ρ id,off,none⟩=some v:=by simp[World.cell?,hb,cellsOf,hv,SV.c]
  simp[execOp,ho,h1,SV.c,Instr.loadAt,Instr.sureAddr,loadVar,Bp hu,hd,hc]
theorem A2(ho:o.op= .load ty x)(hgd: ∀ρ,Region.wanted o (yielded ops (s.act ρ).tmps)=true)(hx:AE s x= .v (.pointer (some ⟨g,off,none⟩)))
 (hu:P.underlying ty=some d)(hd:Ba d=true)(hs: ∀w,(Go.sizeOf ty).run P w= .ok n w)(hc: ∀j v,vs[j]? =some v→w0.cell? ⟨g,off+j,none⟩=some v)(hl:vs.length=n):Ev P ops w0 o s ⟨.v (.agg vs.toArray),.none,[]⟩:=
 .run _ _ hgd fun ρ w hw=>by
  have h1:=AI s ρ x;rw[hx]at h1
  have hl':(loadCells ⟨g,off,none⟩ vs.length).run P w= .ok vs.toArray w:=run_loadCells_list w _ vs fun j v hj=>by
   rw[Bd];exact hw.1.cell (hc j v hj)
  rw[hl]at hl';simp[execOp,ho,h1,SV.c,Instr.loadAt,Instr.sureAddr,loadVar,Bp hu,hd,hs,hl']
theorem BR{a:Addr}(ho:o.op= .load ty x)(hgd: ∀ρ,Region.wanted o (yielded ops (s.act ρ).tmps)=true)(hx:AE s x= .v (.pointer (some a)))
 (hu:P.underlying ty=some d)(hd:Ba d=false)(hc:w0.cell? a=some v):Ev P ops w0 o s ⟨.v v,.none,[]⟩:=
 .run _ _ hgd fun ρ w hw=>by
  have h1:=AI s ρ x;rw[hx]at h1;simp[execOp,ho,h1,SV.c,Instr.loadAt,Instr.sureAddr,loadVar,Bp hu,hd,hw.1.cell hc]
theorem BA(ho:o.op= .store ty x y)(hgd: ∀ρ,Region.wanted o (yielded ops (s.act ρ).tmps)=true)(hx:AE s x= .p id off)(hm:s.mem id=some b)(hy:AE s y= .v v)
 (hs: ∀w,(Go.sizeOf ty).run P w= .ok n w)(hn:v.cells.size=n)(hfit:off+n≤b.1.length)(h1:v.cells.toList.all (·.oneCell')=true):
 Ev P ops w0 o s ⟨.v undef,.wr id (b.1.take off++v.cells.toList.map .v++b.1.drop (off+n),b.2),[id]⟩:=
 .wr id _ hgd (by rw[hm];rfl) fun ρ w hw=>by
  have e1:=AI s ρ x;rw[hx]at e1;have e2:=AI s ρ y;rw[hy]at e2;obtain⟨_,hb⟩:=hw.2 id b (by simp) hm;have hst:=run_storeCells_at P (ρ id) off b.2 v.cells.toList 0 (b.1.map (SV.c ρ)).toArray w hb (by simp;omega) (fun u hu=>List.all_eq_true.1 h1 u hu);refine⟨w.setRow (ρ id) ((b.1.map (SV.c ρ)).toArray.toList.take (off+0)++v.cells.toList++(b.1.map (SV.c ρ)).toArray.toList.drop (off+0+v.cells.toList.length)).toArray,?_,?_,?_⟩
  ·simp only[execOp,ho,e1,e2,SV.c,Instr.storeAt,Instr.sureAddr,storeVar]
   rw[Sem.run_bind,Sem.run_bind,Sem.run_pure,Result.andThen_ok,Sem.run_bind,hs,Result.andThen_ok,if_neg (by rw[hn];simp),hst];rfl
  ·exact⟨rfl,rfl,rfl,by simp,fun k hk=>setRow_other w _ k _ hk,fun a=>by
    by_cases ha:a.block=ρ id
    ·simp[World.frozen?,ha,hb,cellsOf,setRow_heap w (ρ id) _ _ _ _ hb]
    ·simp[World.frozen?,setRow_other w (ρ id) a.block _ ha]⟩
  ·rw[setRow_heap w (ρ id) _ _ _ _ hb]
   simp[cellsOf,Function.comp_def,SV.c,hn,List.map_take,List.map_drop]
def AJ:List (Nat×Blk)→Nat→Option Blk
 | []=>fun _=>none
 |(id,b)::l=>fun k=>if k=id then some b else AJ l k
def Dp:List (Nat×Blk)→Nat→Blk→List (Nat×Blk)
 | [],id,b=>[(id,b)]
 |(k,c)::l,id,b=>if k=id then(id,b)::l else(k,c)::Dp l id b
theorem Sy(l:List (Nat×Blk))(id:Nat)(b:Blk):AJ (Dp l id b)=BC (AJ l) (.wr id b):=by
 induction l with
 |nil=>rfl
 |cons x l ih=>
  obtain⟨k,c⟩:=x;funext j
  simp only[Dp];split
  ·rename_i h;subst h
   simp only[AJ,BC];split<;>rfl
  ·rename_i h
   simp only[AJ,ih,BC];split
   ·rename_i h2;subst h2;rw[if_neg h]
   ·rfl
theorem MJ(fr:List SV)(m:Nat→Option Blk)(d:Option Nat)(x:SV)(rd:List Nat):(⟨fr,m⟩:VS).put d ⟨x,.none,rd⟩=⟨Bb fr d x,m⟩:=rfl
theorem Xc(fr:List SV)(l:List (Nat×Blk))(d:Option Nat)(x:SV)(rd:List Nat)(id:Nat)(b:Blk):(⟨fr,AJ l⟩:VS).put d ⟨x,.new id b,rd⟩=⟨Bb fr d x,AJ ((id,b)::l)⟩:=rfl
theorem MI(fr:List SV)(l:List (Nat×Blk))(d:Option Nat)(x:SV)(rd:List Nat)(id:Nat)(b:Blk):(⟨fr,AJ l⟩:VS).put d ⟨x,.wr id b,rd⟩=⟨Bb fr d x,AJ (Dp l id b)⟩:=by
 simp only[VS.put,Sy]
theorem NO(fr:List SV)(d:Nat)(x:SV):Bb fr (some d) x=fr.set d x:=rfl
theorem NP(fr:List SV)(x:SV):Bb fr none x=fr:=rfl
theorem Ah{x:Int}(h0: -9223372036854775808≤x)(h1:x≤9223372036854775807):IntKind.i64.wrap x=x:=IntWalk.i64_in x (by omega)
def G0(fr:List SV)(l:List (Nat×Blk))(id:Nat):Bool:=fr.all (fun x=> !x.has id) && l.all (fun x=>x.1 !=id && !x.2.1.any (SV.has id))
theorem NM{l:List (Nat×Blk)}(h:G0 fr l id=true):Bl id ⟨fr,AJ l⟩:=by
 simp only[G0,Bool.and_eq_true]at h;obtain⟨h1,h2⟩:=h;refine⟨?_,fun x hx=>by have:=List.all_eq_true.1 h1 x hx;simpa using this,?_⟩
 ·simp only
  clear h1
  induction l with
  |nil=>rfl
  |cons x l ih=>
   obtain⟨k,c⟩:=x;simp only[List.all_cons,Bool.and_eq_true]at h2;simp only[AJ];rw[if_neg (by have:=h2.1.1;intro e;rw[e]at this;simp at this)];exact ih h2.2
 ·simp only
  clear h1
  induction l with
  |nil=>intro k b hb;cases hb
  |cons x l ih=>
   obtain⟨k,c⟩:=x;simp only[List.all_cons,Bool.and_eq_true]at h2;intro j b hb;simp only[AJ]at hb;split at hb
   ·injection hb with hb;subst hb;have:=h2.1.2;simpa using this
   ·exact ih h2.2 j b hb
def Es(fr:List SV)(l:List (Nat×Blk))(E:List Eff):Bool:=E.all fun e=>match e.mw.newId with|some id=>G0 fr l id|none=>true
theorem NN{l:List (Nat×Blk)}(h:Es fr l E=true): ∀e∈E,∀id,e.mw.newId=some id→Bl id ⟨fr,AJ l⟩:=by
 intro e he id hid;have:=List.all_eq_true.1 h e he;simp only[hid]at this;exact NM this
theorem vrd{l:List Oper}{m:List (Nat×Blk)}(hm:P.follows .mixedOrders=true)(h:VE P l.toArray w0 l E ⟨fr,AJ m⟩ s')
 (hB:(veB l.toArray l E && Es fr m E)=true)(hQ:Q .normal s'):VOk P w0 ⟨fr,AJ m⟩ (.region id l.toArray true) Q:=by
 rw[Bool.and_eq_true]at hB;exact Qy hm h hB.1 (NN hB.2) hQ
theorem vrp{l:List Oper}{m:List (Nat×Blk)}(h:VE P l.toArray w0 l E ⟨fr,AJ m⟩ s')
 (hB:(l.all (fun o=> !Dv o.op) && B9 E && Es fr m E)=true)(hQ:Q .normal s'):VOk P w0 ⟨fr,AJ m⟩ (.region id l.toArray false) Q:=by
 simp only[Bool.and_eq_true]at hB;exact Qx h hB.1.1 hB.1.2 (NN hB.2) hQ
theorem Q2{c:Code}{l:List Value}{R:Exit→Act→World→Prop}(h:VOk P w ⟨l.map .v,AJ []⟩ c fun e s'=> ∀ρ w',Rel w ρ s' w'→R e (s'.act ρ) w'):c.wp P R ⟨l.toArray,[]⟩ w:=
 dY _ h fun _ ρ _ w' hq hr=>hq ρ w' hr
theorem C7(ho:o.op= .indexAddr ty x ix)(hgd: ∀ρ,Region.wanted o (yielded ops (s.act ρ).tmps)=true)(hx:AE s x= .p id off)(hi:AE s ix= .v (.int k i))
 (hu:P.underlying ty=some (.array n el))(hs: ∀w,(Go.sizeOf el).run P w= .ok sz w)(h0:0≤i)(h1:i<n):Ev P ops w0 o s ⟨.p id (off+i.toNat*sz),.none,[]⟩:=
 .run _ _ hgd fun ρ w _=>by
  have e1:=AI s ρ x;rw[hx]at e1;have e2:=AI s ρ ix;rw[hi]at e2;simp[execOp,ho,e1,e2,SV.c,Instr.indexAt,asIntOf,run_underlying hu,Instr.sureAddr,hs,h0,h1,Bd]
theorem BG{f:Nat}(ho:o.op= .fieldAddr ty x f)(hgd: ∀ρ,Region.wanted o (yielded ops (s.act ρ).tmps)=true)(hx:AE s x= .p id off)
 (hu:P.underlying ty=some (.struct fs))(hf:fs[f]? =some fd)(hs: ∀w,(Go.sizeOf fd.type).run P w= .ok (n+1) w):Ev P ops w0 o s ⟨.p id (off+fd.offset),.none,[]⟩:=
 .run _ _ hgd fun ρ w _=>by
  have e1:=AI s ρ x;rw[hx]at e1;simp[execOp,ho,e1,SV.c,Instr.fieldAt,run_underlying hu,hf,Instr.sureAddr,fieldPlace,hs,Bd]
theorem BF{f:Nat}(ho:o.op= .fieldAddr ty x f)(hgd: ∀ρ,Region.wanted o (yielded ops (s.act ρ).tmps)=true)(hx:AE s x= .v (.pointer (some ⟨g,off,none⟩)))
 (hu:P.underlying ty=some (.struct fs))(hf:fs[f]? =some fd)(hs: ∀w,(Go.sizeOf fd.type).run P w= .ok (n+1) w):Ev P ops w0 o s ⟨.v (.pointer (some ⟨g,off+fd.offset,none⟩)),.none,[]⟩:=
 .run _ _ hgd fun ρ w _=>by
  have e1:=AI s ρ x;rw[hx]at e1;simp[execOp,ho,e1,SV.c,Instr.fieldAt,run_underlying hu,hf,Instr.sureAddr,fieldPlace,hs,Bd]
theorem DK(ho:o.op= .indexAddr ty x ix)(hgd: ∀ρ,Region.wanted o (yielded ops (s.act ρ).tmps)=true)(hx:AE s x= .v (.pointer (some ⟨g,off,none⟩)))(hi:AE s ix= .v (.int k i))
 (hu:P.underlying ty=some (.array n el))(hs: ∀w,(Go.sizeOf el).run P w= .ok sz w)(h0:0≤i)(h1:i<n):Ev P ops w0 o s ⟨.v (.pointer (some ⟨g,off+i.toNat*sz,none⟩)),.none,[]⟩:=
 .run _ _ hgd fun ρ w _=>by
  have e1:=AI s ρ x;rw[hx]at e1;have e2:=AI s ρ ix;rw[hi]at e2;simp[execOp,ho,e1,e2,SV.c,Instr.indexAt,asIntOf,run_underlying hu,Instr.sureAddr,hs,h0,h1,Bd]
theorem IS(ho:o.op= .nilCheck x)(hgd: ∀ρ,Region.wanted o (yielded ops (s.act ρ).tmps)=true)(hx:AE s x= .p id off):Ev P ops w0 o s ⟨.p id off,.none,[]⟩:=
 .run _ _ hgd fun ρ w _=>by
  have e1:=AI s ρ x;rw[hx]at e1;simp[execOp,ho,e1,SV.c]
theorem IR{a:Addr}(ho:o.op= .nilCheck x)(hgd: ∀ρ,Region.wanted o (yielded ops (s.act ρ).tmps)=true)(hx:AE s x= .v (.pointer (some a))):Ev P ops w0 o s ⟨.v (.pointer (some a)),.none,[]⟩:=
 .run _ _ hgd fun ρ w _=>by
  have e1:=AI s ρ x;rw[hx]at e1;simp[execOp,ho,e1,SV.c]
theorem G8(h0:unV (xs.toList.map (AE s))=some vs)(ρ:Nat→Nat):xs.map (s.act ρ).eval=vs.toArray:=by
 have h:=Eb h0
 have h1:xs.toList.map (s.act ρ).eval=vs:=by
  have:xs.toList.map (s.act ρ).eval=(xs.toList.map (AE s)).map (SV.c ρ):=by
   rw[List.map_map];exact List.map_congr_left fun x _=>AI s ρ x
  rw[this,h,List.map_map];simp[Function.comp_def,SV.c]
 rw[←Array.toList_map]at h1;rw[←h1,Array.toArray_toList]
theorem oE{hi:Operand}{k:Nat}(ho:o.op= .slice ty x none (some hi) none)(hgd: ∀ρ,Region.wanted o (yielded ops (s.act ρ).tmps)=true)(hx:AE s x= .p id 0)(hhi:AE s hi= .v (.int .i64 (k:Nat)))
 (hu:P.underlying ty=some (.array n el))(hs: ∀w,(Go.sizeOf el).run P w= .ok sz w)(hk:k≤n):Ev P ops w0 o s ⟨.s id 0 k n,.none,[]⟩:=
 .run _ _ hgd fun ρ w _=>by
  have e1:=AI s ρ x;rw[hx]at e1;have e2:=AI s ρ hi;rw[hhi]at e2
  have hb:(Instr.sliceBound (.int .i64 (k:Nat)) n .sliceAlen).run P w= .ok k w:=by
   unfold Instr.sliceBound;rw[Sem.run_bind];simp only[asIntOf,Sem.run_pure,Result.andThen_ok];rw[if_pos ⟨by omega,by omega⟩];rfl
  simp[execOp,ho,e1,e2,SV.c,Instr.sliceAt,run_underlying hu,Instr.sureAddr,Instr.sliceBounds,hs,Bd,hb]
theorem NV{len cap:Nat}(ho:o.op= .sliceToArrayPointer ty x)(hgd: ∀ρ,Region.wanted o (yielded ops (s.act ρ).tmps)=true)(hx:AE s x= .s id off len cap)
 (hu:P.underlying ty=some (.array n el))(hn:n≤len):Ev P ops w0 o s ⟨.p id off,.none,[]⟩:=
 .run _ _ hgd fun ρ w _=>by
  have e1:=AI s ρ x;rw[hx]at e1;have h1: ¬len<n:=by omega
  simp[execOp,ho,e1,SV.c,Instr.arrayAt,run_underlying hu,h1]
theorem BM{b:Int}(ho:o.op= .binOp .lss ty x y r)(hgd: ∀ρ,Region.wanted o (yielded ops (s.act ρ).tmps)=true)(hx:AE s x= .v (.int .i64 a))(hy:AE s y= .v (.int .i64 b))(hp:decide (a<b)=p):
 Ev P ops w0 o s ⟨.v (.bool p),.none,[]⟩:=
 .run _ _ hgd fun ρ w _=>by
  have e1:=AI s ρ x;rw[hx]at e1;have e2:=AI s ρ y;rw[hy]at e2;simp only[execOp,ho,e1,e2,SV.c];subst hp
  go_simp
theorem B4{b:Int}(ho:o.op= .binOp .geq ty x y r)(hgd: ∀ρ,Region.wanted o (yielded ops (s.act ρ).tmps)=true)(hx:AE s x= .v (.int .i64 a))(hy:AE s y= .v (.int .i64 b))(hp:decide (b≤a)=p):
 Ev P ops w0 o s ⟨.v (.bool p),.none,[]⟩:=
 .run _ _ hgd fun ρ w _=>by
  have e1:=AI s ρ x;rw[hx]at e1;have e2:=AI s ρ y;rw[hy]at e2;simp only[execOp,ho,e1,e2,SV.c];subst hp
  go_simp
theorem Ag{b:Int}(ho:o.op= .binOp .eql ty x y r)(hgd: ∀ρ,Region.wanted o (yielded ops (s.act ρ).tmps)=true)(hx:AE s x= .v (.int k a))(hy:AE s y= .v (.int k b))(hp:decide (a=b)=p):
 Ev P ops w0 o s ⟨.v (.bool p),.none,[]⟩:=
 .run _ _ hgd fun ρ w _=>by
  have e1:=AI s ρ x;rw[hx]at e1;have e2:=AI s ρ y;rw[hy]at e2;simp only[execOp,ho,e1,e2,SV.c];subst hp
  go_simp
  by_cases h:a=b<;>simp[h]
theorem BE{b c:Int}(ho:o.op= .binOp .add ty x y r)(hgd: ∀ρ,Region.wanted o (yielded ops (s.act ρ).tmps)=true)(hx:AE s x= .v (.int k a))(hy:AE s y= .v (.int k b))(hp:k.wrap (a+b)=c):
 Ev P ops w0 o s ⟨.v (.int k c),.none,[]⟩:=
 .run _ _ hgd fun ρ w _=>by
  have e1:=AI s ρ x;rw[hx]at e1;have e2:=AI s ρ y;rw[hy]at e2;simp only[execOp,ho,e1,e2,SV.c];subst hp
  go_simp
theorem Bu{b c:Int}(ho:o.op= .binOp .sub ty x y r)(hgd: ∀ρ,Region.wanted o (yielded ops (s.act ρ).tmps)=true)(hx:AE s x= .v (.int k a))(hy:AE s y= .v (.int k b))(hp:k.wrap (a-b)=c):
 Ev P ops w0 o s ⟨.v (.int k c),.none,[]⟩:=
 .run _ _ hgd fun ρ w _=>by
  have e1:=AI s ρ x;rw[hx]at e1;have e2:=AI s ρ y;rw[hy]at e2;simp only[execOp,ho,e1,e2,SV.c];subst hp
  go_simp
theorem Tt{vs:Array Value}{k:Nat}(ho:o.op= .index ty x ix)(hgd: ∀ρ,Region.wanted o (yielded ops (s.act ρ).tmps)=true)(hx:AE s x= .v (.agg vs))(hi:AE s ix= .v (.int .i64 (k:Nat)))
 (hu:P.underlying ty=some (.array n el))(hs: ∀w,(Go.sizeOf el).run P w= .ok 1 w)(hue:P.underlying el=some d)(hd:Ba d=false)(hk:k<n)(hv:vs.toList[k]? =some v):Ev P ops w0 o s ⟨.v v,.none,[]⟩:=
 .run _ _ hgd fun ρ w _=>by
  have e1:=AI s ρ x;rw[hx]at e1;have e2:=AI s ρ ix;rw[hi]at e2;have h1:vs[k]? =some v:=by simpa using hv
  simp[execOp,ho,e1,e2,SV.c,Instr.index,run_underlying hu,asIntOf,hs,hk,part,Bp hue,hd,h1]
theorem AM(ho:o.op= .call {callee:= .value (.func f),args:=xs,argTypes:=ats})(hgd: ∀ρ,Region.wanted o (yielded ops (s.act ρ).tmps)=true)
 (hx:unV (xs.toList.map (AE s))=some vs)(he: ∀args w,(callFunc f args).run P w= .ok (.enter f args) w)(hc: ∀w,Gw w0 w→Calls P f vs.toArray w fun e w'=>e= .returned v∧Gw w w'):Ev P ops w0 o s ⟨.v v,.none,[]⟩:=
 .call f (fun _=>vs.toArray) (.v v) [] hgd (fun ρ w _=>by
  obtain⟨dst,op,type,pos,after,guard⟩:=o;simp only at ho;subst ho;rw[execOp_call_go,G8 hx];simpa using he vs.toArray w) fun _ w hs=>hc w hs.1
theorem G7(xs:Array Operand)(ρ:Nat→Nat):xs.map (s.act ρ).eval=((xs.toList.map (AE s)).map (SV.c ρ)).toArray:=by
 rw[←Array.toList_inj];simp only[Array.toList_map,List.map_map];exact List.map_congr_left fun x _=>AI s ρ x
theorem Aj{vs:List SV}(rd:List Nat)(ho:o.op= .call {callee:= .value (.func f),args:=xs,argTypes:=ats})(hgd: ∀ρ,Region.wanted o (yielded ops (s.act ρ).tmps)=true)
 (hx:xs.toList.map (AE s)=vs)(he: ∀args w,(callFunc f args).run P w= .ok (.enter f args) w)
 (hc: ∀ρ w,GM w0 s rd ρ w→Calls P f (vs.map (SV.c ρ)).toArray w fun e w'=>e= .returned v∧Gw w w'):Ev P ops w0 o s ⟨.v v,.none,rd⟩:=
 .call f (fun ρ=>(vs.map (SV.c ρ)).toArray) (.v v) rd hgd (fun ρ w _=>by
  obtain⟨dst,op,type,pos,after,guard⟩:=o;simp only at ho;subst ho;rw[execOp_call_go,G7,hx];simpa using he (vs.map (SV.c ρ)).toArray w) hc
theorem ob{y:Value}(_hd:o.dst=some id)(ho:o.op= .call {callee:= .value (.func f),args:=xs,argTypes:=ats})(hgd: ∀ρ,Region.wanted o (yielded ops (s.act ρ).tmps)=true)
 (hx:unV (xs.toList.map (AE s))=some vs)(he: ∀args w,(callFunc f args).run P w= .ok (.enter f args) w)(cs:List Value)(ty:TypeId)
 (hc: ∀w,Gw w0 w→Calls P f vs.toArray w fun e w'=> ∃g,w.heap.size≤g∧e= .returned (.tuple #[.pointer (some ⟨g,0,none⟩),y])∧w'.heap[g]? =some (.cells cs.toArray ty (0,0))∧Gw w w'):
 Ev P ops w0 o s ⟨.tp id 0 y,.new id (cs.map .v,ty),[]⟩:=
 .callnew f (fun _=>vs.toArray) (.tp id 0 y) [] id (cs.map .v,ty) hgd (by simp[SV.has]) (fun ρ w _=>by
  obtain⟨dst,op,type,pos,after,guard⟩:=o;simp only at ho;subst ho;rw[execOp_call_go,G8 hx];simpa using he vs.toArray w) fun ρ w hs=>(hc w hs.1).mono fun e w' ⟨g,h1,h2,h3,h4⟩=>⟨g,h1,by simp[h2,SV.c],by rw[h3];simp[cellsOf,Function.comp_def,SV.c],h4⟩
theorem oQ{y:Value}(ho:o.op= .extract x 0)(hgd: ∀ρ,Region.wanted o (yielded ops (s.act ρ).tmps)=true)(hx:AE s x= .tp id off y):Ev P ops w0 o s ⟨.p id off,.none,[]⟩:=
 .run _ _ hgd fun ρ w _=>by
  have e1:=AI s ρ x;rw[hx]at e1;simp[execOp,ho,e1,SV.c,Instr.extract]
theorem oP{y:Value}(ho:o.op= .extract x 1)(hgd: ∀ρ,Region.wanted o (yielded ops (s.act ρ).tmps)=true)(hx:AE s x= .tp id off y):Ev P ops w0 o s ⟨.v y,.none,[]⟩:=
 .run _ _ hgd fun ρ w _=>by
  have e1:=AI s ρ x;rw[hx]at e1;simp[execOp,ho,e1,SV.c,Instr.extract]
theorem AK{op:BinOp}{a b c:Value}(ho:o.op= .binOp op ty x y r)(hgd: ∀ρ,Region.wanted o (yielded ops (s.act ρ).tmps)=true)(hx:AE s x= .v a)(hy:AE s y= .v b)
 (h: ∀w,(do eqGuard op ty x y a b;binOp op ty a b:Sem Value).run P w= .ok c w):Ev P ops w0 o s ⟨.v c,.none,[]⟩:=
 .run _ _ hgd fun ρ w _=>by
  have e1:=AI s ρ x;rw[hx]at e1;have e2:=AI s ρ y;rw[hy]at e2;simp only[execOp,ho,e1,e2,SV.c];rw[Sem.run_bind,h w];rfl
theorem B1{st dt:TypeId}{a c:Value}(ho:o.op= .convert st dt x)(hgd: ∀ρ,Region.wanted o (yielded ops (s.act ρ).tmps)=true)(hx:AE s x= .v a)(h: ∀w,(convert st dt a).run P w= .ok c w):Ev P ops w0 o s ⟨.v c,.none,[]⟩:=
 .run _ _ hgd fun ρ w _=>by
  have e1:=AI s ρ x;rw[hx]at e1;simp only[execOp,ho,e1,SV.c];rw[Sem.run_bind,h w];rfl
theorem G1(ho:o.op= .call {callee:= .value (.func f),args:=xs,argTypes:=ats})(hgd: ∀ρ,Region.wanted o (yielded ops (s.act ρ).tmps)=true)
 (hx:unV (xs.toList.map (AE s))=some vs)(he: ∀w,(callFunc f vs.toArray).run P w= .ok (.value v) w):Ev P ops w0 o s ⟨.v v,.none,[]⟩:=
 .run _ _ hgd fun ρ w _=>by
  obtain⟨dst,op,type,pos,after,guard⟩:=o;simp only at ho;subst ho;rw[execOp_call_go,G8 hx];simpa[SV.c] using he w
theorem Cy{i:Nat}{vs:Array Value}(ho:o.op= .extract x i)(hgd: ∀ρ,Region.wanted o (yielded ops (s.act ρ).tmps)=true)(hx:AE s x= .v (.tuple vs))(hi0:vs.toList[i]? =some v):Ev P ops w0 o s ⟨.v v,.none,[]⟩:=
 .run _ _ hgd fun ρ w _=>by
  have e1:=AI s ρ x;rw[hx]at e1;have hi:vs[i]? =some v:=by simpa using hi0
  simp[execOp,ho,e1,SV.c,Instr.extract,hi]
theorem T3{c:Code}(hf:P.funcs[f]? =some fn)(hname:(fn.name== "runtime.NumGoroutine")=false)(hb:fn.body=some c): ∀(args:Array Value) (w:World),(callFunc f args).run P w= .ok (.enter f args) w:=by
 intro args w;have h1:fn.name≠ "runtime.NumGoroutine" :=by simpa using hname
 simp[callFunc,hf,h1,hb,mark]
theorem eo{c:Code}(hf:P.funcs[f]? =some fn)(hn:(fn.name== "runtime.NumGoroutine")=false:=by kernel_rfl)(hb:fn.body=some c:=by rfl): ∀(args:Array Value)(w:World),(callFunc f args).run P w=.ok (.enter f args) w:=T3 hf hn hb
def B0(keep:Nat→Bool)(f:Nat→Value):Nat→List SV→List SV
 |_,[]=>[]
 |i,x::l=>(if keep i then x else .v (f i))::B0 keep f (i+1) l
def VS.forget(keep:Nat→Bool)(drop:Nat)(f:Nat→Value)(s:VS):VS:=⟨B0 keep f 0 s.fr,fun k=>if k=drop then none else s.mem k⟩
theorem Je(keep:Nat→Bool)(ρ:Nat→Nat)(f:Nat→Value): ∀(l:List SV) (i:Nat),(∀j x,l[j]? =some x→f (i+j)=x.c ρ)→(B0 keep f i l).map (SV.c ρ)=l.map (SV.c ρ)
 | [],_,_=>rfl
 |x::l,i,h=>by
  simp only[B0,List.map_cons];rw[Je keep ρ f l (i+1) (fun j y hj=>by have:=h (j+1) y (by simpa using hj);rw[←this];congr 1;omega)];congr 1
  split
  ·rfl
  ·simp only[SV.c];exact h 0 x rfl
theorem dX(keep:Nat→Bool)(drop:Nat){c:Code}(h:VOk P w0 s c fun e s'=> ∀f,Q e (s'.forget keep drop f)):VOk P w0 s c Q:=by
 intro ρ w R hr hQ;refine h ρ w R hr ?_;intro e ρ' s' w' hq hr'
 have h1:=hQ e ρ' (s'.forget keep drop fun i=>((s'.fr[i]?).getD (.v undef)).c ρ') w' (hq _) ⟨hr'.gw,fun id b hb=>by
  simp only[VS.forget]at hb;split at hb
  ·cases hb
  ·exact hr'.own id b hb,fun i j hi hj hij=>by
  refine hr'.inj i j ?_ ?_ hij
  ·simp only[VS.forget]at hi;split at hi
   ·cases hi
   ·exact hi
  ·simp only[VS.forget]at hj;split at hj
   ·cases hj
   ·exact hj⟩
 have h2:(s'.forget keep drop fun i=>((s'.fr[i]?).getD (.v undef)).c ρ').act ρ'=s'.act ρ':=by
  simp only[VS.act,VS.forget];rw[Je keep ρ' _ s'.fr 0 (fun j x hj=>by simp[hj])]
 rw[h2]at h1;exact h1
theorem Jw(keep:Nat→Bool)(drop:Nat){c:Code}(h: ∀f,VOk P w0 (s.forget keep drop f) c Q):VOk P w0 s c Q:=by
 intro ρ w R hr hQ
 have h1:=h (fun i=>((s.fr[i]?).getD (.v undef)).c ρ) ρ w R ⟨hr.gw,fun id b hb=>by
  simp only[VS.forget]at hb;split at hb
  ·cases hb
  ·exact hr.own id b hb,fun i j hi hj hij=>by
  refine hr.inj i j ?_ ?_ hij
  ·simp only[VS.forget]at hi;split at hi
   ·cases hi
   ·exact hi
  ·simp only[VS.forget]at hj;split at hj
   ·cases hj
   ·exact hj⟩ hQ
 have h2:(s.forget keep drop fun i=>((s.fr[i]?).getD (.v undef)).c ρ).act ρ=s.act ρ:=by
  simp only[VS.act,VS.forget];rw[Je keep ρ _ s.fr 0 (fun j x hj=>by simp[hj])]
 rw[h2]at h1;exact h1
theorem lm{d:Nat}{l:List (Nat×Blk)}(h:l.all (fun x=>x.1 !=d)=true):(fun k=>if k=d then none else AJ l k)=AJ l:=by
 funext k
 by_cases e:k=d
 ·subst e
  rw[if_pos rfl]
  induction l with
  |nil=>rfl
  |cons x l ih=>
   obtain⟨j,c⟩:=x;simp only[List.all_cons,Bool.and_eq_true]at h;simp only[AJ];rw[if_neg (by have:=h.1;simp at this;exact fun e=>this e.symm)];exact ih h.2
 ·simp only[if_neg e]
theorem Ym{d:Nat}{l:List (Nat×Blk)}(h:l.all (fun x=>x.1 !=d)=true):(fun k=>if k=d then none else AJ ((d,b)::l) k)=AJ l:=by
 funext k
 by_cases e:k=d
 ·subst e
  rw[if_pos rfl]
  induction l with
  |nil=>rfl
  |cons x l ih=>
   obtain⟨j,c⟩:=x;simp only[List.all_cons,Bool.and_eq_true]at h;simp only[AJ];rw[if_neg (by have:=h.1;simp at this;exact fun e=>this e.symm)];exact ih h.2
 ·simp only[if_neg e,AJ]
theorem Rs(hs:GM w0 s rd ρ w)(hid:id∈rd)(hm:s.mem id=some b)(off:Nat)(l:List Value)(hl:unV ((b.1.drop off).take l.length)=some l):
 ∀(j:Nat) (v:Value),l[j]? =some v→w.cell? ⟨ρ id,off+j,none⟩=some v:=by
 intro j v hj;obtain⟨_,hb⟩:=hs.2 id b hid hm;have hv:=Eb hl;have h2:((b.1.drop off).take l.length)[j]? =some (.v v):=by rw[hv];simp[hj]
 have h3:b.1[off+j]? =some (.v v):=by
  rw[List.getElem?_take]at h2;split at h2
  ·rwa [List.getElem?_drop]at h2
  ·cases h2
 simp only[World.cell?,hb,cellsOf];simp[h3,SV.c]
theorem NR{op:UnOp}{a c:Value}(ho:o.op= .unOp op ty x)(hgd: ∀ρ,Region.wanted o (yielded ops (s.act ρ).tmps)=true)(hx:AE s x= .v a)(h: ∀w,(Op.unary op a).run P w= .ok c w):Ev P ops w0 o s ⟨.v c,.none,[]⟩:=
 .run _ _ hgd fun ρ w _=>by
  have e1:=AI s ρ x;rw[hx]at e1;simp only[execOp,ho,e1,SV.c];rw[Sem.run_bind,h w];rfl
theorem AD{R:Ending→World→Prop}(hv: ∀ρ w,Rel w0 ρ s w→(results fn (s.act ρ).tmps).run P w= .ok v w)(hR: ∀w,Gw w0 w→R (.returned v) w):
 ∀ρ w,Rel w0 ρ s w→bodyPost P fn R .ret (s.act ρ) w:=fun ρ w hr=>⟨rfl,v,hv ρ w hr,hR w hr.gw⟩
theorem Xj{R:Ending→World→Prop}(hv: ∀ρ w,Rel w0 ρ s w→(results fn (s.act ρ).tmps).run P w= .ok v w)(hR: ∀w,Gw w0 w→R (.returned v) w):
 ∀ρ w,Rel w0 ρ s w→bodyPost P fn R .normal (s.act ρ) w:=fun ρ w hr=>⟨rfl,v,hv ρ w hr,hR w hr.gw⟩
theorem Gy(t:Nat)(ρ:Nat→Nat):(s.act ρ).tmps.getD t undef=(AE s (.tmp t)).c ρ:=AI s ρ (.tmp t)
def DW(tmps:Array Value):ResultVar→Sem Value
 | .tmp t=>pure (tmps.getD t undef)
 | .cell p t=>do loadVar t (←asAddr (tmps.getD p undef))
def RV(P:Program)(s:VS)(r:ResultVar)(v:Value):Prop:=
 ∀(ρ:Nat→Nat) (w:World),(∀id b,s.mem id=some b→w.heap[ρ id]? =some (cellsOf ρ b))→(DW (s.act ρ).tmps r).run P w=Result.ok v w
theorem AF{t:Nat}(h:AE s (.tmp t)= .v v):RV P s (.tmp t) v:=fun ρ w _=>by
 simp only[DW,Gy,h,SV.c];rfl
theorem Ac{p ty:Nat}(h:AE s (.tmp p)= .p id off)(hm:s.mem id=some b)(hu:P.underlying ty=some d)(hd:Ba d=true)(hs: ∀w,(Go.sizeOf ty).run P w= .ok n w)
 (hv0:unV ((b.1.drop off).take n)=some vs)(hl:vs.length=n):RV P s (.cell p ty) (.agg vs.toArray):=fun ρ w hw=>by
 have hb:=hw id b hm;have hv:=Eb hv0
 have hl':(loadCells ⟨ρ id,off,none⟩ vs.length).run P w= .ok vs.toArray w:=run_loadCells_list w _ vs fun j v hj=>by
  rw[Bd];simp only[World.cell?,hb,cellsOf];have h2:((b.1.drop off).take n)[j]? =some (.v v):=by rw[hv];simp[hj]
  have h3:b.1[off+j]? =some (.v v):=by
   rw[List.getElem?_take]at h2;split at h2
   ·rwa [List.getElem?_drop]at h2
   ·cases h2
  simp[h3,SV.c]
 rw[hl]at hl';simp only[DW,Gy,h,SV.c];simp[asAddr,loadVar,Bp hu,hd,hs,hl']
theorem Ht(fn:Func)(tmps:Array Value):results fn tmps=(do let vs←fn.results.mapM (DW tmps);pure (if h:vs.size=1 then vs[0]else .tuple vs)):=by
 unfold results;congr 1
theorem AH{r:ResultVar}(hf:fn.results= #[r])(h:RV P s r v): ∀ρ w,Rel w0 ρ s w→(results fn (s.act ρ).tmps).run P w= .ok v w:=fun ρ w hr=>by
 have h1:=h ρ w fun id b hb=>(hr.own id b hb).2
 rw[Ht,hf];simp[h1]
theorem Av{r r':ResultVar}{v':Value}(hf:fn.results= #[r,r'])(h:RV P s r v)(h':RV P s r' v'): ∀ρ w,Rel w0 ρ s w→(results fn (s.act ρ).tmps).run P w= .ok (.tuple #[v,v']) w:=fun ρ w hr=>by
 have h1:=h ρ w fun id b hb=>(hr.own id b hb).2
 have h2:=h' ρ w fun id b hb=>(hr.own id b hb).2
 rw[Ht,hf];simp[h1,h2]
theorem WJ(hf:fn.results= #[]): ∀ρ w,Rel w0 ρ s w→(results fn (s.act ρ).tmps).run P w= .ok (.tuple #[]) w:=fun _ _ _=>results_none hf _ _ _
theorem kD{R:Ending→World→Prop}{a c:Nat}{y:Value}{cs:List Value}(hf:fn.results= #[.tmp a,.tmp c])(ha:AE s (.tmp a)= .p id 0)(hc:AE s (.tmp c)= .v y)(hm:s.mem id=some b)(hb:unV b.1=some cs)
 (hR: ∀g w,w0.heap.size≤g→w.heap[g]? =some (.cells cs.toArray b.2 (0,0))→Gw w0 w→R (.returned (.tuple #[.pointer (some ⟨g,0,none⟩),y])) w): ∀ρ w,Rel w0 ρ s w→bodyPost P fn R .ret (s.act ρ) w:=fun ρ w hr=>by
 obtain⟨h1,h2⟩:=hr.own id b hm;refine⟨rfl,_,?_,hR (ρ id) w h1 (by rw[h2];simp[cellsOf,Eb hb,Function.comp_def,SV.c]) hr.gw⟩;rw[Ht,hf];have e1:(DW (s.act ρ).tmps (.tmp a)).run P w= .ok (.pointer (some ⟨ρ id,0,none⟩)) w:=by simp only[DW,Gy,ha,SV.c];rfl
 have e2:(DW (s.act ρ).tmps (.tmp c)).run P w= .ok y w:=by simp only[DW,Gy,hc,SV.c];rfl
 simp[e1,e2]
theorem MN(fr:List SV)(m:Nat→Option Blk)(t:Nat):AE ⟨fr,m⟩ (.tmp t)=(fr[t]?).getD (.v undef):=rfl
theorem MX(s:VS)(v:Value):AE s (.const v)= .v v:=rfl
theorem MU(s:VS)(g:Nat):AE s (.global g)= .v (.pointer (some ⟨g,0,none⟩)):=rfl
theorem MV(s:VS)(f:FuncId):AE s (.func f)= .v (.func (.func f) #[] #[]):=rfl
theorem MR(id:Nat)(b:Blk):Dp [] id b=[(id,b)]:=rfl
theorem MQ(k:Nat)(c:Blk)(l:List (Nat×Blk))(id:Nat)(b:Blk):Dp ((k,c)::l) id b=if k=id then(id,b)::l else(k,c)::Dp l id b:=rfl
theorem MZ(cs:Array Value):Value.cells (.agg cs)=cs:=rfl
theorem MS(k:IntKind)(n:Int):Value.cells (.int k n)= #[.int k n]:=rfl
theorem MY(b:Bool):Value.cells (.bool b)= #[.bool b]:=rfl
theorem MP(a:Option Addr):Value.cells (.pointer a)= #[.pointer a]:=rfl
theorem MO(a:Option Addr)(l c:Nat):Value.cells (.slice a l c)= #[.slice a l c]:=rfl
theorem nm:(type_of%(MJ))∧(type_of%(Xc))∧(type_of%(MI))∧(type_of%(NO))∧(type_of%(NP))∧(type_of%(@List.set_cons_zero SV))∧(type_of%(@List.set_cons_succ SV))∧(type_of%(MN))∧(type_of%(MX))∧(type_of%(MU))∧(type_of%(MV))∧(type_of%(@List.getElem?_cons_zero SV))∧(type_of%(@List.getElem?_cons_succ SV))∧(type_of%(@List.getElem?_cons_zero Value))∧(type_of%(@List.getElem?_cons_succ Value))∧(type_of%(@Option.getD_some SV))∧(type_of%(@List.take_succ_cons SV))∧(type_of%(@List.take_zero SV))∧(type_of%(@List.drop_succ_cons SV))∧(type_of%(@List.drop_zero SV))∧(type_of%(@List.cons_append SV))∧(type_of%(@List.nil_append SV))∧(type_of%(@List.append_nil SV))∧(type_of%(@List.map_cons Value SV))∧(type_of%(@List.map_nil Value SV))∧(type_of%(MR))∧(type_of%(MQ))∧(type_of%(MZ))∧(type_of%(MS))∧(type_of%(MY))∧(type_of%(MP))∧(type_of%(MO))∧(type_of%(@Int.toNat_natCast))∧(type_of%(@Nat.zero_add))∧(type_of%(@Nat.add_zero))∧(type_of%(@Nat.mul_one))∧(type_of%(@Ah)):=
 ⟨MJ,Xc,MI,NO,NP,@List.set_cons_zero SV,@List.set_cons_succ SV,MN,MX,MU,MV,@List.getElem?_cons_zero SV,@List.getElem?_cons_succ SV,@List.getElem?_cons_zero Value,@List.getElem?_cons_succ Value,@Option.getD_some SV,@List.take_succ_cons SV,@List.take_zero SV,@List.drop_succ_cons SV,@List.drop_zero SV,@List.cons_append SV,@List.nil_append SV,@List.append_nil SV,@List.map_cons Value SV,@List.map_nil Value SV,MR,MQ,MZ,MS,MY,MP,MO,@Int.toNat_natCast,@Nat.zero_add,@Nat.add_zero,@Nat.mul_one,@Ah⟩
theorem gn(hg:o.guard=none)(ρ:Nat→Nat):Region.wanted o (yielded ops (s.act ρ).tmps)=true:=Qw hg _
theorem gg(hg:o.guard=none:=by rfl)(ρ:Nat→Nat):Region.wanted o (yielded ops (s.act ρ).tmps)=true:=gn hg ρ
end
end Go.Toll
namespace Go.Proofs.YtafbhakmkbehiaaGreatDoor
open Go.RowKit Go.Toll
variable{ops:Array Oper}{e:Eff}{Q:Exit→VS→Prop}{fr:List SV}{id:Nat}{o:Oper}{P:Program}{A B:Prop}{s s1:VS}{w0:World}
def t_K(P:Program)(ops:Array Oper)(w0:World)(l:List Oper)(s:VS)(R:List Eff→VS→Prop):Prop:= ∃E s',VE P ops w0 l E s s'∧R E s'
theorem t_n{R:List Eff→VS→Prop}(h:R [] s):t_K P ops w0 [] s R:=⟨[],s,.nil s,h⟩
theorem t_c{l:List Oper}{R:List Eff→VS→Prop}(h:Ev P ops w0 o s e)(hs:s.put o.dst e=s1)(r:t_K P ops w0 l s1 (fun E s'=>R (e::E) s')):t_K P ops w0 (o::l) s R:=by
 subst hs;obtain⟨E,s',h1,h2⟩:=r;exact⟨_,_,.cons h h1,h2⟩
theorem t_p{l:List Oper}{m:List (Nat×Blk)}(h:t_K P l.toArray w0 l ⟨fr,AJ m⟩ fun E s'=>(l.all (fun o=> !Dv o.op) && B9 E && Es fr m E)=true∧Q .normal s'):VOk P w0 ⟨fr,AJ m⟩ (.region id l.toArray false) Q:=by
 obtain⟨E,s',h1,h2,h3⟩:=h;exact vrp h1 h2 h3
theorem t_d{l:List Oper}{m:List (Nat×Blk)}(hm:P.follows .mixedOrders=true)(h:t_K P l.toArray w0 l ⟨fr,AJ m⟩ fun E s'=>(veB l.toArray l E && Es fr m E)=true∧Q .normal s'):VOk P w0 ⟨fr,AJ m⟩ (.region id l.toArray true) Q:=by
 obtain⟨E,s',h1,h2,h3⟩:=h;exact vrd hm h1 h2 h3
theorem t_s{l:List Oper}{R:List Eff→VS→Prop}(h:Ev P ops w0 o s e)(r:t_K P ops w0 l s1 (fun E s'=>R (e::E) s'))(hs:s.put o.dst e=s1:=by first|(simp only[nm,seval];exact rfl)|exact rfl):t_K P ops w0 (o::l) s R:=t_c h hs r
theorem t_i{l:List Oper}{R:List Eff→VS→Prop}(h:Ev P ops w0 o s e)(hb:B→t_K P ops w0 l s1 (fun E s'=>R (e::E) s'))(hs:s.put o.dst e=s1:=by first|(simp only[nm,seval];exact rfl)|exact rfl):B→t_K P ops w0 (o::l) s R:=fun b=>t_c h hs (hb b)
theorem AV{l:List Oper}{R:List Eff→VS→Prop}(h:Ev P ops w0 o s e)(r:t_K P ops w0 l s1 (fun E s'=>R (e::E) s'))(hs:s.put o.dst e=s1:=by first|(simp only[nm2,seval];exact rfl)|exact rfl):t_K P ops w0 (o::l) s R:=t_c h hs r
theorem Be{l:List Oper}{R:List Eff→VS→Prop}(h:Ev P ops w0 o s e)(hb:B→t_K P ops w0 l s1 (fun E s'=>R (e::E) s'))(hs:s.put o.dst e=s1:=by first|(simp only[nm2,seval];exact rfl)|exact rfl):B→t_K P ops w0 (o::l) s R:=fun b=>t_c h hs (hb b)
theorem t_0(b:B)(c:B→A:=by exact Be (by first|exact BD rfl gg rfl rfl underlying147 rfl sizeOf147 rfl rfl|exact A2 rfl gg rfl underlying147 rfl sizeOf147 (by assumption) rfl) id):A:=c b
theorem t_1(b:B)(c:B→A:=by exact t_i (by refine D6 gg (fun ρ w=>by simp only[VS.act,SV.c,List.map_cons,List.map_nil];go_simp;exact rfl) (fun _ _=>rfl)) id):A:=c b
theorem t_2(b:B)(c:B→A:=by exact Be (by first|exact BK rfl gg rfl rfl underlying145 rfl rfl|exact BR rfl gg rfl underlying145 rfl (by first|assumption|exact hm 0 _ rfl|exact hm 1 _ rfl|exact hm 2 _ rfl|exact hm 3 _ rfl)) id):A:=c b
theorem t_3(b:B)(c:B→A:=by exact t_i (by first|exact BD rfl gg rfl rfl underlying147 rfl sizeOf147 rfl rfl|exact A2 rfl gg rfl underlying147 rfl sizeOf147 (by assumption) rfl) id):A:=c b
theorem t_4(b:B)(c:B→A:=by exact t_i (by first|exact BK rfl gg rfl rfl underlying49 rfl rfl|exact BR rfl gg rfl underlying49 rfl (by first|assumption|exact hm 0 _ rfl|exact hm 1 _ rfl|exact hm 2 _ rfl|exact hm 3 _ rfl)) id):A:=c b
theorem t_6(b:B)(c:B→A:=by exact Be (by first|exact BG rfl gg rfl underlying192 rfl sizeOf145|exact BF rfl gg rfl underlying192 rfl sizeOf145) id):A:=c b
theorem t_7(b:B)(c:B→A:=by exact Be (by first|exact BG rfl gg rfl underlying205 rfl sizeOf147|exact BF rfl gg rfl underlying205 rfl sizeOf147) id):A:=c b
theorem t_8(b:B)(c:B→A:=by exact t_i (by first|exact C7 rfl gg rfl rfl underlying147 sizeOf49 (by decide) (by decide)|exact DK rfl gg rfl rfl underlying147 sizeOf49 (by decide) (by decide)) id):A:=c b
theorem t_9(b:B)(c:B→A:=by exact t_i (by exact BA rfl gg rfl rfl rfl sizeOf147 rfl (by simp) rfl) id):A:=c b
theorem Ho(b:B)(c:B→A:=by exact Be (by exact BA rfl gg rfl rfl rfl sizeOf147 rfl (by simp) rfl) id):A:=c b
theorem EG(b:B)(c:B→A:=by exact t_i (by first|exact C7 rfl gg rfl rfl underlying244 sizeOf49 (by decide) (by decide)|exact DK rfl gg rfl rfl underlying244 sizeOf49 (by decide) (by decide)) id):A:=c b
theorem CV(b:B)(c:B→A:=by exact Be (by exact BZ rfl rfl gg zeroValue147) id):A:=c b
theorem Hn(b:B)(c:B→A:=by exact t_i (by first|exact Ev.skip (fun _=>rfl)|refine D6 (fun _=>rfl) (fun ρ w=>by simp only[VS.act,SV.c,List.map_cons,List.map_nil];go_simp;exact rfl) (fun _ _=>rfl)) id):A:=c b
theorem HF(b:B)(c:B→A:=by exact Be (by first|exact BD rfl gg rfl rfl underlying192 rfl sizeOf192 rfl rfl|exact A2 rfl gg rfl underlying192 rfl sizeOf192 (by assumption) rfl) id):A:=c b
theorem GY(b:B)(c:B→A:=by exact t_i (by exact BZ rfl rfl gg zeroValue147) id):A:=c b
theorem Ec(b:B)(c:B→A:=by exact t_i (by first|exact BG rfl gg rfl underlying199 rfl sizeOf147|exact BF rfl gg rfl underlying199 rfl sizeOf147) id):A:=c b
theorem HE(b:B)(c:B→A:=by exact Be (by first|exact BD rfl gg rfl rfl underlying64 rfl sizeOf64 rfl rfl|exact A2 rfl gg rfl underlying64 rfl sizeOf64 (by assumption) rfl) id):A:=c b
theorem J8(b:B)(c:B→A:=by exact Be (by first|exact Ev.skip (fun _=>rfl)|exact BD rfl (fun _=>rfl) rfl rfl underlying147 rfl sizeOf147 rfl rfl|exact A2 rfl (fun _=>rfl) rfl underlying147 rfl sizeOf147 (by assumption) rfl) id):A:=c b
theorem It(b:B)(c:B→A:=by exact Be (by first|exact BD rfl gg rfl rfl underlying205 rfl sizeOf205 rfl rfl|exact A2 rfl gg rfl underlying205 rfl sizeOf205 (by assumption) rfl) id):A:=c b
theorem Hm(b:B)(c:B→A:=by exact Be (by first|exact BG rfl gg rfl underlying141 rfl sizeOf64|exact BF rfl gg rfl underlying141 rfl sizeOf64) id):A:=c b
theorem GX(b:B)(c:B→A:=by exact t_i (by exact BA rfl gg rfl rfl rfl sizeOf49 rfl (by simp) rfl) id):A:=c b
theorem Lt(b:B)(c:B→A:=by exact Be (by exact BA rfl gg rfl rfl rfl sizeOf205 rfl (by simp) rfl) id):A:=c b
theorem Ls(b:B)(c:B→A:=by exact Be (by first|exact BD rfl gg rfl rfl underlying141 rfl sizeOf141 rfl rfl|exact A2 rfl gg rfl underlying141 rfl sizeOf141 (by assumption) rfl) id):A:=c b
theorem eW(b:B)(c:B→A:=by exact t_i (by first|exact AK rfl gg rfl rfl (fun w=>hmm _ _ _ _ w)|exact AK rfl gg rfl rfl (fun w=>hmm1 _ _ _ w)) id):A:=c b
theorem J7(b:B)(c:B→A:=by exact t_i (by first|exact AK rfl gg rfl rfl (fun w=>hmu _ _ _ w)|exact AK rfl gg rfl rfl (fun w=>hmu1 _ _ w)) id):A:=c b
theorem DV(b:B)(c:B→A:=by exact Be (by exact A6 rfl gg rfl (bh)) id):A:=c b
theorem eV(b:B)(c:B→A:=by exact t_i (by first|exact Ev.skip (fun _=>rfl)|exact Ap rfl (fun _=>rfl)) id):A:=c b
theorem Is(b:B)(c:B→A:=by exact Be (by exact oJ rfl gg rfl rfl underlying192 rfl sizeOf192 rfl) id):A:=c b
theorem eU(b:B)(c:B→A:=by exact t_i (by first|exact Ev.skip (fun _=>rfl)|exact BD rfl (fun _=>rfl) rfl rfl underlying147 rfl sizeOf147 rfl rfl|exact A2 rfl (fun _=>rfl) rfl underlying147 rfl sizeOf147 (by assumption) rfl) id):A:=c b
theorem OT(b:B)(c:B→A:=by exact Be (by exact BZ rfl rfl gg zeroValue205) id):A:=c b
theorem RS(b:B)(c:B→A:=by exact Be (by first|exact Ev.skip (fun _=>rfl)|exact BG rfl (fun _=>rfl) rfl underlying205 rfl sizeOf147|exact BF rfl (fun _=>rfl) rfl underlying205 rfl sizeOf147) id):A:=c b
theorem eT(b:B)(c:B→A:=by exact t_i (by exact AM rfl gg rfl (eo func129) hs) id):A:=c b
theorem VZ(b:B)(c:B→A:=by exact t_i (by first|exact C7 rfl gg rfl rfl underlying64 sizeOf5 (by decide) (by decide)|exact DK rfl gg rfl rfl underlying64 sizeOf5 (by decide) (by decide)) id):A:=c b
theorem OQ(b:B)(c:B→A:=by exact t_i (by first|exact Ev.skip (fun _=>rfl)|exact B4 (p:=false) rfl (fun _=>rfl) rfl rfl h1) id):A:=c b
theorem Lr(b:B)(c:B→A:=by exact t_i (by exact AM rfl gg rfl (eo func88) h2) id):A:=c b
theorem Lq(b:B)(c:B→A:=by exact Be (by exact BA rfl gg rfl rfl rfl sizeOf141 rfl (by simp) rfl) id):A:=c b
theorem J6(b:B)(c:B→A:=by exact Be (by exact AK rfl gg rfl rfl (fun w=>Ig hz _ _ w)) id):A:=c b
theorem VY(b:B)(c:B→A:=by exact t_i (by first|exact BD rfl gg rfl rfl underlying64 rfl sizeOf64 rfl rfl|exact A2 rfl gg rfl underlying64 rfl sizeOf64 (by assumption) rfl) id):A:=c b
theorem VX(b:B)(c:B→A:=by exact Be (by first|exact Ev.skip (fun _=>rfl)|refine D6 (fun _=>rfl) (fun ρ w=>by simp only[VS.act,SV.c,List.map_cons,List.map_nil];go_simp;exact rfl) (fun _ _=>rfl)) id):A:=c b
theorem J5(b:B)(c:B→A:=by exact t_i (by exact AK rfl gg rfl rfl (fun w=>hs2b _ _ _ w)) id):A:=c b
theorem RR(b:B)(c:B→A:=by exact Be (by exact AM rfl gg rfl (eo func106) (fun w' hw'=>Ug _ _ w' (ha.gw hw'))) id):A:=c b
theorem RQ(b:B)(c:B→A:=by exact Be (by exact AM rfl gg rfl (eo func130) (fun w' hw'=>GZ e83 w' (ha.gw hw'))) id):A:=c b
theorem RP(b:B)(c:B→A:=by exact Be (by exact AM rfl gg rfl (eo func130) (fun w' hw'=>GZ e88 w' (ha.gw hw'))) id):A:=c b
theorem RO(b:B)(c:B→A:=by exact Be (by exact AM rfl gg rfl (eo func83) (fun w' hw'=>B3 e37 w' (ha.gw hw'))) id):A:=c b
theorem RL(b:B)(c:B→A:=by exact Be (by exact AM rfl gg rfl (eo func83) (fun w' hw'=>B3 e44 w' (ha.gw hw'))) id):A:=c b
theorem RJ(b:B)(c:B→A:=by exact Be (by exact AM rfl gg rfl (eo func83) (fun w' hw'=>B3 e50 w' (ha.gw hw'))) id):A:=c b
theorem RI(b:B)(c:B→A:=by exact Be (by exact AM rfl gg rfl (eo func83) (fun w' hw'=>B3 e56 w' (ha.gw hw'))) id):A:=c b
theorem RH(b:B)(c:B→A:=by exact Be (by exact AM rfl gg rfl (eo func83) (fun w' hw'=>B3 e66 w' (ha.gw hw'))) id):A:=c b
theorem RG(b:B)(c:B→A:=by exact Be (by exact AM rfl gg rfl (eo func83) (fun w' hw'=>B3 e67 w' (ha.gw hw'))) id):A:=c b
theorem RF(b:B)(c:B→A:=by exact Be (by exact AM rfl gg rfl (eo func83) (fun w' hw'=>B3 e77 w' (ha.gw hw'))) id):A:=c b
theorem RE(b:B)(c:B→A:=by exact Be (by exact AM rfl gg rfl (eo func83) (fun w' hw'=>B3 e78 w' (ha.gw hw'))) id):A:=c b
theorem RD(b:B)(c:B→A:=by exact Be (by exact AM rfl gg rfl (eo func83) (fun w' hw'=>Yf _ _ w' (ha.gw hw'))) id):A:=c b
theorem VW(b:B)(c:B→A:=by exact t_i (by exact Aj [21] rfl gg rfl (eo func160) (fun ρ w' hs'=>hsh _ _ _ hlt hRn w' (ρ 21) (Rs hs' (by simp) rfl 0 _ rfl))) id):A:=c b
theorem OO(b:B)(c:B→A:=by exact Be (by exact A2 rfl gg rfl underlying147 rfl sizeOf147 (hL.pp) rfl) id):A:=c b
theorem ON(b:B)(c:B→A:=by exact t_i (by exact AK rfl gg rfl rfl (fun w=>(hnz _ _ _ w).trans (by rw[hz]))) id):A:=c b
theorem OK(b:B)(c:B→A:=by exact t_i (by exact AM rfl gg rfl (eo func88) h1) id):A:=c b
theorem Q9(b:B)(c:B→A:=by exact Be (by first|exact Ev.skip (fun _=>rfl)|exact A6 rfl (fun _=>rfl) rfl (bh)) id):A:=c b
theorem OI(b:B)(c:B→A:=by exact t_i (by exact BM (p:=false) rfl gg rfl rfl h0) id):A:=c b
theorem eS(b:B)(c:B→A:=by exact Be (by exact BZ rfl rfl gg zeroValue141) id):A:=c b
theorem OD(b:B)(c:B→A:=by exact t_i (by exact AK rfl gg rfl rfl (fun w=>hq _ _ w)) id):A:=c b
theorem OC(b:B)(c:B→A:=by exact t_i (by exact AK rfl gg rfl rfl (fun w=>hr _ _ w)) id):A:=c b
theorem OB(b:B)(c:B→A:=by exact t_i (by exact AK rfl gg rfl rfl (fun w=>hs _ _ w)) id):A:=c b
theorem OA(b:B)(c:B→A:=by exact t_i (by exact AK rfl gg rfl rfl (fun w=>ha _ _ w)) id):A:=c b
theorem t_k{P Q:Prop}(h:Q)(c:Q→P:=by
 intro h'q;first
 |(refine t_s (by first|exact Ap rfl gg|exact CJ rfl gg|exact G3 rfl rfl gg rfl|exact Cy rfl gg rfl rfl|exact C8 rfl gg rfl rfl|exact CY rfl gg rfl rfl|exact Ca rfl gg rfl rfl|exact D7 rfl gg rfl|exact IS rfl gg rfl|exact IR rfl gg rfl) ?_;exact h'q)
 |(refine t_n ⟨by kernel_rfl,?_⟩;(try change VOk _ _ _ _ _);exact h'q)
 |(refine Fl ?_;exact h'q)
 |(refine t_p ?_;exact h'q)
 |(refine t_d (by kernel_rfl) ?_;exact h'q)
 |(refine GO ?_;(try change VOk _ _ _ _ _);exact h'q)
 |(refine Hf ?_;exact h'q)
 |(refine GP rfl ?_;exact h'q)
 |(refine GQ rfl ?_;exact h'q)):P:=c h
theorem BJ{P Q:Prop}(h:Q)(c:Q→P:=by
 intro h'q;first
 |(refine AV (by first|exact Ap rfl gg|exact CJ rfl gg|exact G3 rfl rfl gg rfl|exact Cy rfl gg rfl rfl|exact C8 rfl gg rfl rfl|exact CY rfl gg rfl rfl|exact Ca rfl gg rfl rfl|exact D7 rfl gg rfl|exact IS rfl gg rfl|exact IR rfl gg rfl) ?_;exact h'q)
 |(refine t_n ⟨by kernel_rfl,?_⟩;(try change VOk _ _ _ _ _);exact h'q)
 |(refine Fl ?_;exact h'q)
 |(refine t_p ?_;exact h'q)
 |(refine t_d (by kernel_rfl) ?_;exact h'q)
 |(refine GO ?_;(try change VOk _ _ _ _ _);exact h'q)
 |(refine Hf ?_;exact h'q)
 |(refine GP rfl ?_;exact h'q)
 |(refine GQ rfl ?_;exact h'q)):P:=c h
theorem Dz(b:B)(c:B→A:=by intro b;refine Q2 ?_;simp only[List.map_cons,List.map_nil];exact b):A:=c b
theorem Bv(b:B)(c:B→A:=by intro b;change VOk _ _ _ _ _;(iterate 2 refine t_k ?_);exact b):A:=c b
theorem Dx(b:B)(c:B→A:=by intro b;refine t_k ?_;refine AG ?_;exact b):A:=c b
theorem Ib(b:B)(c:B→A:=by intro b;change VOk _ _ _ _ _;(iterate 4 refine t_k ?_);exact b):A:=c b
theorem DF(b:B)(c:B→A:=by intro b;refine t_1 ?_;(iterate 6 refine t_k ?_);exact b):A:=c b
theorem Cw(b:B)(c:B→A:=by intro b;refine t_1 ?_;(iterate 2 refine t_k ?_);exact b):A:=c b
theorem OJ(b:B)(c:B→A:=by intro b;(iterate 2 refine Ho ?_);(iterate 3 refine t_k ?_);exact b):A:=c b
theorem D9(b:B)(c:B→A:=by intro b;refine t_1 ?_;(iterate 4 refine t_k ?_);exact b):A:=c b
theorem Dr(b:B)(c:B→A:=by intro b;refine Dz ?_;(iterate 3 refine t_k ?_);exact b):A:=c b
theorem FE(b:B)(c:B→A:=by intro b;refine t_1 ?_;(iterate 8 refine t_k ?_);exact b):A:=c b
theorem E2(b:B)(c:B→A:=by intro b;refine Dz ?_;(iterate 4 refine t_k ?_);exact b):A:=c b
theorem Dn(b:B)(c:B→A:=by intro b;refine Dz ?_;(iterate 4 refine BJ ?_);exact b):A:=c b
theorem Dy(b:B)(c:B→A:=by intro b;refine t_9 ?_;refine Dx ?_;exact b):A:=c b
theorem Hl(b:B)(c:B→A:=by intro b;refine GY ?_;refine t_9 ?_;exact b):A:=c b
theorem eL(b:B)(c:B→A:=by intro b;refine Ho ?_;(iterate 3 refine t_k ?_);exact b):A:=c b
theorem HC(b:B)(c:B→A:=by intro b;refine t_1 ?_;(iterate 3 refine t_k ?_);exact b):A:=c b
theorem GV(b:B)(c:B→A:=by intro b;refine Dz ?_;(iterate 9 refine t_k ?_);exact b):A:=c b
theorem Lh(b:B)(c:B→A:=by intro b;refine GY ?_;(iterate 5 refine t_k ?_);exact b):A:=c b
theorem Fw(b:B)(c:B→A:=by intro b;(iterate 2 refine Ho ?_);(iterate 4 refine t_k ?_);exact b):A:=c b
theorem J2(b:B)(c:B→A:=by intro b;refine t_1 ?_;(iterate 5 refine t_k ?_);exact b):A:=c b
theorem Gt(b:B)(c:B→A:=by intro b;refine t_1 ?_;(iterate 7 refine t_k ?_);exact b):A:=c b
theorem FD(b:B)(c:B→A:=by intro b;refine Hl ?_;(iterate 6 refine t_k ?_);exact b):A:=c b
theorem Eu(b:B)(c:B→A:=by intro b;refine t_k ?_;refine eV ?_;exact b):A:=c b
theorem Dm(b:B)(c:B→A:=by intro b;refine OJ ?_;refine t_6 ?_;exact b):A:=c b
theorem D2(b:B)(c:B→A:=by intro b;refine Lt ?_;refine Dx ?_;exact b):A:=c b
theorem GU(b:B)(c:B→A:=by intro b;refine GX ?_;(iterate 3 refine t_k ?_);exact b):A:=c b
theorem Fu(b:B)(c:B→A:=by intro b;refine GY ?_;(iterate 3 refine t_k ?_);exact b):A:=c b
theorem Ft(b:B)(c:B→A:=by intro b;refine eT ?_;(iterate 3 refine t_k ?_);exact b):A:=c b
theorem Lg(b:B)(c:B→A:=by intro b;refine eW ?_;(iterate 3 refine t_k ?_);exact b):A:=c b
theorem Fs(b:B)(c:B→A:=by intro b;refine t_9 ?_;(iterate 2 refine t_k ?_);exact b):A:=c b
theorem En(b:B)(c:B→A:=by intro b;refine CV ?_;refine eL ?_;exact b):A:=c b
theorem GR(b:B)(c:B→A:=by intro b;refine GY ?_;(iterate 4 refine t_k ?_);exact b):A:=c b
theorem Ge(b:B)(c:B→A:=by intro b;refine OT ?_;(iterate 4 refine t_k ?_);exact b):A:=c b
theorem Gd(b:B)(c:B→A:=by intro b;refine OT ?_;(iterate 5 refine t_k ?_);exact b):A:=c b
theorem J3(b:B)(c:B→A:=by intro b;refine eS ?_;(iterate 3 refine t_k ?_);exact b):A:=c b
theorem GW(b:B)(c:B→A:=by intro b;refine Dz ?_;(iterate 5 refine BJ ?_);exact b):A:=c b
theorem Io(b:B)(c:B→A:=by intro b;refine Dz ?_;(iterate 2 refine t_k ?_);exact b):A:=c b
end Go.Proofs.YtafbhakmkbehiaaGreatDoor
