import Derived.WalkKit
import Derived.WalkSpells
import Derived.WalkLawsBesides
import Derived.Deep.RegionHeld3
import Derived.StillTail
import Derived.Laws.CopyRow
import Derived.Test.YtefpajmkaaielaaGreatDoorProg
open Go.Proofs.Tryz
set_option maxHeartbeats 4000000
set_option maxRecDepth 100000
namespace Go.Toll
open Go.RowKit
variable{listed:Array Bool}{fs:Array Field}{ops:Array Oper}{xs:Array Operand}{ats:Array TypeId}{p:Bool}{Q:Exit→Act→World→Prop}{fd:Field}{fn:Func}{f:FuncId}{a b:Int}{k:IntKind}{rd:List Nat}{vs:List Value}{g i id n off sz:Nat}{β γ:Nat→Bool}{ρ:Nat→Nat}{o:Oper}{ix x y:Operand}{P:Program}{d:TypeDesc}{el r t:TypeId}{v:Value}{w w0:World}
structure Gw(w w':World):Prop where
 b:Below w.heap.size w w'
 f: ∀a,w'.frozen? a=w.frozen? a
theorem Gw.refl(w:World):Gw w w:=⟨Below.refl _ _,fun _=>rfl⟩
theorem Gw.trans{a b c:World}(h:Gw a b)(k:Gw b c):Gw a c:=⟨h.b.trans (k.b.mono h.b.size),fun x=>(k.f x).trans (h.f x)⟩
theorem Gw.drew{a w:World}(h:Gw a w):Gw a w.drew:=⟨h.b.drew,h.f⟩
theorem Gw.alloc{a w:World}(h:Gw a w)(c:Array Value)(t:TypeId):Gw a (w.alloc (.cells c t)):=
 ⟨h.b.alloc h.b.size _,fun x=>(frozen?_alloc_cells _ _ _ x).trans (h.f x)⟩
theorem Gw.setCell{a w:World}(h:Gw a w){p:Addr}(hp:a.heap.size≤p.block)(u:Value):Gw a (w.setCell p u):=
 ⟨h.b.setCell hp u,fun x=>(World.frozen?_setCell _ _ _ _).trans (h.f x)⟩
theorem Gw.cell{w w':World}(h:Gw w w'){a:Addr}{v:Value}(hc:w.cell? a=some v):w'.cell? a=some v:=
 (h.b.cell (World.block_lt_of_cell? _ _ hc)).trans hc
inductive SV where
 |v (x:Value)
 |p (id off:Nat)
 |s (id off len cap:Nat)
 |tp (id off:Nat) (y:Value)
 |ap (id off:Nat)
deriving Inhabited
def SV.c(ρ:Nat→Nat):SV→Value
 | .v x=>x
 | .p id off=> .pointer (some ⟨ρ id,off,none⟩)
 | .s id off len cap=> .slice (some ⟨ρ id,off,none⟩) len cap
 | .tp id off y=> .tuple #[.pointer (some ⟨ρ id,off,none⟩),y]
 | .ap id off=> .agg #[.pointer (some ⟨ρ id,off,none⟩)]
def SV.has(id:Nat):SV→Bool
 | .v _=>false
 | .p k _=>k==id
 | .s k _ _ _=>k==id
 | .tp k _ _=>k==id
 | .ap k _=>k==id
abbrev Blk:=List SV×TypeId
structure VS where
 fr:List SV
 mem:Nat→Option Blk
def VS.act(s:VS)(ρ:Nat→Nat):Act:=⟨(s.fr.map (SV.c ρ)).toArray,[]⟩
def cellsOf(ρ:Nat→Nat)(b:Blk):Obj:= .cells (b.1.map (SV.c ρ)).toArray b.2 (0,0)
structure Rel(w0:World)(ρ:Nat→Nat)(s:VS)(w:World):Prop where
 gw:Gw w0 w
 own: ∀id b,s.mem id=some b→w0.heap.size≤ρ id∧w.heap[ρ id]? =some (cellsOf ρ b)
 inj: ∀i j,(s.mem i).isSome→(s.mem j).isSome→ρ i=ρ j→i=j
inductive MW where
 |none
 |new (id:Nat) (b:Blk)
 |wr (id:Nat) (b:Blk)
def MW.tgt:MW→Option Nat
 | .none=>Option.none
 | .new id _=>some id
 | .wr id _=>some id
def Aw(m:Nat→Option Blk):MW→(Nat→Option Blk)
 | .none=>m
 | .new id b=>fun k=>if k=id then some b else m k
 | .wr id b=>fun k=>if k=id then some b else m k
structure Eff where
 val:SV
 mw:MW
 rd:List Nat
def BW(l:List SV)(d:Option Nat)(x:SV):List SV:=match d with|some d=>l.set d x|none=>l
def VS.put(s:VS)(d:Option Nat)(e:Eff):VS:=⟨BW s.fr d e.val,Aw s.mem e.mw⟩
def MW.has(id:Nat):MW→Bool
 | .none=>false
 | .new _ b=>b.1.any (SV.has id)
 | .wr _ b=>b.1.any (SV.has id)
def Eff.has(id:Nat)(e:Eff):Bool:=e.val.has id||e.mw.has id
def MW.newId:MW→Option Nat
 | .new id _=>some id
 |_=>Option.none
theorem Hh{l:List SV}{d:Option Nat}{x:SV}{k:Nat}(h:d≠some k):(BW l d x)[k]? =l[k]? :=by
 cases d with
 |none=>rfl
 |some d=>simp only[BW];rw[List.getElem?_set_ne (by intro e;exact h (by rw[e]))]
theorem Qf(l:List SV)(d:Option Nat)(x:SV):(BW l d x).length=l.length:=by cases d<;>simp[BW]
theorem Qg(l:List SV){d e:Option Nat}(x y:SV)(h: ∀k,d=some k→e≠some k):BW (BW l d x) e y=BW (BW l e y) d x:=by
 cases d with
 |none=>rfl
 |some d=>
  cases e with
  |none=>rfl
  |some e=>simp only[BW];rw[List.set_comm];intro he;exact h d rfl (by rw[he])
theorem C8{m:Nat→Option Blk}{u:MW}{k:Nat}(h:u.tgt≠some k):Aw m u k=m k:=by
 cases u with
 |none=>rfl
 |new id b=>simp only[Aw];rw[if_neg];rintro rfl;exact h rfl
 |wr id b=>simp only[Aw];rw[if_neg];rintro rfl;exact h rfl
theorem Po(m:Nat→Option Blk){u v:MW}(h: ∀k,u.tgt=some k→v.tgt≠some k):Aw (Aw m u) v=Aw (Aw m v) u:=by
 funext k
 by_cases hu:u.tgt=some k
 ·rw[C8 (h k hu)]
  cases u with
  |none=>cases hu
  |new id b=>have:k=id:=by simpa[MW.tgt] using hu.symm
             simp[Aw,this]
  |wr id b=>have:k=id:=by simpa[MW.tgt] using hu.symm
            simp[Aw,this]
 ·rw[C8 (m:=Aw m v) hu]
  by_cases hv:v.tgt=some k
  ·cases v with
   |none=>cases hv
   |new id b=>have:k=id:=by simpa[MW.tgt] using hv.symm
              simp[Aw,this]
   |wr id b=>have:k=id:=by simpa[MW.tgt] using hv.symm
             simp[Aw,this]
  ·rw[C8 hv,C8 hu,C8 hv]
theorem F2(s:VS)(ρ:Nat→Nat)(d:Option Nat)(e:Eff):(s.put d e).act ρ=(s.act ρ).put d (e.val.c ρ):=by
 cases d with
 |none=>rfl
 |some d=>simp[VS.put,VS.act,Act.put,BW,List.map_set]
section
variable(D:Nat→Option Nat)(F:Nat→Eff)(s0:VS)
def st(β:Nat→Bool):Nat→VS
 |0=>s0
 |k+1=>if β k then(st β k).put (D k) (F k)else st β k
def upd(β:Nat→Bool)(i:Nat):Nat→Bool:=fun j=>if j=i then true else β j
def cnt(β:Nat→Bool):Nat→Nat
 |0=>0
 |k+1=>cnt β k+if β k then 1 else 0
theorem HE: ∀k,(∀j,j<k→β j=γ j)→st D F s0 β k=st D F s0 γ k:=by
 intro k
 induction k with
 |zero=>intro _;rfl
 |succ k ih=>intro h;simp only[st,h k (by omega),ih fun j hj=>h j (by omega)]
theorem Ov(β:Nat→Bool): ∀k,(st D F s0 β k).fr.length=s0.fr.length:=by
 intro k
 induction k with
 |zero=>rfl
 |succ k ih=>simp only[st];split<;>simp[VS.put,Qf,ih]
theorem Ox(x:Nat): ∀k,(∀j,j<k→β j≠γ j→D j≠some x)→(st D F s0 β k).fr[x]? =(st D F s0 γ k).fr[x]? :=by
 intro k
 induction k with
 |zero=>intro _;rfl
 |succ k ih=>
  intro h;have ih':=ih fun j hj=>h j (by omega)
  by_cases e:β k=γ k
  ·simp only[st,e]
   split
   ·simp only[VS.put]
    by_cases hd:D k=some x
    ·simp[hd,BW,List.getElem?_set,Ov]
    ·rw[Hh hd,Hh hd,ih']
   ·exact ih'
  ·have hd:=h k (by omega) e
   have key: ∀(t:VS),(t.put (D k) (F k)).fr[x]? =t.fr[x]? :=fun t=>Hh hd
   simp only[st];split<;>split<;>simp only[key,ih']
theorem Ou(x:Nat): ∀k,(∀j,j<k→β j≠γ j→(F j).mw.tgt≠some x)→(st D F s0 β k).mem x=(st D F s0 γ k).mem x:=by
 intro k
 induction k with
 |zero=>intro _;rfl
 |succ k ih=>
  intro h;have ih':=ih fun j hj=>h j (by omega)
  by_cases e:β k=γ k
  ·simp only[st,e]
   split
   ·simp only[VS.put]
    cases hm:(F k).mw with
    |none=>simpa[Aw] using ih'
    |new id b=>simp only[Aw];split<;>simp[ih']
    |wr id b=>simp only[Aw];split<;>simp[ih']
   ·exact ih'
  ·have hd:=h k (by omega) e
   have key: ∀(t:VS),(t.put (D k) (F k)).mem x=t.mem x:=fun t=>C8 hd
   simp only[st];split<;>split<;>simp only[key,ih']
theorem Ot(hi:β i=false): ∀k,i<k→(∀j,i<j→j<k→β j=true→(∀x,D i=some x→D j≠some x)∧(∀x,(F i).mw.tgt=some x→(F j).mw.tgt≠some x))→
 st D F s0 (upd β i) k=(st D F s0 β k).put (D i) (F i):=by
 intro k
 induction k with
 |zero=>intro h;omega
 |succ k ih=>
  intro hik h;by_cases e:k=i
  ·subst e
   have h1:st D F s0 (upd β k) k=st D F s0 β k:=HE D F s0 k fun j hj=>by simp only[upd];rw[if_neg (by omega)]
   simp only[st,hi,upd,if_true,h1];rfl
  ·have ih':=ih (by omega) fun j h1 h2=>h j h1 (by omega)
   have hu:upd β i k=β k:=by simp only[upd];rw[if_neg e]
   simp only[st,hu,ih'];by_cases hk:β k=true
   ·simp only[hk,if_true]
    obtain⟨h1,h2⟩:=h k (by omega) (by omega) hk;simp only[VS.put];rw[Qg _ _ _ h1,Po _ h2]
   ·simp only[hk];rfl
theorem LJ(β:Nat→Bool): ∀k,cnt β k≤k
 |0=>Nat.le_refl _
 |k+1=>by have:=LJ β k;simp only[cnt];split<;>omega
theorem LL{β:Nat→Bool}: ∀k,cnt β k=k→ ∀j,j<k→β j=true
 |0,_,j,hj=>by omega
 |k+1,h,j,hj=>by
  have:=LJ β k;simp only[cnt]at h;by_cases hk:β k=true
  ·rw[hk]at h
   by_cases e:j=k
   ·rw[e];exact hk
   ·exact LL k (by simpa using h) j (by omega)
  ·simp only[hk]at h;simp at h;omega
theorem LI{β:Nat→Bool}{i:Nat}(hi:β i=false): ∀k,cnt (upd β i) k=cnt β k+if i<k then 1 else 0
 |0=>by simp[cnt]
 |k+1=>by
  have ih:=LI hi k;simp only[cnt,ih];by_cases e:k=i
  ·subst e;simp[upd,hi]
  ·have hu:upd β i k=β k:=by simp only[upd];rw[if_neg e]
   rw[hu];have h:(if i<k+1 then 1 else 0)=(if i<k then 1 else 0):=by split<;>split<;>omega
   rw[h];omega
theorem LK: ∀k,cnt (fun _=>false) k=0
 |0=>rfl
 |k+1=>by simp[cnt,LK k]
def Bn(id:Nat)(s:VS):Prop:=s.mem id=none∧(∀x∈s.fr,x.has id=false)∧ ∀k b,s.mem k=some b→b.1.any (SV.has id)=false
theorem Kw{s:VS}{d:Option Nat}{e:Eff}(h:Bn id s)(h1:e.has id=false)(h2:e.mw.tgt≠some id):Bn id (s.put d e):=by
 obtain⟨a,b,c⟩:=h;simp only[Eff.has,Bool.or_eq_false_iff]at h1;refine⟨by simp only[VS.put];rw[C8 h2];exact a,?_,?_⟩
 ·intro x hx
  simp only[VS.put]at hx;cases d with
  |none=>exact b x hx
  |some d=>
   rcases List.mem_or_eq_of_mem_set hx with h|h
   ·exact b x h
   ·rw[h];exact h1.1
 ·intro k bl hk
  simp only[VS.put]at hk;cases hm:e.mw with
  |none=>rw[hm]at hk;exact c k bl hk
  |new id' b'=>
   rw[hm]at hk h1;simp only[Aw]at hk;split at hk
   ·injection hk with hk;subst hk;simpa[MW.has] using h1.2
   ·exact c k bl hk
  |wr id' b'=>
   rw[hm]at hk h1;simp only[Aw]at hk;split at hk
   ·injection hk with hk;subst hk;simpa[MW.has] using h1.2
   ·exact c k bl hk
theorem Ow(h0:Bn id s0): ∀k,(∀j,j<k→β j=true→(F j).has id=false∧(F j).mw.tgt≠some id)→Bn id (st D F s0 β k):=by
 intro k
 induction k with
 |zero=>intro _;exact h0
 |succ k ih=>
  intro h;simp only[st];split
  ·rename_i hk
   obtain⟨h1,h2⟩:=h k (by omega) hk;exact Kw (ih fun j hj=>h j (by omega)) h1 h2
  ·exact ih fun j hj=>h j (by omega)
end
structure Wr(w w':World)(g:Nat):Prop where
 os:w'.os=w.os
 tape:w'.tape=w.tape
 output:w'.output=w.output
 size:w'.heap.size=w.heap.size
 block: ∀k,k≠g→w'.heap[k]? =w.heap[k]?
 froz: ∀a,w'.frozen? a=w.frozen? a
def Ex(w0:World)(t:VS)(rd:List Nat)(ρ:Nat→Nat)(w:World):Prop:=
 Gw w0 w∧ ∀id b,id∈rd→t.mem id=some b→w0.heap.size≤ρ id∧w.heap[ρ id]? =some (cellsOf ρ b)
inductive Ev(P:Program)(ops:Array Oper)(w0:World)(o:Oper)(t:VS):Eff→Prop
 |run (val:SV) (rd:List Nat) (hw: ∀ρ,Region.wanted o (yielded ops (t.act ρ).tmps)=true)
  (h: ∀ρ w,Ex w0 t rd ρ w→(execOp (t.act ρ).eval o).run P w= .ok (.value (val.c ρ)) w):Ev P ops w0 o t ⟨val,.none,rd⟩
 |skip (hw: ∀ρ,Region.wanted o (yielded ops (t.act ρ).tmps)=false):Ev P ops w0 o t ⟨.v undef,.none,[]⟩
 |new (id:Nat) (b:Blk) (hw: ∀ρ,Region.wanted o (yielded ops (t.act ρ).tmps)=true) (hid:b.1.any (SV.has id)=false)
  (h: ∀ρ w,Ex w0 t [] ρ w→(execOp (t.act ρ).eval o).run P w= .ok (.value (.pointer (some ⟨w.heap.size,0,none⟩))) (w.alloc (cellsOf ρ b))):Ev P ops w0 o t ⟨.p id 0,.new id b,[]⟩
 |wr (id:Nat) (b:Blk) (hw: ∀ρ,Region.wanted o (yielded ops (t.act ρ).tmps)=true) (hm:(t.mem id).isSome)
  (h: ∀ρ w,Ex w0 t [id] ρ w→ ∃w',(execOp (t.act ρ).eval o).run P w= .ok .skip w'∧Wr w w' (ρ id)∧w'.heap[ρ id]? =some (cellsOf ρ b)):Ev P ops w0 o t ⟨.v undef,.wr id b,[id]⟩
 |call (f:FuncId) (args:(Nat→Nat)→Array Value) (val:SV) (rd:List Nat) (hw: ∀ρ,Region.wanted o (yielded ops (t.act ρ).tmps)=true)
  (h: ∀ρ w,Ex w0 t [] ρ w→(execOp (t.act ρ).eval o).run P w= .ok (.enter f (args ρ)) w)
  (hc: ∀ρ w,Ex w0 t rd ρ w→Calls P f (args ρ) w fun e w'=>e= .returned (val.c ρ)∧Gw w w'):Ev P ops w0 o t ⟨val,.none,rd⟩
 |callnew (f:FuncId) (args:(Nat→Nat)→Array Value) (val:SV) (rd:List Nat) (id:Nat) (b:Blk) (hw: ∀ρ,Region.wanted o (yielded ops (t.act ρ).tmps)=true) (hid:b.1.any (SV.has id)=false)
  (h: ∀ρ w,Ex w0 t [] ρ w→(execOp (t.act ρ).eval o).run P w= .ok (.enter f (args ρ)) w)
  (hc: ∀ρ w,Ex w0 t rd ρ w→Calls P f (args ρ) w fun e w'=> ∃g,w.heap.size≤g∧e= .returned (val.c fun k=>if k=id then g else ρ k)∧w'.heap[g]? =some (cellsOf ρ b)∧Gw w w'):Ev P ops w0 o t ⟨val,.new id b,rd⟩
theorem Ew(s:VS)(ρ:Nat→Nat)(x:Nat):(s.act ρ).tmps[x]? =(s.fr[x]?).map (SV.c ρ):=by simp[VS.act]
theorem Qi{s t:VS}(h: ∀k,x= .tmp k→s.fr[k]? =t.fr[k]?):(s.act ρ).eval x=(t.act ρ).eval x:=by
 cases x with
 |tmp k=>
  have h1:(s.act ρ).tmps[k]? =(t.act ρ).tmps[k]? :=by rw[Ew,Ew,h k rfl]
  simp only[Act.eval,Array.getD_eq_getD_getElem?,h1]
 |_=>rfl
theorem JQ{r:Nat}{x:SV}(h:x.has id=false):x.c (fun k=>if k=id then r else ρ k)=x.c ρ:=by
 cases x with
 |v x=>rfl
 |p k o=>simp only[SV.c];rw[if_neg];rintro rfl;simp[SV.has]at h
 |s k o l m=>simp only[SV.c];rw[if_neg];rintro rfl;simp[SV.has]at h
 |tp k o y=>simp only[SV.c];rw[if_neg];rintro rfl;simp[SV.has]at h
 |ap k o=>simp only[SV.c];rw[if_neg];rintro rfl;simp[SV.has]at h
theorem N8{r:Nat}{s:VS}(h:Bn id s):s.act (fun k=>if k=id then r else ρ k)=s.act ρ:=by
 simp only[VS.act];rw[List.map_congr_left fun x hx=>JQ (h.2.1 x hx)]
theorem Ni{r:Nat}{b:Blk}(h:b.1.any (SV.has id)=false):cellsOf (fun k=>if k=id then r else ρ k) b=cellsOf ρ b:=by
 simp only[cellsOf];rw[List.map_congr_left fun x hx=>JQ (by have:=List.any_eq_false.1 h x hx;simpa using this)]
theorem Ev.step{e:Eff}{s t:VS}(hev:Ev P ops w0 o t e)
 (hsel: ∀cs b,o.op≠ .select cs b)(hl: ∀x∈o.looksAt ops,s.fr[x]? =t.fr[x]?)(hm: ∀id∈e.rd,s.mem id=t.mem id)
 (hfresh: ∀id,e.mw.newId=some id→Bn id s)(hr:Rel w0 ρ s w){K:Act→World→Prop}
 (hK: ∀ρ' w',Rel w0 ρ' (s.put o.dst e) w'→K ((s.put o.dst e).act ρ') w'):
 if Region.wanted o (yielded ops (s.act ρ).tmps)then o.wp P (s.act ρ) w K Q∨(o.asks P (s.act ρ) w∧LetsOut Q)else K ((s.act ρ).put o.dst undef) w:=by
 have hex:execOp (s.act ρ).eval o=execOp (t.act ρ).eval o:=execOp_congr o hsel fun x hx=>Qi fun k hk=>hl k (by
  subst hk;exact List.mem_append_left _ (List.mem_filterMap.2 ⟨.tmp k,by simpa using hx,rfl⟩))
 have hwant:Region.wanted o (yielded ops (s.act ρ).tmps)=Region.wanted o (yielded ops (t.act ρ).tmps):=by
  unfold Region.wanted;cases hg:o.guard with
  |none=>rfl
  |some gw=>
   obtain⟨g,want⟩:=gw
   have hy:yielded ops (s.act ρ).tmps g=yielded ops (t.act ρ).tmps g:=by
    unfold yielded;cases ht:(ops[g]?).bind (·.dst)with
    |none=>rfl
    |some d=>
     have h1:(s.act ρ).tmps[d]? =(t.act ρ).tmps[d]? :=by rw[Ew,Ew,hl d (by simp[Oper.looksAt,hg,ht])]
     simp only[Option.bind_some,h1]
   simp only[hy]
 have hsees:Ex w0 t e.rd ρ w:=⟨hr.gw,fun id b hid hb=>hr.own id b (by rw[hm id hid];exact hb)⟩
 cases hev with
 |run val rd hw h=>
  rw[if_pos (by rw[hwant];exact hw ρ)];refine .inl ?_;unfold Oper.wp;rw[hex,h ρ w hsees];simp only[Oper.upon];have:=hK ρ w ⟨hr.gw,hr.own,hr.inj⟩
  rwa [F2]at this
 |skip hw=>
  rw[if_neg (by rw[hwant,hw ρ];simp)];have:=hK ρ w ⟨hr.gw,hr.own,hr.inj⟩
  rwa [F2]at this
 |new id b hw hid h=>
  rw[if_pos (by rw[hwant];exact hw ρ)];refine .inl ?_;unfold Oper.wp;rw[hex,h ρ w ⟨hsees.1,fun _ _ hx=>by cases hx⟩];simp only[Oper.upon];have hf:=hfresh id rfl
  have hlt: ∀k bl,s.mem k=some bl→ρ k<w.heap.size:=by
   intro k bl hk;have:=(hr.own k bl hk).2;apply Classical.byContradiction;intro hc;rw[Array.getElem?_eq_none (by omega)]at this;cases this
  have:=hK (fun k=>if k=id then w.heap.size else ρ k) (w.alloc (cellsOf ρ b)) ⟨hr.gw.alloc _ _,?_,?_⟩
  ·rw[F2,N8 hf]at this
   simpa[SV.c] using this
  ·intro k bl hk
   simp only[VS.put,Aw]at hk;by_cases e:k=id
   ·subst e
    simp only[if_true]at hk⊢;injection hk with hk;subst hk
    refine⟨hr.gw.b.size,?_⟩;rw[Ni hid];exact heap_alloc_new _ _
   ·simp only[if_neg e]at hk⊢
    obtain⟨h1,h2⟩:=hr.own k bl hk;refine⟨h1,?_⟩;rw[Ni (hf.2.2 k bl hk),Below.heap_alloc _ _ _ (hlt k bl hk)];exact h2
  ·intro k l hk hl'
   simp only[VS.put,Aw]at hk hl';by_cases e:k=id<;>by_cases e':l=id
   ·intro _;rw[e,e']
   ·intro hh
    simp only[if_pos e,if_neg e']at hh hl';obtain⟨bl,hbl⟩:=Option.isSome_iff_exists.1 hl';have:=hlt l bl hbl;omega
   ·intro hh
    simp only[if_neg e,if_pos e']at hh hk;obtain⟨bl,hbl⟩:=Option.isSome_iff_exists.1 hk;have:=hlt k bl hbl;omega
   ·intro hh
    simp only[if_neg e,if_neg e']at hh hk hl';exact hr.inj k l hk hl' hh
 |wr id b hw hmm h=>
  rw[if_pos (by rw[hwant];exact hw ρ)];refine .inl ?_;obtain⟨w',hrun,hwr,hblk⟩:=h ρ w hsees;unfold Oper.wp;rw[hex,hrun];simp only[Oper.upon];have hsm:(s.mem id).isSome:=by rw[hm id (by simp)];exact hmm
  obtain⟨b0,hb0⟩:=Option.isSome_iff_exists.1 hsm;have hid0:=(hr.own id b0 hb0).1;have:=hK ρ w' ⟨⟨?_,?_⟩,?_,?_⟩
  ·rw[F2]at this
   simpa[SV.c] using this
  ·refine⟨hwr.os.trans hr.gw.b.os,hwr.tape.trans hr.gw.b.tape,hwr.output.trans hr.gw.b.output,by rw[hwr.size];exact hr.gw.b.size,fun k hk=> ?_⟩
   rw[hwr.block k (by omega)];exact hr.gw.b.block k hk
  ·exact fun a=>(hwr.froz a).trans (hr.gw.f a)
  ·intro k bl hk
   simp only[VS.put,Aw]at hk;by_cases e:k=id
   ·subst e
    simp only[if_true]at hk;injection hk with hk;subst hk
    exact⟨hid0,hblk⟩
   ·simp only[if_neg e]at hk
    obtain⟨h1,h2⟩:=hr.own k bl hk;refine⟨h1,?_⟩;rw[hwr.block _ (fun hh=>e (hr.inj k id (by simp[hk]) hsm hh))];exact h2
  ·intro k l hk hl'
   refine hr.inj k l ?_ ?_
   ·simp only[VS.put,Aw]at hk;split at hk
    ·rename_i e;rw[e];exact hsm
    ·exact hk
   ·simp only[VS.put,Aw]at hl';split at hl'
    ·rename_i e;rw[e];exact hsm
    ·exact hl'
 |call f args val rd hw h hc=>
  rw[if_pos (by rw[hwant];exact hw ρ)];refine .inl ?_;unfold Oper.wp;rw[hex,h ρ w ⟨hsees.1,fun _ _ hx=>by cases hx⟩];simp only[Oper.upon];refine(hc ρ w hsees).mono ?_;rintro e w' ⟨rfl,hg⟩;have:=hK ρ w' ⟨hr.gw.trans hg,?_,hr.inj⟩
  ·rw[F2]at this;exact this
  ·intro k bl hk
   obtain⟨h1,h2⟩:=hr.own k bl hk;refine⟨h1,?_⟩
   have hlt:ρ k<w.heap.size:=by
    apply Classical.byContradiction;intro hcn;rw[Array.getElem?_eq_none (by omega)]at h2;cases h2
   rw[hg.b.block _ hlt];exact h2
 |callnew f args val rd id b hw hid h hc=>
  rw[if_pos (by rw[hwant];exact hw ρ)];refine .inl ?_;unfold Oper.wp;rw[hex,h ρ w ⟨hsees.1,fun _ _ hx=>by cases hx⟩];simp only[Oper.upon];refine(hc ρ w hsees).mono ?_;rintro e w' ⟨g,hg0,rfl,hblk,hg⟩;have hf:=hfresh id rfl
  have hlt: ∀k bl,s.mem k=some bl→ρ k<w.heap.size:=by
   intro k bl hk;have:=(hr.own k bl hk).2;apply Classical.byContradiction;intro hc;rw[Array.getElem?_eq_none (by omega)]at this;cases this
  have:=hK (fun k=>if k=id then g else ρ k) w' ⟨hr.gw.trans hg,?_,?_⟩
  ·rw[F2,N8 hf]at this
   exact this
  ·intro k bl hk
   simp only[VS.put,Aw]at hk;by_cases e:k=id
   ·subst e
    simp only[if_true]at hk⊢;injection hk with hk;subst hk
    refine⟨Nat.le_trans hr.gw.b.size hg0,?_⟩;rw[Ni hid];exact hblk
   ·simp only[if_neg e]at hk⊢
    obtain⟨h1,h2⟩:=hr.own k bl hk;refine⟨h1,?_⟩;rw[Ni (hf.2.2 k bl hk),hg.b.block _ (hlt k bl hk)];exact h2
  ·intro k l hk hl'
   simp only[VS.put,Aw]at hk hl';by_cases e:k=id<;>by_cases e':l=id
   ·intro _;rw[e,e']
   ·intro hh
    simp only[if_pos e,if_neg e']at hh hl';obtain⟨bl,hbl⟩:=Option.isSome_iff_exists.1 hl';have:=hlt l bl hbl;omega
   ·intro hh
    simp only[if_neg e,if_pos e']at hh hk;obtain⟨bl,hbl⟩:=Option.isSome_iff_exists.1 hk;have:=hlt k bl hbl;omega
   ·intro hh
    simp only[if_neg e,if_neg e']at hh hk hl';exact hr.inj k l hk hl' hh
theorem Ev.sound(ho:ops[i]? =some o){e:Eff}{s t:VS}(hev:Ev P ops w0 o t e)
 (hsel: ∀cs b,o.op≠ .select cs b)(hl: ∀x∈o.looksAt ops,s.fr[x]? =t.fr[x]?)(hm: ∀id∈e.rd,s.mem id=t.mem id)
 (hfresh: ∀id,e.mw.newId=some id→Bn id s)(hr:Rel w0 ρ s w){K:Act→World→Prop}
 (hK: ∀ρ' w',Rel w0 ρ' (s.put o.dst e) w'→K ((s.put o.dst e).act ρ') w'):wpOp P ops Q i K (s.act ρ) w:=by
 unfold wpOp;simp only[ho];exact hev.step hsel hl hm hfresh hr hK
def Hu(o:Oper)(i:Nat):Bool:=o.after.any fun e=>Region.binds .any e && e.on==i
def Dt(a b:Option Nat):Bool:=match a,b with|some x,some y=>x !=y|_,_=>true
def Fj(ops:Array Oper)(x:Oper)(e:Eff)(y:Oper)(f:Eff):Bool:=
 (match x.dst with|some d=> !(y.looksAt ops).contains d|none=>true) && (match y.dst with|some d=> !(x.looksAt ops).contains d|none=>true) && Dt x.dst y.dst &&
 Dt e.mw.tgt f.mw.tgt && (match e.mw.tgt with|some k=> !f.rd.contains k|none=>true) && (match f.mw.tgt with|some k=> !e.rd.contains k|none=>true) &&
 (match e.mw.newId with|some k=> !f.has k|none=>true)
def Dg:Op→Bool
 | .select _ _=>true
 |_=>false
def veB(ops:Array Oper)(l:List Oper)(E:List Eff):Bool:=
 (List.range l.length).all fun j=>
  match l[j]?,E[j]? with
  |some y,some f=>
   !Dg y.op && y.after.all (fun e=> !Region.binds .any e||decide (e.on<j)) &&
   (List.range j).all fun i=>
    match l[i]?,E[i]? with
    |some x,some e=>(Hu y i||Fj ops x e y f) && (match f.mw.newId with|some k=> !e.has k && Dt (some k) e.mw.tgt|none=>true) &&
     (match e.mw.newId with|some k=>Dt (some k) f.mw.newId|none=>true)
    |_,_=>false
  |_,_=>false
inductive VE(P:Program)(ops:Array Oper)(w0:World):List Oper→List Eff→VS→VS→Prop
 |nil (s:VS):VE P ops w0 [] [] s s
 |cons {o:Oper} {l:List Oper} {e:Eff} {E:List Eff} {s s':VS} (h:Ev P ops w0 o s e) (r:VE P ops w0 l E (s.put o.dst e) s'):VE P ops w0 (o::l) (e::E) s s'
section
variable{P:Program}{ops:Array Oper}{w0:World}
def De(l:List Oper)(k:Nat):Option Nat:=(l[k]?).bind (·.dst)
def Fe(E:List Eff)(k:Nat):Eff:=(E[k]?).getD ⟨.v undef,.none,[]⟩
theorem Jt(D:Nat→Option Nat)(F:Nat→Eff)(s:VS): ∀k,st D F s (fun _=>true) (k+1)=st (fun j=>D (j+1)) (fun j=>F (j+1)) (s.put (D 0) (F 0)) (fun _=>true) k:=by
 intro k
 induction k with
 |zero=>rfl
 |succ k ih=>simp only[st,if_true]at ih ⊢; rw[ih]
theorem VE.length{l:List Oper}{E:List Eff}{s s':VS}(h:VE P ops w0 l E s s'):E.length=l.length:=by
 induction h with
 |nil=>rfl
 |cons _ _ ih=>simp[ih]
theorem VE.at{l:List Oper}{E:List Eff}{s s':VS}(h:VE P ops w0 l E s s'):
 (∀i o,l[i]? =some o→Ev P ops w0 o (st (De l) (Fe E) s (fun _=>true) i) (Fe E i))∧s'=st (De l) (Fe E) s (fun _=>true) l.length:=by
 induction h with
 |nil s=>exact⟨fun i o h=>(by simp at h),rfl⟩
 | @cons o l e E s s' h r ih=>
   obtain⟨ih1,ih2⟩:=ih;refine⟨fun i o' hi=> ?_,?_⟩
   ·cases i with
    |zero=>simp at hi;subst hi;exact h
    |succ i=>rw[Jt];exact ih1 i o' (by simpa using hi)
   ·rw[List.length_cons,Jt];exact ih2
theorem O3(hi:i<listed.size):(fun j=>(listed.setIfInBounds i true).getD j false)=upd (fun j=>listed.getD j false) i:=by
 funext j
 simp only[upd,Array.getD_eq_getD_getElem?,Array.getElem?_setIfInBounds];by_cases h:i=j
 ·subst h;simp[hi]
 ·simp[h,Ne.symm h]
theorem OS{l:List Oper}{E:List Eff}{s s':VS}(hops:ops=l.toArray)(h:VE P ops w0 l E s s')(hB:veB ops l E=true)
 (hfr: ∀e∈E,∀id,e.mw.newId=some id→Bn id s)
 (hQ: ∀ρ w,Rel w0 ρ s' w→Q .normal (s'.act ρ) w):
 ∀(fuel:Nat) (listed:Array Bool) (ρ:Nat→Nat) (w:World),listed.size=l.length→
  (∀j o,l[j]? =some o→listed.getD j false=true→ ∀e∈o.after,Region.binds .any e=true→listed.getD e.on false=true)→
  cnt (fun j=>listed.getD j false) l.length+fuel=l.length→
  Rel w0 ρ (st (De l) (Fe E) s (fun j=>listed.getD j false) l.length) w→
  wpAny P .any ops Q fuel listed ((st (De l) (Fe E) s (fun j=>listed.getD j false) l.length).act ρ) w:=by
 obtain⟨hat,hs'⟩:=h.at;have hlen:=h.length;have hsz:ops.size=l.length:=by rw[hops];simp
 have hget: ∀i:Nat,ops[i]? =l[i]? :=by intro i;rw[hops];simp
 have hpair: ∀j y f,l[j]? =some y→E[j]? =some f→(Dg y.op=false)∧(∀e∈y.after,Region.binds .any e=true→e.on<j)∧
  ∀i x e,i<j→l[i]? =some x→E[i]? =some e→(Hu y i||Fj ops x e y f)=true∧(∀k,f.mw.newId=some k→e.has k=false∧e.mw.tgt≠some k)∧(∀k,e.mw.newId=some k→f.mw.newId≠some k):=by
  intro j y f hy hf;have hj:j<l.length:=(List.getElem?_eq_some_iff.1 hy).1;have h1:=List.all_eq_true.1 hB j (List.mem_range.2 hj);simp only[hy,hf,Bool.and_eq_true,Bool.not_eq_true']at h1;obtain⟨⟨a1,a2⟩,a3⟩:=h1;refine⟨a1,?_,?_⟩
  ·intro e he hb
   have:=Array.all_eq_true'.1 a2 e he;simpa[hb] using this
  ·intro i x e hi hx he
   have h2:=List.all_eq_true.1 a3 i (List.mem_range.2 hi);simp only[hx,he,Bool.and_eq_true]at h2;obtain⟨⟨b1,b2⟩,b3⟩:=h2;refine⟨b1,?_,?_⟩
   ·intro k hk
    simp only[hk,Bool.and_eq_true,Bool.not_eq_true']at b2;refine⟨b2.1,?_⟩;intro ht;have:=b2.2;simp[Dt,ht]at this
   ·intro k hk hk'
    simp only[hk,hk',Dt]at b3;simp at b3
 have hE: ∀i o,l[i]? =some o→ ∃e,E[i]? =some e∧Fe E i=e∧De l i=o.dst:=by
  intro i o hi;have hj:i<E.length:=by rw[hlen];exact(List.getElem?_eq_some_iff.1 hi).1
  exact⟨E[i],by simp[hj],by simp[Fe,hj],by simp[De,hi]⟩
 intro fuel
 induction fuel with
 |zero=>
  intro listed ρ w hls hcl hc hr;have hall:=LL (β:=fun j=>listed.getD j false) l.length (by omega)
  have hst:st (De l) (Fe E) s (fun j=>listed.getD j false) l.length=s':=by
   rw[hs'];exact HE _ _ _ _ fun j hj=>hall j hj
  rw[hst]at hr⊢;refine⟨?_,hQ ρ w hr⟩;cases hrd:Region.ready .any ops listed with
  |nil=>rfl
  |cons i rs=>
   have:i∈Region.ready .any ops listed:=by rw[hrd];simp
   obtain⟨h1,o,ho,_⟩:=mem_ready.1 this;have hi:i<l.length:=by rw[←hsz];exact(Array.getElem?_eq_some_iff.1 ho).1
   have:=hall i hi;rw[getD_both h1]at this;cases this
 |succ fuel ih=>
  intro listed ρ w hls hcl hc hr;refine⟨?_,?_⟩
  ·
   intro hnil;exfalso
   have key: ∀k,k<l.length→listed.getD k false=true:=by
    intro k
    induction k using Nat.strongRecOn with
    |_ k ihk=>
     intro hk;apply Classical.byContradiction;intro hf;have hf':listed.getD k false=false:=by simpa using hf
     obtain⟨e,he,_,_⟩:=hE k l[k] (by simp[hk]);obtain⟨_,hon,_⟩:=hpair k l[k] e (by simp[hk]) he
     have:k∈Region.ready .any ops listed:=by
      refine mem_ready.2 ⟨getD_in (by omega) hf',l[k],by rw[hget];simp[hk],fun ed hed hb=> ?_⟩;have:=hon ed hed hb;exact ihk ed.on this (by omega)
     rw[hnil]at this;cases this
   have hc2:cnt (fun j=>listed.getD j false) l.length=l.length:=by
    have hh: ∀k,k≤l.length→cnt (fun j=>listed.getD j false) k=k:=by
     intro k
     induction k with
     |zero=>intro _;rfl
     |succ k ihk=>intro hk;simp only[cnt,ihk (by omega),key k (by omega),if_true]
    exact hh _ (Nat.le_refl _)
   omega
  ·intro i hi
   obtain⟨hun,o,ho,hdep⟩:=mem_ready.1 hi;have hun':=getD_both hun;have hio:l[i]? =some o:=by rw[←hget];exact ho
   have hin:i<l.length:=(List.getElem?_eq_some_iff.1 hio).1;obtain⟨e,he,hFe,hDe⟩:=hE i o hio;obtain⟨hsel,hon,hpi⟩:=hpair i o e hio he
   have hind: ∀j x f,l[j]? =some x→E[j]? =some f→(listed.getD j false≠decide (j<i))→j≠i→
    (∀d,x.dst=some d→d∉o.looksAt ops)∧(∀k,f.mw.tgt=some k→k∉e.rd)∧(i<j→(∀d,o.dst=some d→x.dst≠some d)∧(∀k,e.mw.tgt=some k→f.mw.tgt≠some k)∧(∀k,e.mw.newId=some k→f.has k=false)):=by
    intro j x f hx hf hne hji
    have hnoB: ∀d u:Option Nat,Dt d u=true→ ∀k,d=some k→u≠some k:=by
     intro d u h k hd hu;simp[hd,hu,Dt]at h
    rcases Nat.lt_or_gt_of_ne hji with hlt|hgt
    ·
     have hnl:listed.getD j false=false:=by simpa[hlt] using hne
     have hnb:Hu o j=false:=by
      cases hb:Hu o j with
      |false=>rfl
      |true=>
       obtain⟨ed,hed,hb2⟩:=Array.any_eq_true'.1 hb;simp only[Bool.and_eq_true,beq_iff_eq]at hb2;have:=hdep ed hed hb2.1;rw[hb2.2,hnl]at this;cases this
     have h1:=(hpi j x f hlt hx hf).1;rw[hnb,Bool.false_or]at h1;simp only[Fj,Bool.and_eq_true]at h1;obtain⟨⟨⟨⟨⟨⟨c1,c2⟩,c3⟩,c4⟩,c5⟩,c6⟩,c7⟩:=h1;refine⟨?_,?_,fun hh=>by omega⟩
     ·intro d hd;rw[hd]at c1;simpa using c1
     ·intro k hk;rw[hk]at c5;simpa using c5
    ·
     have hl':listed.getD j false=true:=by
      have:decide (j<i)=false:=by simp;omega
      rw[this]at hne;simpa using hne
     have hnb:Hu x i=false:=by
      cases hb:Hu x i with
      |false=>rfl
      |true=>
       obtain⟨ed,hed,hb2⟩:=Array.any_eq_true'.1 hb;simp only[Bool.and_eq_true,beq_iff_eq]at hb2;have:=hcl j x hx hl' ed hed hb2.1;rw[hb2.2,hun']at this;cases this
     have h1:=((hpair j x f hx hf).2.2 i o e hgt hio he).1;rw[hnb,Bool.false_or]at h1;simp only[Fj,Bool.and_eq_true]at h1;obtain⟨⟨⟨⟨⟨⟨c1,c2⟩,c3⟩,c4⟩,c5⟩,c6⟩,c7⟩:=h1;refine⟨?_,?_,fun _=>⟨hnoB _ _ c3,hnoB _ _ c4,?_⟩⟩
     ·intro d hd;rw[hd]at c2;simpa using c2
     ·intro k hk;rw[hk]at c6;simpa using c6
     ·intro k hk;rw[hk]at c7;simpa using c7
   have hupd:=O3 (listed:=listed) (i:=i) (by omega)
   have htext:st (De l) (Fe E) s (fun _=>true) i=st (De l) (Fe E) s (fun j=>decide (j<i)) l.length:=by
    have h1: ∀k,i+k≤l.length→st (De l) (Fe E) s (fun j=>decide (j<i)) (i+k)=st (De l) (Fe E) s (fun j=>decide (j<i)) i:=by
     intro k
     induction k with
     |zero=>intro _;rfl
     |succ k ihk=>
      intro hk;have:decide (i+k<i)=false:=by simp
      rw[←Nat.add_assoc];simp only[st,this];exact ihk (by omega)
    rw[←Nat.add_sub_cancel' (Nat.le_of_lt hin),h1 _ (by omega)];exact HE _ _ _ _ fun j hj=>by simp[hj]
   have hput:st (De l) (Fe E) s (fun j=>(listed.setIfInBounds i true).getD j false) l.length=(st (De l) (Fe E) s (fun j=>listed.getD j false) l.length).put o.dst e:=by
    rw[hupd,←hDe,←hFe];refine Ot _ _ _ hun' _ hin fun j hij hjl hb=> ?_
    obtain⟨f,hf,hFj,hDj⟩:=hE j l[j] (by simp[hjl]);obtain⟨_,_,h3⟩:=hind j l[j] f (by simp[hjl]) hf (by simp[hb];omega) (by omega);obtain⟨g1,g2,_⟩:=h3 hij;rw[hDe,hFe,hDj,hFj];exact⟨g1,g2⟩
   have hev:=hat i o hio;rw[hFe,htext]at hev;refine hev.sound (s:=st (De l) (Fe E) s (fun j=>listed.getD j false) l.length) ho ?_ ?_ ?_ ?_ hr ?_
   ·intro cs b hh;rw[hh]at hsel;cases hsel
   ·intro x hx
    refine Ox _ _ _ x _ fun j hj hne hd=> ?_
    obtain⟨f,hf,hFj,hDj⟩:=hE j l[j] (by simp[hj]);by_cases hji:j=i
    ·subst hji;simp[hun']at hne
    ·obtain⟨g1,_,_⟩:=hind j l[j] f (by simp[hj]) hf hne hji
     rw[hDj]at hd;exact g1 x hd hx
   ·intro id hid
    refine Ou _ _ _ id _ fun j hj hne hd=> ?_
    obtain⟨f,hf,hFj,hDj⟩:=hE j l[j] (by simp[hj]);by_cases hji:j=i
    ·subst hji;simp[hun']at hne
    ·obtain⟨_,g2,_⟩:=hind j l[j] f (by simp[hj]) hf hne hji
     rw[hFj]at hd;exact g2 id hd hid
   ·intro id hid
    refine Ow _ _ _ (hfr e (List.mem_of_getElem? he) id hid) _ fun j hj hb=> ?_
    obtain⟨f,hf,hFj,hDj⟩:=hE j l[j] (by simp[hj]);rw[hFj];have hji:j≠i:=by rintro rfl;rw[hun']at hb;cases hb
    rcases Nat.lt_or_gt_of_ne hji with hlt|hgt
    ·exact(hpi j l[j] f hlt (by simp[hj]) hf).2.1 id hid
    ·obtain⟨_,_,h3⟩:=hind j l[j] f (by simp[hj]) hf (by simp[hb];omega) hji
     obtain⟨_,g2,g3⟩:=h3 hgt;refine⟨g3 id hid,g2 id ?_⟩;cases hm:e.mw with
     |none=>rw[hm]at hid;cases hid
     |new id' b=>rw[hm]at hid;simpa[MW.newId,MW.tgt] using hid
     |wr id' b=>rw[hm]at hid;cases hid
   ·intro ρ' w' hr'
    have:=ih (listed.setIfInBounds i true) ρ' w' (by simpa using hls) ?_ ?_ (by rw[hput];exact hr')
    ·rw[hput]at this;exact this
    ·intro j x hx hl' ed hed hb
     by_cases hji:j=i
     ·subst hji
      have:x=o:=Option.some.inj (hx.symm.trans hio);subst this;exact getD_set_true (hdep ed hed hb)
     ·rw[getD_set_ne false (Ne.symm hji)]at hl'
      exact getD_set_true (hcl j x hx hl' ed hed hb)
    ·rw[hupd,LI hun',if_pos hin];omega
theorem ON{l:List Oper}{E:List Eff}{s s':VS}(hm:P.follows .mixedOrders=true)(h:VE P l.toArray w0 l E s s')(hB:veB l.toArray l E=true)
 (hfr: ∀e∈E,∀id,e.mw.newId=some id→Bn id s)(hQ: ∀ρ w,Rel w0 ρ s' w→Q .normal (s'.act ρ) w)
 (hr:Rel w0 ρ s w):(Code.region id l.toArray true).wp P Q (s.act ρ) w:=by
 refine wp_region_any hm ?_;have hfun:(fun j=>(Array.replicate l.toArray.size false).getD j false)=fun _=>false:=by funext j;exact getD_replicate_false _ _
 have h00: ∀k,st (De l) (Fe E) s (fun _=>false) k=s:=by
  intro k
  induction k with
  |zero=>rfl
  |succ k ih=>simp only[st];exact ih
 have h0: ∀k,st (De l) (Fe E) s (fun j=>(Array.replicate l.toArray.size false).getD j false) k=s:=by rw[hfun];exact h00
 have hcnt:cnt (fun j=>(Array.replicate l.toArray.size false).getD j false) l.length=0:=by
  have:(fun j=>(Array.replicate l.toArray.size false).getD j false)=fun _=>false:=by funext j;exact getD_replicate_false _ _
  rw[this];exact LK _
 have hr':Rel w0 ρ s {w with drawn:=w.drawn+1}:=⟨Gw.drew hr.gw,hr.own,hr.inj⟩
 have:=OS rfl h hB hfr hQ l.toArray.size (Array.replicate l.toArray.size false) ρ {w with drawn:=w.drawn+1} (by simp)
  (fun j o _ hl=>by rw[getD_replicate_false]at hl;cases hl) (by rw[hcnt];simp) (by rw[h0];exact hr')
 rw[h0]at this;exact this
def Co:List Eff→Bool
 | []=>true
 |e::E=>E.all (fun f=>match f.mw.newId with|some k=> !e.has k && Dt (some k) e.mw.tgt|none=>true) && Co E
theorem OP{l:List Oper}{E:List Eff}{s s':VS}(h:VE P ops w0 l E s s'):(∀o∈l,Dg o.op=false)→Co E=true→
 (∀e∈E,∀id,e.mw.newId=some id→Bn id s)→ ∀{Q:Exit→Act→World→Prop},(∀ρ w,Rel w0 ρ s' w→Q .normal (s'.act ρ) w)→
 ∀{ρ:Nat→Nat} {w:World},Rel w0 ρ s w→wpList P ops Q l (s.act ρ) w:=by
 induction h with
 |nil s=>intro _ _ _ Q hQ ρ w hr;exact hQ ρ w hr
 | @cons o l e E s s' h r ih=>
   intro hsel hB hfr Q hQ ρ w hr;simp only[Co,Bool.and_eq_true]at hB
   have hnext: ∀f∈E,∀id,f.mw.newId=some id→Bn id (s.put o.dst e):=by
    intro f hf id hid;have h1:=List.all_eq_true.1 hB.1 f hf;simp only[hid,Bool.and_eq_true,Bool.not_eq_true']at h1;refine Kw (hfr f (by simp[hf]) id hid) h1.1 ?_;intro ht;have:=h1.2;simp[Dt,ht]at this
   have:=h.step (K:=wpList P ops Q l) (Q:=Q) (s:=s) (by intro cs b hh;have:=hsel o (by simp);rw[hh]at this;cases this) (fun _ _=>rfl) (fun _ _=>rfl) (hfr e (by simp)) hr
    (fun ρ' w' hr'=>ih (fun o ho=>hsel o (by simp[ho])) hB.2 hnext hQ hr')
   unfold wpList;exact this
theorem OO{l:List Oper}{E:List Eff}{s s':VS}(h:VE P l.toArray w0 l E s s')(hsel:l.all (fun o=> !Dg o.op)=true)(hB:Co E=true)
 (hfr: ∀e∈E,∀id,e.mw.newId=some id→Bn id s)(hQ: ∀ρ w,Rel w0 ρ s' w→Q .normal (s'.act ρ) w)
 (hr:Rel w0 ρ s w):(Code.region id l.toArray false).wp P Q (s.act ρ) w:=
 wp_region_lit (OP h (fun o ho=>by have:=List.all_eq_true.1 hsel o ho;simpa using this) hB hfr hQ hr)
end
def VOk(P:Program)(w0:World)(s:VS)(c:Code)(Q:Exit→VS→Prop):Prop:=
 ∀ρ w (R:Exit→Act→World→Prop),Rel w0 ρ s w→(∀e ρ' s' w',Q e s'→Rel w0 ρ' s' w'→R e (s'.act ρ') w')→c.wp P R (s.act ρ) w
def AC(s:VS):Operand→SV
 | .tmp t=>(s.fr[t]?).getD (.v undef)
 | .const v=> .v v
 | .global g=> .v (.pointer (some ⟨g,0,none⟩))
 | .func f=> .v (.func (.func f) #[] #[])
theorem AH(s:VS)(ρ:Nat→Nat)(x:Operand):(s.act ρ).eval x=(AC s x).c ρ:=by
 cases x with
 |tmp t=>
  simp only[Act.eval,AC,Array.getD_eq_getD_getElem?,Ew];cases s.fr[t]? <;>rfl
 |_=>rfl
section
variable{P:Program}{w0:World}
def Rm(P:Program)(w0:World)(d:Code)(Q:Exit→VS→Prop):Exit→VS→Prop
 | .normal,s=>VOk P w0 s d Q
 |e,s=>Q e s
theorem H8{c d:Code}{s:VS}{Q:Exit→VS→Prop}(h:VOk P w0 s c (Rm P w0 d Q)):VOk P w0 s (.seq c d) Q:=by
 intro ρ w R hr hQ;refine wp_seq (h ρ w _ hr ?_);intro e ρ' s' w' hq hr';cases e with
 |normal=>exact hq ρ' w' R hr' hQ
 |_=>exact hQ _ _ _ _ hq hr'
def LY(id:Nat)(Q:Exit→VS→Prop):Exit→VS→Prop
 | .exit k,s=>if k=id then Q .normal s else Q (.exit k) s
 |e,s=>Q e s
theorem IB{c:Code}{s:VS}{Q:Exit→VS→Prop}(h:VOk P w0 s c (LY id Q)):VOk P w0 s (.block id c) Q:=by
 intro ρ w R hr hQ;refine wp_block (h ρ w _ hr ?_);intro e ρ' s' w' hq hr';cases e with
 |exit k=>
  simp only[LY]at hq;simp only[Exit.inBlock];split
  ·rename_i hk;rw[if_pos hk]at hq;exact hQ _ _ _ _ hq hr'
  ·rename_i hk;rw[if_neg hk]at hq;exact hQ _ _ _ _ hq hr'
 |_=>exact hQ _ _ _ _ hq hr'
theorem H6{s:VS}{Q:Exit→VS→Prop}(h:Q .normal s):VOk P w0 s .skip Q:=fun _ _ _ hr hQ=>wp_skip (hQ _ _ _ _ h hr)
theorem AG{s:VS}{Q:Exit→VS→Prop}(h:Q .ret s):VOk P w0 s .ret Q:=fun _ _ _ hr hQ=>wp_ret (hQ _ _ _ _ h hr)
theorem Aq{s:VS}{Q:Exit→VS→Prop}(h:Q (.exit id) s):VOk P w0 s (.exit id) Q:=fun _ _ _ hr hQ=>wp_exit (hQ _ _ _ _ h hr)
theorem Jd{b:Bool}{c d:Code}{s:VS}{Q:Exit→VS→Prop}(hx:AC s x= .v (.bool b))(h:VOk P w0 s (if b then c else d) Q):VOk P w0 s (.cond x c d) Q:=
 fun ρ w R hr hQ=>wp_cond (by rw[AH,hx];rfl) (h ρ w R hr hQ)
theorem H9{c d:Code}{s:VS}{Q:Exit→VS→Prop}(hx:AC s x= .v (.bool true))(h:VOk P w0 s c Q):VOk P w0 s (.cond x c d) Q:=Jd hx h
theorem IA{c d:Code}{s:VS}{Q:Exit→VS→Prop}(hx:AC s x= .v (.bool false))(h:VOk P w0 s d Q):VOk P w0 s (.cond x c d) Q:=Jd hx h
theorem OJ{l:List Oper}{E:List Eff}{s s':VS}{Q:Exit→VS→Prop}(hm:P.follows .mixedOrders=true)(h:VE P l.toArray w0 l E s s')(hB:veB l.toArray l E=true)
 (hfr: ∀e∈E,∀id,e.mw.newId=some id→Bn id s)(hQ:Q .normal s'):VOk P w0 s (.region id l.toArray true) Q:=
 fun _ _ _ hr hR=>ON hm h hB hfr (fun _ _ hr'=>hR _ _ _ _ hQ hr') hr
theorem OI{l:List Oper}{E:List Eff}{s s':VS}{Q:Exit→VS→Prop}(h:VE P l.toArray w0 l E s s')(hsel:l.all (fun o=> !Dg o.op)=true)(hB:Co E=true)
 (hfr: ∀e∈E,∀id,e.mw.newId=some id→Bn id s)(hQ:Q .normal s'):VOk P w0 s (.region id l.toArray false) Q:=
 fun _ _ _ hr hR=>OO h hsel hB hfr (fun _ _ hr'=>hR _ _ _ _ hQ hr') hr
def H2(P:Program)(w0:World)(c:Code)(Q:Exit→VS→Prop):Nat→VS→Prop
 |0,_=>False
 |n+1,s=>VOk P w0 s c fun e s'=>match e with| .normal=>H2 P w0 c Q n s'|e=>Q e s'
theorem Ce{c:Code}{s:VS}{Q:Exit→VS→Prop}(n:Nat)(h:H2 P w0 c Q n s):VOk P w0 s (.loop c) Q:=by
 intro ρ w R hr hQ;refine wp_loop_rounds n ?_
 induction n generalizing s ρ w with
 |zero=>exact h.elim
 |succ n ih=>
  rw[rounds_succ];refine h ρ w _ hr ?_;intro e ρ' s' w' hq hr';cases e with
  |normal=>exact ih hq ρ' w' hr'
  |_=>exact hQ _ _ _ _ hq hr'
theorem Lf{c:Code}{Q:Exit→VS→Prop}(I:Nat→VS→Prop)(step: ∀n s,I n s→VOk P w0 s c fun e s'=>match e with| .normal=> ∃m,m<n∧I m s'|e=>Q e s')
 {s:VS}(n:Nat)(h:I n s):VOk P w0 s (.loop c) Q:=by
 refine Ce (n+1) ?_
 have key: ∀N n s,n≤N→I n s→H2 P w0 c Q (N+1) s:=by
  intro N
  induction N with
  |zero=>
   intro n s hn hI ρ w R hr hQ;refine step n s hI ρ w R hr ?_;intro e ρ' s' w' hq hr';cases e with
   |normal=>obtain⟨m,hm,_⟩:=hq;omega
   |_=>exact hQ _ _ _ _ hq hr'
  |succ N ih=>
   intro n s hn hI ρ w R hr hQ;refine step n s hI ρ w R hr ?_;intro e ρ' s' w' hq hr';cases e with
   |normal=>obtain⟨m,hm,hI'⟩:=hq;exact hQ _ _ _ _ (ih m s' (by omega) hI') hr'
   |_=>exact hQ _ _ _ _ hq hr'
 exact key n n s (Nat.le_refl _) h
theorem Z0{c:Code}{l:List Value}{R:Exit→Act→World→Prop}(Q:Exit→VS→Prop)(h:VOk P w ⟨l.map .v,fun _=>none⟩ c Q)
 (hQ: ∀e ρ s' w',Q e s'→Rel w ρ s' w'→R e (s'.act ρ) w'):c.wp P R ⟨l.toArray,[]⟩ w:=by
 have h1:(⟨l.toArray,[]⟩:Act)=(⟨l.map .v,fun _=>none⟩:VS).act (fun _=>0):=by
  simp[VS.act,SV.c,Function.comp_def]
 rw[h1];exact h _ w R ⟨Gw.refl w,fun _ _ hh=>(by cases hh),fun _ _ hh=>(by cases hh)⟩ hQ
variable{ops:Array Oper}{o:Oper}{s:VS}
theorem OG(hg:o.guard=none)(t:Array Value):Region.wanted o (yielded ops t)=true:=by simp[Region.wanted,hg]
theorem Hj(ho:o.op= .move x)(hgd: ∀ρ,Region.wanted o (yielded ops (s.act ρ).tmps)=true):Ev P ops w0 o s ⟨AC s x,.none,[]⟩:=
 .run _ _ hgd fun ρ w _=>by simp only[execOp,ho];rw[AH];rfl
theorem JJ(ho:o.op= .assign x)(hgd: ∀ρ,Region.wanted o (yielded ops (s.act ρ).tmps)=true):Ev P ops w0 o s ⟨AC s x,.none,[]⟩:=
 .run _ _ hgd fun ρ w _=>by simp only[execOp,ho];rw[AH];rfl
theorem Ql(v:Value)(hgd: ∀ρ,Region.wanted o (yielded ops (s.act ρ).tmps)=true)(h: ∀ρ w,(execOp (s.act ρ).eval o).run P w= .ok (.value v) w):Ev P ops w0 o s ⟨.v v,.none,[]⟩:=
 .run _ _ hgd fun ρ w _=>h ρ w
theorem El{r:(Nat→Nat)→World→Result Next}(hgd: ∀ρ,Region.wanted o (yielded ops (s.act ρ).tmps)=true)(h: ∀ρ w,(execOp (s.act ρ).eval o).run P w=r ρ w)(h2: ∀ρ w,r ρ w= .ok (.value v) w):Ev P ops w0 o s ⟨.v v,.none,[]⟩:=
 Ql v hgd fun ρ w=>(h ρ w).trans (h2 ρ w)
theorem Bq{ty:TypeId}{z:Value}(_hd:o.dst=some id)(ho:o.op= .alloc ty)(hgd: ∀ρ,Region.wanted o (yielded ops (s.act ρ).tmps)=true)(hz: ∀w,(zeroValue ty).run P w= .ok z w):
 Ev P ops w0 o s ⟨.p id 0,.new id (z.cells.toList.map .v,ty),[]⟩:=
 .new id _ hgd (by simp[SV.has]) fun ρ w _=>by
  simp[execOp,ho,Instr.alloc,newVar,newRow,newObj,Sem.run_bind,hz,Result.andThen,cellsOf,Function.comp_def,SV.c];rfl
theorem JI{ty:TypeId}(_hd:o.dst=some id)(ho:o.op= .box ty x)(hgd: ∀ρ,Region.wanted o (yielded ops (s.act ρ).tmps)=true)(hx:AC s x= .v v):
 Ev P ops w0 o s ⟨.p id 0,.new id (v.cells.toList.map .v,ty),[]⟩:=
 .new id _ hgd (by simp[SV.has]) fun ρ w _=>by
  have h1:=AH s ρ x;rw[hx]at h1;simp[execOp,ho,h1,Instr.box,newVar,newRow,newObj,Result.andThen,cellsOf,Function.comp_def,SV.c];rfl
def Bc:TypeDesc→Bool
 | .struct _=>true
 | .array _ _=>true
 |_=>false
theorem Bu(hu:P.underlying t=some d)(w:World):(isAgg t).run P w= .ok (Bc d) w:=by
 unfold isAgg;rw[Sem.run_bind,run_underlying hu w];cases d<;>simp[Bc,Result.andThen]
theorem BX(g off j:Nat):(⟨g,off,none⟩:Addr).add j=⟨g,off+j,none⟩:=by unfold Addr.add;split<;>simp_all
def unV:List SV→Option (List Value)
 | []=>some []
 | .v x::l=>match unV l with|some r=>some (x::r)|none=>none
 | .p _ _::_=>none
 | .s _ _ _ _::_=>none
 | .tp _ _ _::_=>none
 | .ap _ _::_=>none
theorem Dy: ∀{l:List SV} {r:List Value},unV l=some r→l=r.map .v
 | [],r,h=>by simp[unV]at h;subst h;rfl
 | .v x::l,r,h=>by
   simp only[unV]at h;cases hl:unV l with
   |none=>rw[hl]at h;cases h
   |some q=>rw[hl]at h;simp only[Option.some.injEq]at h;subst h;rw[Dy hl];rfl
 | .p _ _::_,_,h=>by simp[unV]at h
 | .s _ _ _ _::_,_,h=>by simp[unV]at h
 | .tp _ _ _::_,_,h=>by simp[unV]at h
 | .ap _ _::_,_,h=>by simp[unV]at h
theorem Dw{ty:TypeId}{b:Blk}(ho:o.op= .load ty x)(hgd: ∀ρ,Region.wanted o (yielded ops (s.act ρ).tmps)=true)(hx:AC s x= .p id off)(hm:s.mem id=some b)
 (hu:P.underlying ty=some d)(hd:Bc d=true)(hs: ∀w,(Go.sizeOf ty).run P w= .ok n w)(hv0:unV ((b.1.drop off).take n)=some vs)(hl:vs.length=n):Ev P ops w0 o s ⟨.v (.agg vs.toArray),.none,[id]⟩:=
 .run _ _ hgd fun ρ w hw=>by
  have h1:=AH s ρ x;rw[hx]at h1;obtain⟨_,hb⟩:=hw.2 id b (by simp) hm;have hv:=Dy hv0
  have hl':(loadCells ⟨ρ id,off,none⟩ vs.length).run P w= .ok vs.toArray w:=run_loadCells_list w _ vs fun j v hj=>by
   rw[BX];simp only[World.cell?,hb,cellsOf];have h2:((b.1.drop off).take n)[j]? =some (.v v):=by rw[hv];simp[hj]
   have h3:b.1[off+j]? =some (.v v):=by
    rw[List.getElem?_take]at h2;split at h2
    ·rwa [List.getElem?_drop]at h2
    ·cases h2
   simp[h3,SV.c]
  rw[hl]at hl';simp[execOp,ho,h1,SV.c,Instr.loadAt,Instr.sureAddr,loadVar,Bu hu,hd,hs,hl']
theorem Cl{ty:TypeId}{b:Blk}(ho:o.op= .load ty x)(hgd: ∀ρ,Region.wanted o (yielded ops (s.act ρ).tmps)=true)(hx:AC s x= .p id off)(hm:s.mem id=some b)
 (hu:P.underlying ty=some d)(hd:Bc d=false)(hv:b.1[off]? =some (.v v)):Ev P ops w0 o s ⟨.v v,.none,[id]⟩:=
 .run _ _ hgd fun ρ w hw=>by
  have h1:=AH s ρ x;rw[hx]at h1;obtain⟨_,hb⟩:=hw.2 id b (by simp) hm;have hc:w.cell? ⟨ρ id,off,none⟩=some v:=by simp[World.cell?,hb,cellsOf,hv,SV.c]
  simp[execOp,ho,h1,SV.c,Instr.loadAt,Instr.sureAddr,loadVar,Bu hu,hd,hc]
theorem CS{ty:TypeId}(ho:o.op= .load ty x)(hgd: ∀ρ,Region.wanted o (yielded ops (s.act ρ).tmps)=true)(hx:AC s x= .v (.pointer (some ⟨g,off,none⟩)))
 (hu:P.underlying ty=some d)(hd:Bc d=true)(hs: ∀w,(Go.sizeOf ty).run P w= .ok n w)(hc: ∀j v,vs[j]? =some v→w0.cell? ⟨g,off+j,none⟩=some v)(hl:vs.length=n):Ev P ops w0 o s ⟨.v (.agg vs.toArray),.none,[]⟩:=
 .run _ _ hgd fun ρ w hw=>by
  have h1:=AH s ρ x;rw[hx]at h1
  have hl':(loadCells ⟨g,off,none⟩ vs.length).run P w= .ok vs.toArray w:=run_loadCells_list w _ vs fun j v hj=>by
   rw[BX];exact hw.1.cell (hc j v hj)
  rw[hl]at hl';simp[execOp,ho,h1,SV.c,Instr.loadAt,Instr.sureAddr,loadVar,Bu hu,hd,hs,hl']
theorem Ck{ty:TypeId}{a:Addr}(ho:o.op= .load ty x)(hgd: ∀ρ,Region.wanted o (yielded ops (s.act ρ).tmps)=true)(hx:AC s x= .v (.pointer (some a)))
 (hu:P.underlying ty=some d)(hd:Bc d=false)(hc:w0.cell? a=some v):Ev P ops w0 o s ⟨.v v,.none,[]⟩:=
 .run _ _ hgd fun ρ w hw=>by
  have h1:=AH s ρ x;rw[hx]at h1;simp[execOp,ho,h1,SV.c,Instr.loadAt,Instr.sureAddr,loadVar,Bu hu,hd,hw.1.cell hc]
theorem Be{ty:TypeId}{b:Blk}(ho:o.op= .store ty x y)(hgd: ∀ρ,Region.wanted o (yielded ops (s.act ρ).tmps)=true)(hx:AC s x= .p id off)(hm:s.mem id=some b)(hy:AC s y= .v v)
 (hs: ∀w,(Go.sizeOf ty).run P w= .ok n w)(hn:v.cells.size=n)(hfit:off+n≤b.1.length)(h1:v.cells.toList.all (·.oneCell')=true):
 Ev P ops w0 o s ⟨.v undef,.wr id (b.1.take off++v.cells.toList.map .v++b.1.drop (off+n),b.2),[id]⟩:=
 .wr id _ hgd (by rw[hm];rfl) fun ρ w hw=>by
  have e1:=AH s ρ x;rw[hx]at e1;have e2:=AH s ρ y;rw[hy]at e2;obtain⟨_,hb⟩:=hw.2 id b (by simp) hm;have hst:=run_storeCells_at P (ρ id) off b.2 v.cells.toList 0 (b.1.map (SV.c ρ)).toArray w hb (by simp;omega) (fun u hu=>List.all_eq_true.1 h1 u hu);refine⟨w.setRow (ρ id) ((b.1.map (SV.c ρ)).toArray.toList.take (off+0)++v.cells.toList++(b.1.map (SV.c ρ)).toArray.toList.drop (off+0+v.cells.toList.length)).toArray,?_,?_,?_⟩
  ·simp only[execOp,ho,e1,e2,SV.c,Instr.storeAt,Instr.sureAddr,storeVar]
   rw[Sem.run_bind,Sem.run_bind,Sem.run_pure,Result.andThen_ok,Sem.run_bind,hs,Result.andThen_ok,if_neg (by rw[hn];simp),hst];rfl
  ·exact⟨rfl,rfl,rfl,by simp,fun k hk=>setRow_other w _ k _ hk,fun a=>by
    by_cases ha:a.block=ρ id
    ·simp[World.frozen?,ha,hb,cellsOf,setRow_heap w (ρ id) _ _ _ _ hb]
    ·simp[World.frozen?,setRow_other w (ρ id) a.block _ ha]⟩
  ·rw[setRow_heap w (ρ id) _ _ _ _ hb]
   simp[cellsOf,Function.comp_def,SV.c,hn,List.map_take,List.map_drop]
def AK:List (Nat×Blk)→Nat→Option Blk
 | []=>fun _=>none
 |(id,b)::l=>fun k=>if k=id then some b else AK l k
def DU:List (Nat×Blk)→Nat→Blk→List (Nat×Blk)
 | [],id,b=>[(id,b)]
 |(k,c)::l,id,b=>if k=id then(id,b)::l else(k,c)::DU l id b
theorem Pp(l:List (Nat×Blk))(id:Nat)(b:Blk):AK (DU l id b)=Aw (AK l) (.wr id b):=by
 induction l with
 |nil=>rfl
 |cons x l ih=>
  obtain⟨k,c⟩:=x;funext j
  simp only[DU];split
  ·rename_i h;subst h
   simp only[AK,Aw];split<;>rfl
  ·rename_i h
   simp only[AK,ih,Aw];split
   ·rename_i h2;subst h2;rw[if_neg h]
   ·rfl
theorem KB(fr:List SV)(m:Nat→Option Blk)(d:Option Nat)(x:SV)(rd:List Nat):(⟨fr,m⟩:VS).put d ⟨x,.none,rd⟩=⟨BW fr d x,m⟩:=rfl
theorem Tt(fr:List SV)(l:List (Nat×Blk))(d:Option Nat)(x:SV)(rd:List Nat)(id:Nat)(b:Blk):(⟨fr,AK l⟩:VS).put d ⟨x,.new id b,rd⟩=⟨BW fr d x,AK ((id,b)::l)⟩:=rfl
theorem KA(fr:List SV)(l:List (Nat×Blk))(d:Option Nat)(x:SV)(rd:List Nat)(id:Nat)(b:Blk):(⟨fr,AK l⟩:VS).put d ⟨x,.wr id b,rd⟩=⟨BW fr d x,AK (DU l id b)⟩:=by
 simp only[VS.put,Pp]
theorem Kz(fr:List SV)(d:Nat)(x:SV):BW fr (some d) x=fr.set d x:=rfl
theorem K0(fr:List SV)(x:SV):BW fr none x=fr:=rfl
theorem Af{x:Int}(h0: -9223372036854775808≤x)(h1:x≤9223372036854775807):IntKind.i64.wrap x=x:=IntWalk.i64_in x (by omega)
def FK(fr:List SV)(l:List (Nat×Blk))(id:Nat):Bool:=fr.all (fun x=> !x.has id) && l.all (fun x=>x.1 !=id && !x.2.1.any (SV.has id))
theorem Kx{fr:List SV}{l:List (Nat×Blk)}(h:FK fr l id=true):Bn id ⟨fr,AK l⟩:=by
 simp only[FK,Bool.and_eq_true]at h;obtain⟨h1,h2⟩:=h;refine⟨?_,fun x hx=>by have:=List.all_eq_true.1 h1 x hx;simpa using this,?_⟩
 ·simp only
  clear h1
  induction l with
  |nil=>rfl
  |cons x l ih=>
   obtain⟨k,c⟩:=x;simp only[List.all_cons,Bool.and_eq_true]at h2;simp only[AK];rw[if_neg (by have:=h2.1.1;intro e;rw[e]at this;simp at this)];exact ih h2.2
 ·simp only
  clear h1
  induction l with
  |nil=>intro k b hb;cases hb
  |cons x l ih=>
   obtain⟨k,c⟩:=x;simp only[List.all_cons,Bool.and_eq_true]at h2;intro j b hb;simp only[AK]at hb;split at hb
   ·injection hb with hb;subst hb;have:=h2.1.2;simpa using this
   ·exact ih h2.2 j b hb
def Ej(fr:List SV)(l:List (Nat×Blk))(E:List Eff):Bool:=E.all fun e=>match e.mw.newId with|some id=>FK fr l id|none=>true
theorem Ky{fr:List SV}{l:List (Nat×Blk)}{E:List Eff}(h:Ej fr l E=true): ∀e∈E,∀id,e.mw.newId=some id→Bn id ⟨fr,AK l⟩:=by
 intro e he id hid;have:=List.all_eq_true.1 h e he;simp only[hid]at this;exact Kx this
theorem vrd{l:List Oper}{E:List Eff}{fr:List SV}{m:List (Nat×Blk)}{s':VS}{Q:Exit→VS→Prop}(hm:P.follows .mixedOrders=true)(h:VE P l.toArray w0 l E ⟨fr,AK m⟩ s')
 (hB:(veB l.toArray l E && Ej fr m E)=true)(hQ:Q .normal s'):VOk P w0 ⟨fr,AK m⟩ (.region id l.toArray true) Q:=by
 rw[Bool.and_eq_true]at hB;exact OJ hm h hB.1 (Ky hB.2) hQ
theorem vrp{l:List Oper}{E:List Eff}{fr:List SV}{m:List (Nat×Blk)}{s':VS}{Q:Exit→VS→Prop}(h:VE P l.toArray w0 l E ⟨fr,AK m⟩ s')
 (hB:(l.all (fun o=> !Dg o.op) && Co E && Ej fr m E)=true)(hQ:Q .normal s'):VOk P w0 ⟨fr,AK m⟩ (.region id l.toArray false) Q:=by
 simp only[Bool.and_eq_true]at hB;exact OI h hB.1.1 hB.1.2 (Ky hB.2) hQ
theorem OQ{c:Code}{l:List Value}{R:Exit→Act→World→Prop}(h:VOk P w ⟨l.map .v,AK []⟩ c fun e s'=> ∀ρ w',Rel w ρ s' w'→R e (s'.act ρ) w'):c.wp P R ⟨l.toArray,[]⟩ w:=
 Z0 _ h fun _ ρ _ w' hq hr=>hq ρ w' hr
theorem Gk{ty:TypeId}{i:Int}(ho:o.op= .indexAddr ty x ix)(hgd: ∀ρ,Region.wanted o (yielded ops (s.act ρ).tmps)=true)(hx:AC s x= .p id off)(hi:AC s ix= .v (.int k i))
 (hu:P.underlying ty=some (.array n el))(hs: ∀w,(Go.sizeOf el).run P w= .ok sz w)(h0:0≤i)(h1:i<n):Ev P ops w0 o s ⟨.p id (off+i.toNat*sz),.none,[]⟩:=
 .run _ _ hgd fun ρ w _=>by
  have e1:=AH s ρ x;rw[hx]at e1;have e2:=AH s ρ ix;rw[hi]at e2;simp[execOp,ho,e1,e2,SV.c,Instr.indexAt,asIntOf,run_underlying hu,Instr.sureAddr,hs,h0,h1,BX]
theorem Cn{ty:TypeId}{f:Nat}(ho:o.op= .fieldAddr ty x f)(hgd: ∀ρ,Region.wanted o (yielded ops (s.act ρ).tmps)=true)(hx:AC s x= .p id off)
 (hu:P.underlying ty=some (.struct fs))(hf:fs[f]? =some fd)(hs: ∀w,(Go.sizeOf fd.type).run P w= .ok (n+1) w):Ev P ops w0 o s ⟨.p id (off+fd.offset),.none,[]⟩:=
 .run _ _ hgd fun ρ w _=>by
  have e1:=AH s ρ x;rw[hx]at e1;simp[execOp,ho,e1,SV.c,Instr.fieldAt,run_underlying hu,hf,Instr.sureAddr,fieldPlace,hs,BX]
theorem Cm{ty:TypeId}{f:Nat}(ho:o.op= .fieldAddr ty x f)(hgd: ∀ρ,Region.wanted o (yielded ops (s.act ρ).tmps)=true)(hx:AC s x= .v (.pointer (some ⟨g,off,none⟩)))
 (hu:P.underlying ty=some (.struct fs))(hf:fs[f]? =some fd)(hs: ∀w,(Go.sizeOf fd.type).run P w= .ok (n+1) w):Ev P ops w0 o s ⟨.v (.pointer (some ⟨g,off+fd.offset,none⟩)),.none,[]⟩:=
 .run _ _ hgd fun ρ w _=>by
  have e1:=AH s ρ x;rw[hx]at e1;simp[execOp,ho,e1,SV.c,Instr.fieldAt,run_underlying hu,hf,Instr.sureAddr,fieldPlace,hs,BX]
theorem Gj{ty:TypeId}{i:Int}(ho:o.op= .indexAddr ty x ix)(hgd: ∀ρ,Region.wanted o (yielded ops (s.act ρ).tmps)=true)(hx:AC s x= .v (.pointer (some ⟨g,off,none⟩)))(hi:AC s ix= .v (.int k i))
 (hu:P.underlying ty=some (.array n el))(hs: ∀w,(Go.sizeOf el).run P w= .ok sz w)(h0:0≤i)(h1:i<n):Ev P ops w0 o s ⟨.v (.pointer (some ⟨g,off+i.toNat*sz,none⟩)),.none,[]⟩:=
 .run _ _ hgd fun ρ w _=>by
  have e1:=AH s ρ x;rw[hx]at e1;have e2:=AH s ρ ix;rw[hi]at e2;simp[execOp,ho,e1,e2,SV.c,Instr.indexAt,asIntOf,run_underlying hu,Instr.sureAddr,hs,h0,h1,BX]
theorem JB(ho:o.op= .nilCheck x)(hgd: ∀ρ,Region.wanted o (yielded ops (s.act ρ).tmps)=true)(hx:AC s x= .p id off):Ev P ops w0 o s ⟨.p id off,.none,[]⟩:=
 .run _ _ hgd fun ρ w _=>by
  have e1:=AH s ρ x;rw[hx]at e1;simp[execOp,ho,e1,SV.c]
theorem JA{a:Addr}(ho:o.op= .nilCheck x)(hgd: ∀ρ,Region.wanted o (yielded ops (s.act ρ).tmps)=true)(hx:AC s x= .v (.pointer (some a))):Ev P ops w0 o s ⟨.v (.pointer (some a)),.none,[]⟩:=
 .run _ _ hgd fun ρ w _=>by
  have e1:=AH s ρ x;rw[hx]at e1;simp[execOp,ho,e1,SV.c]
theorem F0(h0:unV (xs.toList.map (AC s))=some vs)(ρ:Nat→Nat):xs.map (s.act ρ).eval=vs.toArray:=by
 have h:=Dy h0
 have h1:xs.toList.map (s.act ρ).eval=vs:=by
  have:xs.toList.map (s.act ρ).eval=(xs.toList.map (AC s)).map (SV.c ρ):=by
   rw[List.map_map];exact List.map_congr_left fun x _=>AH s ρ x
  rw[this,h,List.map_map];simp[Function.comp_def,SV.c]
 rw[←Array.toList_map]at h1;rw[←h1,Array.toArray_toList]
theorem nj{ty:TypeId}{hi:Operand}{k:Nat}(ho:o.op= .slice ty x none (some hi) none)(hgd: ∀ρ,Region.wanted o (yielded ops (s.act ρ).tmps)=true)(hx:AC s x= .p id 0)(hhi:AC s hi= .v (.int .i64 (k:Nat)))
 (hu:P.underlying ty=some (.array n el))(hs: ∀w,(Go.sizeOf el).run P w= .ok sz w)(hk:k≤n):Ev P ops w0 o s ⟨.s id 0 k n,.none,[]⟩:=
 .run _ _ hgd fun ρ w _=>by
  have e1:=AH s ρ x;rw[hx]at e1;have e2:=AH s ρ hi;rw[hhi]at e2
  have hb:(Instr.sliceBound (.int .i64 (k:Nat)) n .sliceAlen).run P w= .ok k w:=by
   unfold Instr.sliceBound;rw[Sem.run_bind];simp only[asIntOf,Sem.run_pure,Result.andThen_ok];rw[if_pos ⟨by omega,by omega⟩];rfl
  simp[execOp,ho,e1,e2,SV.c,Instr.sliceAt,run_underlying hu,Instr.sureAddr,Instr.sliceBounds,hs,BX,hb]
theorem K8{ty:TypeId}{len cap:Nat}(ho:o.op= .sliceToArrayPointer ty x)(hgd: ∀ρ,Region.wanted o (yielded ops (s.act ρ).tmps)=true)(hx:AC s x= .s id off len cap)
 (hu:P.underlying ty=some (.array n el))(hn:n≤len):Ev P ops w0 o s ⟨.p id off,.none,[]⟩:=
 .run _ _ hgd fun ρ w _=>by
  have e1:=AH s ρ x;rw[hx]at e1;have h1: ¬len<n:=by omega
  simp[execOp,ho,e1,SV.c,Instr.arrayAt,run_underlying hu,h1]
theorem A4{ty:TypeId}(ho:o.op= .binOp .lss ty x y r)(hgd: ∀ρ,Region.wanted o (yielded ops (s.act ρ).tmps)=true)(hx:AC s x= .v (.int .i64 a))(hy:AC s y= .v (.int .i64 b))(hp:decide (a<b)=p):
 Ev P ops w0 o s ⟨.v (.bool p),.none,[]⟩:=
 .run _ _ hgd fun ρ w _=>by
  have e1:=AH s ρ x;rw[hx]at e1;have e2:=AH s ρ y;rw[hy]at e2;simp only[execOp,ho,e1,e2,SV.c];subst hp
  go_simp
theorem Dh{ty:TypeId}(ho:o.op= .binOp .geq ty x y r)(hgd: ∀ρ,Region.wanted o (yielded ops (s.act ρ).tmps)=true)(hx:AC s x= .v (.int .i64 a))(hy:AC s y= .v (.int .i64 b))(hp:decide (b≤a)=p):
 Ev P ops w0 o s ⟨.v (.bool p),.none,[]⟩:=
 .run _ _ hgd fun ρ w _=>by
  have e1:=AH s ρ x;rw[hx]at e1;have e2:=AH s ρ y;rw[hy]at e2;simp only[execOp,ho,e1,e2,SV.c];subst hp
  go_simp
theorem Ax{ty:TypeId}(ho:o.op= .binOp .eql ty x y r)(hgd: ∀ρ,Region.wanted o (yielded ops (s.act ρ).tmps)=true)(hx:AC s x= .v (.int k a))(hy:AC s y= .v (.int k b))(hp:decide (a=b)=p):
 Ev P ops w0 o s ⟨.v (.bool p),.none,[]⟩:=
 .run _ _ hgd fun ρ w _=>by
  have e1:=AH s ρ x;rw[hx]at e1;have e2:=AH s ρ y;rw[hy]at e2;simp only[execOp,ho,e1,e2,SV.c];subst hp
  go_simp
  by_cases h:a=b<;>simp[h]
theorem A2{ty:TypeId}{c:Int}(ho:o.op= .binOp .add ty x y r)(hgd: ∀ρ,Region.wanted o (yielded ops (s.act ρ).tmps)=true)(hx:AC s x= .v (.int k a))(hy:AC s y= .v (.int k b))(hp:k.wrap (a+b)=c):
 Ev P ops w0 o s ⟨.v (.int k c),.none,[]⟩:=
 .run _ _ hgd fun ρ w _=>by
  have e1:=AH s ρ x;rw[hx]at e1;have e2:=AH s ρ y;rw[hy]at e2;simp only[execOp,ho,e1,e2,SV.c];subst hp
  go_simp
theorem CF{ty:TypeId}{c:Int}(ho:o.op= .binOp .sub ty x y r)(hgd: ∀ρ,Region.wanted o (yielded ops (s.act ρ).tmps)=true)(hx:AC s x= .v (.int k a))(hy:AC s y= .v (.int k b))(hp:k.wrap (a-b)=c):
 Ev P ops w0 o s ⟨.v (.int k c),.none,[]⟩:=
 .run _ _ hgd fun ρ w _=>by
  have e1:=AH s ρ x;rw[hx]at e1;have e2:=AH s ρ y;rw[hy]at e2;simp only[execOp,ho,e1,e2,SV.c];subst hp
  go_simp
theorem Qm{ty:TypeId}{vs:Array Value}{k:Nat}(ho:o.op= .index ty x ix)(hgd: ∀ρ,Region.wanted o (yielded ops (s.act ρ).tmps)=true)(hx:AC s x= .v (.agg vs))(hi:AC s ix= .v (.int .i64 (k:Nat)))
 (hu:P.underlying ty=some (.array n el))(hs: ∀w,(Go.sizeOf el).run P w= .ok 1 w)(hue:P.underlying el=some d)(hd:Bc d=false)(hk:k<n)(hv:vs.toList[k]? =some v):Ev P ops w0 o s ⟨.v v,.none,[]⟩:=
 .run _ _ hgd fun ρ w _=>by
  have e1:=AH s ρ x;rw[hx]at e1;have e2:=AH s ρ ix;rw[hi]at e2;have h1:vs[k]? =some v:=by simpa using hv
  simp[execOp,ho,e1,e2,SV.c,Instr.index,run_underlying hu,asIntOf,hs,hk,part,Bu hue,hd,h1]
theorem AS(ho:o.op= .call {callee:= .value (.func f),args:=xs,argTypes:=ats})(hgd: ∀ρ,Region.wanted o (yielded ops (s.act ρ).tmps)=true)
 (hx:unV (xs.toList.map (AC s))=some vs)(he: ∀args w,(callFunc f args).run P w= .ok (.enter f args) w)(hc: ∀w,Gw w0 w→Calls P f vs.toArray w fun e w'=>e= .returned v∧Gw w w'):Ev P ops w0 o s ⟨.v v,.none,[]⟩:=
 .call f (fun _=>vs.toArray) (.v v) [] hgd (fun ρ w _=>by
  obtain⟨dst,op,type,pos,after,guard⟩:=o;simp only at ho;subst ho;rw[execOp_call_go,F0 hx];simpa using he vs.toArray w) fun _ w hs=>hc w hs.1
theorem Eu(xs:Array Operand)(ρ:Nat→Nat):xs.map (s.act ρ).eval=((xs.toList.map (AC s)).map (SV.c ρ)).toArray:=by
 rw[←Array.toList_inj];simp only[Array.toList_map,List.map_map];exact List.map_congr_left fun x _=>AH s ρ x
theorem Aj{vs:List SV}(rd:List Nat)(ho:o.op= .call {callee:= .value (.func f),args:=xs,argTypes:=ats})(hgd: ∀ρ,Region.wanted o (yielded ops (s.act ρ).tmps)=true)
 (hx:xs.toList.map (AC s)=vs)(he: ∀args w,(callFunc f args).run P w= .ok (.enter f args) w)
 (hc: ∀ρ w,Ex w0 s rd ρ w→Calls P f (vs.map (SV.c ρ)).toArray w fun e w'=>e= .returned v∧Gw w w'):Ev P ops w0 o s ⟨.v v,.none,rd⟩:=
 .call f (fun ρ=>(vs.map (SV.c ρ)).toArray) (.v v) rd hgd (fun ρ w _=>by
  obtain⟨dst,op,type,pos,after,guard⟩:=o;simp only at ho;subst ho;rw[execOp_call_go,Eu,hx];simpa using he (vs.map (SV.c ρ)).toArray w) hc
theorem oQ{y:Value}(_hd:o.dst=some id)(ho:o.op= .call {callee:= .value (.func f),args:=xs,argTypes:=ats})(hgd: ∀ρ,Region.wanted o (yielded ops (s.act ρ).tmps)=true)
 (hx:unV (xs.toList.map (AC s))=some vs)(he: ∀args w,(callFunc f args).run P w= .ok (.enter f args) w)(cs:List Value)(ty:TypeId)
 (hc: ∀w,Gw w0 w→Calls P f vs.toArray w fun e w'=> ∃g,w.heap.size≤g∧e= .returned (.tuple #[.pointer (some ⟨g,0,none⟩),y])∧w'.heap[g]? =some (.cells cs.toArray ty (0,0))∧Gw w w'):
 Ev P ops w0 o s ⟨.tp id 0 y,.new id (cs.map .v,ty),[]⟩:=
 .callnew f (fun _=>vs.toArray) (.tp id 0 y) [] id (cs.map .v,ty) hgd (by simp[SV.has]) (fun ρ w _=>by
  obtain⟨dst,op,type,pos,after,guard⟩:=o;simp only at ho;subst ho;rw[execOp_call_go,F0 hx];simpa using he vs.toArray w) fun ρ w hs=>(hc w hs.1).mono fun e w' ⟨g,h1,h2,h3,h4⟩=>⟨g,h1,by simp[h2,SV.c],by rw[h3];simp[cellsOf,Function.comp_def,SV.c],h4⟩
theorem oG{y:Value}(ho:o.op= .extract x 0)(hgd: ∀ρ,Region.wanted o (yielded ops (s.act ρ).tmps)=true)(hx:AC s x= .tp id off y):Ev P ops w0 o s ⟨.p id off,.none,[]⟩:=
 .run _ _ hgd fun ρ w _=>by
  have e1:=AH s ρ x;rw[hx]at e1;simp[execOp,ho,e1,SV.c,Instr.extract]
theorem oF{y:Value}(ho:o.op= .extract x 1)(hgd: ∀ρ,Region.wanted o (yielded ops (s.act ρ).tmps)=true)(hx:AC s x= .tp id off y):Ev P ops w0 o s ⟨.v y,.none,[]⟩:=
 .run _ _ hgd fun ρ w _=>by
  have e1:=AH s ρ x;rw[hx]at e1;simp[execOp,ho,e1,SV.c,Instr.extract]
theorem AN{op:BinOp}{ty:TypeId}{a b c:Value}(ho:o.op= .binOp op ty x y r)(hgd: ∀ρ,Region.wanted o (yielded ops (s.act ρ).tmps)=true)(hx:AC s x= .v a)(hy:AC s y= .v b)
 (h: ∀w,(do eqGuard op ty x y a b;binOp op ty a b:Sem Value).run P w= .ok c w):Ev P ops w0 o s ⟨.v c,.none,[]⟩:=
 .run _ _ hgd fun ρ w _=>by
  have e1:=AH s ρ x;rw[hx]at e1;have e2:=AH s ρ y;rw[hy]at e2;simp only[execOp,ho,e1,e2,SV.c];rw[Sem.run_bind,h w];rfl
theorem A5{st dt:TypeId}{a c:Value}(ho:o.op= .convert st dt x)(hgd: ∀ρ,Region.wanted o (yielded ops (s.act ρ).tmps)=true)(hx:AC s x= .v a)(h: ∀w,(convert st dt a).run P w= .ok c w):Ev P ops w0 o s ⟨.v c,.none,[]⟩:=
 .run _ _ hgd fun ρ w _=>by
  have e1:=AH s ρ x;rw[hx]at e1;simp only[execOp,ho,e1,SV.c];rw[Sem.run_bind,h w];rfl
theorem Ft(ho:o.op= .call {callee:= .value (.func f),args:=xs,argTypes:=ats})(hgd: ∀ρ,Region.wanted o (yielded ops (s.act ρ).tmps)=true)
 (hx:unV (xs.toList.map (AC s))=some vs)(he: ∀w,(callFunc f vs.toArray).run P w= .ok (.value v) w):Ev P ops w0 o s ⟨.v v,.none,[]⟩:=
 .run _ _ hgd fun ρ w _=>by
  obtain⟨dst,op,type,pos,after,guard⟩:=o;simp only at ho;subst ho;rw[execOp_call_go,F0 hx];simpa[SV.c] using he w
theorem JD{vs:Array Value}(ho:o.op= .extract x i)(hgd: ∀ρ,Region.wanted o (yielded ops (s.act ρ).tmps)=true)(hx:AC s x= .v (.tuple vs))(hi0:vs.toList[i]? =some v):Ev P ops w0 o s ⟨.v v,.none,[]⟩:=
 .run _ _ hgd fun ρ w _=>by
  have e1:=AH s ρ x;rw[hx]at e1;have hi:vs[i]? =some v:=by simpa using hi0
  simp[execOp,ho,e1,SV.c,Instr.extract,hi]
theorem Qr{c:Code}(hf:P.funcs[f]? =some fn)(hname:(fn.name== "runtime.NumGoroutine")=false)(hb:fn.body=some c): ∀(args:Array Value) (w:World),(callFunc f args).run P w= .ok (.enter f args) w:=by
 intro args w;have h1:fn.name≠ "runtime.NumGoroutine" :=by simpa using hname
 simp[callFunc,hf,h1,hb,mark]
theorem eo{c:Code}(hf:P.funcs[f]? =some fn)(hn:(fn.name== "runtime.NumGoroutine")=false:=by kernel_rfl)(hb:fn.body=some c:=by rfl): ∀(args:Array Value)(w:World),(callFunc f args).run P w=.ok (.enter f args) w:=Qr hf hn hb
def CC(keep:Nat→Bool)(f:Nat→Value):Nat→List SV→List SV
 |_,[]=>[]
 |i,x::l=>(if keep i then x else .v (f i))::CC keep f (i+1) l
def VS.forget(keep:Nat→Bool)(drop:Nat)(f:Nat→Value)(s:VS):VS:=⟨CC keep f 0 s.fr,fun k=>if k=drop then none else s.mem k⟩
theorem Hi(keep:Nat→Bool)(ρ:Nat→Nat)(f:Nat→Value): ∀(l:List SV) (i:Nat),(∀j x,l[j]? =some x→f (i+j)=x.c ρ)→(CC keep f i l).map (SV.c ρ)=l.map (SV.c ρ)
 | [],_,_=>rfl
 |x::l,i,h=>by
  simp only[CC,List.map_cons];rw[Hi keep ρ f l (i+1) (fun j y hj=>by have:=h (j+1) y (by simpa using hj);rw[←this];congr 1;omega)];congr 1
  split
  ·rfl
  ·simp only[SV.c];exact h 0 x rfl
theorem Zy(keep:Nat→Bool)(drop:Nat){c:Code}{s:VS}{Q:Exit→VS→Prop}(h:VOk P w0 s c fun e s'=> ∀f,Q e (s'.forget keep drop f)):VOk P w0 s c Q:=by
 intro ρ w R hr hQ;refine h ρ w R hr ?_;intro e ρ' s' w' hq hr'
 have h1:=hQ e ρ' (s'.forget keep drop fun i=>((s'.fr[i]?).getD (.v undef)).c ρ') w' (hq _) ⟨hr'.gw,fun id b hb=>by
  simp only[VS.forget]at hb;split at hb
  ·cases hb
  ·exact hr'.own id b hb,fun i j hi hj hij=>by
  refine hr'.inj i j ?_ ?_ hij
  ·simp only[VS.forget]at hi;split at hi
   ·cases hi
   ·exact hi
  ·simp only[VS.forget]at hj;split at hj
   ·cases hj
   ·exact hj⟩
 have h2:(s'.forget keep drop fun i=>((s'.fr[i]?).getD (.v undef)).c ρ').act ρ'=s'.act ρ':=by
  simp only[VS.act,VS.forget];rw[Hi keep ρ' _ s'.fr 0 (fun j x hj=>by simp[hj])]
 rw[h2]at h1;exact h1
theorem OM(keep:Nat→Bool)(drop:Nat){c:Code}{s:VS}{Q:Exit→VS→Prop}(h: ∀f,VOk P w0 (s.forget keep drop f) c Q):VOk P w0 s c Q:=by
 intro ρ w R hr hQ
 have h1:=h (fun i=>((s.fr[i]?).getD (.v undef)).c ρ) ρ w R ⟨hr.gw,fun id b hb=>by
  simp only[VS.forget]at hb;split at hb
  ·cases hb
  ·exact hr.own id b hb,fun i j hi hj hij=>by
  refine hr.inj i j ?_ ?_ hij
  ·simp only[VS.forget]at hi;split at hi
   ·cases hi
   ·exact hi
  ·simp only[VS.forget]at hj;split at hj
   ·cases hj
   ·exact hj⟩ hQ
 have h2:(s.forget keep drop fun i=>((s.fr[i]?).getD (.v undef)).c ρ).act ρ=s.act ρ:=by
  simp only[VS.act,VS.forget];rw[Hi keep ρ _ s.fr 0 (fun j x hj=>by simp[hj])]
 rw[h2]at h1;exact h1
theorem gd{d:Nat}{l:List (Nat×Blk)}(h:l.all (fun x=>x.1 !=d)=true):(fun k=>if k=d then none else AK l k)=AK l:=by
 funext k
 by_cases e:k=d
 ·subst e
  rw[if_pos rfl]
  induction l with
  |nil=>rfl
  |cons x l ih=>
   obtain⟨j,c⟩:=x;simp only[List.all_cons,Bool.and_eq_true]at h;simp only[AK];rw[if_neg (by have:=h.1;simp at this;exact fun e=>this e.symm)];exact ih h.2
 ·simp only[if_neg e]
theorem Uv{d:Nat}{b:Blk}{l:List (Nat×Blk)}(h:l.all (fun x=>x.1 !=d)=true):(fun k=>if k=d then none else AK ((d,b)::l) k)=AK l:=by
 funext k
 by_cases e:k=d
 ·subst e
  rw[if_pos rfl]
  induction l with
  |nil=>rfl
  |cons x l ih=>
   obtain⟨j,c⟩:=x;simp only[List.all_cons,Bool.and_eq_true]at h;simp only[AK];rw[if_neg (by have:=h.1;simp at this;exact fun e=>this e.symm)];exact ih h.2
 ·simp only[if_neg e,AK]
theorem O4{b:Blk}(hs:Ex w0 s rd ρ w)(hid:id∈rd)(hm:s.mem id=some b)(off:Nat)(l:List Value)(hl:unV ((b.1.drop off).take l.length)=some l):
 ∀(j:Nat) (v:Value),l[j]? =some v→w.cell? ⟨ρ id,off+j,none⟩=some v:=by
 intro j v hj;obtain⟨_,hb⟩:=hs.2 id b hid hm;have hv:=Dy hl;have h2:((b.1.drop off).take l.length)[j]? =some (.v v):=by rw[hv];simp[hj]
 have h3:b.1[off+j]? =some (.v v):=by
  rw[List.getElem?_take]at h2;split at h2
  ·rwa [List.getElem?_drop]at h2
  ·cases h2
 simp only[World.cell?,hb,cellsOf];simp[h3,SV.c]
theorem K4{op:UnOp}{ty:TypeId}{a c:Value}(ho:o.op= .unOp op ty x)(hgd: ∀ρ,Region.wanted o (yielded ops (s.act ρ).tmps)=true)(hx:AC s x= .v a)(h: ∀w,(Op.unary op a).run P w= .ok c w):Ev P ops w0 o s ⟨.v c,.none,[]⟩:=
 .run _ _ hgd fun ρ w _=>by
  have e1:=AH s ρ x;rw[hx]at e1;simp only[execOp,ho,e1,SV.c];rw[Sem.run_bind,h w];rfl
theorem AD{R:Ending→World→Prop}(hv: ∀ρ w,Rel w0 ρ s w→(results fn (s.act ρ).tmps).run P w= .ok v w)(hR: ∀w,Gw w0 w→R (.returned v) w):
 ∀ρ w,Rel w0 ρ s w→bodyPost P fn R .ret (s.act ρ) w:=fun ρ w hr=>⟨rfl,v,hv ρ w hr,hR w hr.gw⟩
theorem FJ(t:Nat)(ρ:Nat→Nat):(s.act ρ).tmps.getD t undef=(AC s (.tmp t)).c ρ:=AH s ρ (.tmp t)
def C6(tmps:Array Value):ResultVar→Sem Value
 | .tmp t=>pure (tmps.getD t undef)
 | .cell p t=>do loadVar t (←asAddr (tmps.getD p undef))
def RV(P:Program)(s:VS)(r:ResultVar)(v:Value):Prop:=
 ∀(ρ:Nat→Nat) (w:World),(∀id b,s.mem id=some b→w.heap[ρ id]? =some (cellsOf ρ b))→(C6 (s.act ρ).tmps r).run P w=Result.ok v w
theorem AE{t:Nat}(h:AC s (.tmp t)= .v v):RV P s (.tmp t) v:=fun ρ w _=>by
 simp only[C6,FJ,h,SV.c];rfl
theorem Ad{p ty:Nat}{b:Blk}(h:AC s (.tmp p)= .p id off)(hm:s.mem id=some b)(hu:P.underlying ty=some d)(hd:Bc d=true)(hs: ∀w,(Go.sizeOf ty).run P w= .ok n w)
 (hv0:unV ((b.1.drop off).take n)=some vs)(hl:vs.length=n):RV P s (.cell p ty) (.agg vs.toArray):=fun ρ w hw=>by
 have hb:=hw id b hm;have hv:=Dy hv0
 have hl':(loadCells ⟨ρ id,off,none⟩ vs.length).run P w= .ok vs.toArray w:=run_loadCells_list w _ vs fun j v hj=>by
  rw[BX];simp only[World.cell?,hb,cellsOf];have h2:((b.1.drop off).take n)[j]? =some (.v v):=by rw[hv];simp[hj]
  have h3:b.1[off+j]? =some (.v v):=by
   rw[List.getElem?_take]at h2;split at h2
   ·rwa [List.getElem?_drop]at h2
   ·cases h2
  simp[h3,SV.c]
 rw[hl]at hl';simp only[C6,FJ,h,SV.c];simp[asAddr,loadVar,Bu hu,hd,hs,hl']
theorem GI(fn:Func)(tmps:Array Value):results fn tmps=(do let vs←fn.results.mapM (C6 tmps);pure (if h:vs.size=1 then vs[0]else .tuple vs)):=by
 unfold results;congr 1
theorem AM{r:ResultVar}(hf:fn.results= #[r])(h:RV P s r v): ∀ρ w,Rel w0 ρ s w→(results fn (s.act ρ).tmps).run P w= .ok v w:=fun ρ w hr=>by
 have h1:=h ρ w fun id b hb=>(hr.own id b hb).2
 rw[GI,hf];simp[h1]
theorem Av{r r':ResultVar}{v':Value}(hf:fn.results= #[r,r'])(h:RV P s r v)(h':RV P s r' v'): ∀ρ w,Rel w0 ρ s w→(results fn (s.act ρ).tmps).run P w= .ok (.tuple #[v,v']) w:=fun ρ w hr=>by
 have h1:=h ρ w fun id b hb=>(hr.own id b hb).2
 have h2:=h' ρ w fun id b hb=>(hr.own id b hb).2
 rw[GI,hf];simp[h1,h2]
theorem eN{R:Ending→World→Prop}{a c:Nat}{y:Value}{b:Blk}{cs:List Value}(hf:fn.results= #[.tmp a,.tmp c])(ha:AC s (.tmp a)= .p id 0)(hc:AC s (.tmp c)= .v y)(hm:s.mem id=some b)(hb:unV b.1=some cs)
 (hR: ∀g w,w0.heap.size≤g→w.heap[g]? =some (.cells cs.toArray b.2 (0,0))→Gw w0 w→R (.returned (.tuple #[.pointer (some ⟨g,0,none⟩),y])) w): ∀ρ w,Rel w0 ρ s w→bodyPost P fn R .ret (s.act ρ) w:=fun ρ w hr=>by
 obtain⟨h1,h2⟩:=hr.own id b hm;refine⟨rfl,_,?_,hR (ρ id) w h1 (by rw[h2];simp[cellsOf,Dy hb,Function.comp_def,SV.c]) hr.gw⟩;rw[GI,hf];have e1:(C6 (s.act ρ).tmps (.tmp a)).run P w= .ok (.pointer (some ⟨ρ id,0,none⟩)) w:=by simp only[C6,FJ,ha,SV.c];rfl
 have e2:(C6 (s.act ρ).tmps (.tmp c)).run P w= .ok y w:=by simp only[C6,FJ,hc,SV.c];rfl
 simp[e1,e2]
theorem KH(fr:List SV)(m:Nat→Option Blk)(t:Nat):AC ⟨fr,m⟩ (.tmp t)=(fr[t]?).getD (.v undef):=rfl
theorem KQ(s:VS)(v:Value):AC s (.const v)= .v v:=rfl
theorem KO(s:VS)(g:Nat):AC s (.global g)= .v (.pointer (some ⟨g,0,none⟩)):=rfl
theorem KP(s:VS)(f:FuncId):AC s (.func f)= .v (.func (.func f) #[] #[]):=rfl
theorem KM(id:Nat)(b:Blk):DU [] id b=[(id,b)]:=rfl
theorem KL(k:Nat)(c:Blk)(l:List (Nat×Blk))(id:Nat)(b:Blk):DU ((k,c)::l) id b=if k=id then(id,b)::l else(k,c)::DU l id b:=rfl
theorem KS(cs:Array Value):Value.cells (.agg cs)=cs:=rfl
theorem KN(k:IntKind)(n:Int):Value.cells (.int k n)= #[.int k n]:=rfl
theorem KR(b:Bool):Value.cells (.bool b)= #[.bool b]:=rfl
theorem KJ(a:Option Addr):Value.cells (.pointer a)= #[.pointer a]:=rfl
theorem KI(a:Option Addr)(l c:Nat):Value.cells (.slice a l c)= #[.slice a l c]:=rfl
theorem nm:(type_of%(KB))∧(type_of%(Tt))∧(type_of%(KA))∧(type_of%(Kz))∧(type_of%(K0))∧(type_of%(@List.set_cons_zero SV))∧(type_of%(@List.set_cons_succ SV))∧(type_of%(KH))∧(type_of%(KQ))∧(type_of%(KO))∧(type_of%(KP))∧(type_of%(@List.getElem?_cons_zero SV))∧(type_of%(@List.getElem?_cons_succ SV))∧(type_of%(@List.getElem?_cons_zero Value))∧(type_of%(@List.getElem?_cons_succ Value))∧(type_of%(@Option.getD_some SV))∧(type_of%(@List.take_succ_cons SV))∧(type_of%(@List.take_zero SV))∧(type_of%(@List.drop_succ_cons SV))∧(type_of%(@List.drop_zero SV))∧(type_of%(@List.cons_append SV))∧(type_of%(@List.nil_append SV))∧(type_of%(@List.append_nil SV))∧(type_of%(@List.map_cons Value SV))∧(type_of%(@List.map_nil Value SV))∧(type_of%(KM))∧(type_of%(KL))∧(type_of%(KS))∧(type_of%(KN))∧(type_of%(KR))∧(type_of%(KJ))∧(type_of%(KI))∧(type_of%(@Int.toNat_natCast))∧(type_of%(@Nat.zero_add))∧(type_of%(@Nat.add_zero))∧(type_of%(@Nat.mul_one))∧(type_of%(@Af)):=
 ⟨KB,Tt,KA,Kz,K0,@List.set_cons_zero SV,@List.set_cons_succ SV,KH,KQ,KO,KP,@List.getElem?_cons_zero SV,@List.getElem?_cons_succ SV,@List.getElem?_cons_zero Value,@List.getElem?_cons_succ Value,@Option.getD_some SV,@List.take_succ_cons SV,@List.take_zero SV,@List.drop_succ_cons SV,@List.drop_zero SV,@List.cons_append SV,@List.nil_append SV,@List.append_nil SV,@List.map_cons Value SV,@List.map_nil Value SV,KM,KL,KS,KN,KR,KJ,KI,@Int.toNat_natCast,@Nat.zero_add,@Nat.add_zero,@Nat.mul_one,@Af⟩
theorem gn(hg:o.guard=none)(ρ:Nat→Nat):Region.wanted o (yielded ops (s.act ρ).tmps)=true:=OG hg _
theorem gg(hg:o.guard=none:=by rfl)(ρ:Nat→Nat):Region.wanted o (yielded ops (s.act ρ).tmps)=true:=gn hg ρ
end
end Go.Toll
namespace Go.Proofs.YtefpajmkaaielaaGreatDoor
open Go.RowKit Go.Toll
variable{ops:Array Oper}{id:Nat}{o:Oper}{P:Program}{A B Q:Prop}{w0:World}
abbrev q4y(l:Nat→Nat→Nat)(u:Nat):Value:=.agg #[.int .u64 (l u 0:Nat),.int .u64 (l u 1:Nat),.int .u64 (l u 2:Nat),.int .u64 (l u 3:Nat)]
abbrev A4y(a b c d:Nat):Value:=.agg #[.int .u64 (a:Nat),.int .u64 (b:Nat),.int .u64 (c:Nat),.int .u64 (d:Nat)]
abbrev CGy(k:FuncId)(a:Array Value)(w:World)(v:Value):Prop:=Calls prog k a w fun e w'=>e= .returned v∧Gw w w'
abbrev BOy(o:BinOp)(t:TypeId)(a b c:Value):Prop:=∀(p q:Operand)(w:World),(do eqGuard o t p q a b;binOp o t a b:Sem Value).run prog w= .ok c w
def t_K(P:Program)(ops:Array Oper)(w0:World)(l:List Oper)(s:VS)(R:List Eff→VS→Prop):Prop:= ∃E s',VE P ops w0 l E s s'∧R E s'
theorem t_n{s:VS}{R:List Eff→VS→Prop}(h:R [] s):t_K P ops w0 [] s R:=⟨[],s,.nil s,h⟩
theorem t_c{l:List Oper}{s s1:VS}{e:Eff}{R:List Eff→VS→Prop}(h:Ev P ops w0 o s e)(hs:s.put o.dst e=s1)(r:t_K P ops w0 l s1 (fun E s'=>R (e::E) s')):t_K P ops w0 (o::l) s R:=by
 subst hs;obtain⟨E,s',h1,h2⟩:=r;exact⟨_,_,.cons h h1,h2⟩
theorem t_p{l:List Oper}{fr:List SV}{m:List (Nat×Blk)}{Q:Exit→VS→Prop}(h:t_K P l.toArray w0 l ⟨fr,AK m⟩ fun E s'=>(l.all (fun o=> !Dg o.op) && Co E && Ej fr m E)=true∧Q .normal s'):VOk P w0 ⟨fr,AK m⟩ (.region id l.toArray false) Q:=by
 obtain⟨E,s',h1,h2,h3⟩:=h;exact vrp h1 h2 h3
theorem t_d{l:List Oper}{fr:List SV}{m:List (Nat×Blk)}{Q:Exit→VS→Prop}(hm:P.follows .mixedOrders=true)(h:t_K P l.toArray w0 l ⟨fr,AK m⟩ fun E s'=>(veB l.toArray l E && Ej fr m E)=true∧Q .normal s'):VOk P w0 ⟨fr,AK m⟩ (.region id l.toArray true) Q:=by
 obtain⟨E,s',h1,h2,h3⟩:=h;exact vrd hm h1 h2 h3
theorem t_s{l:List Oper}{s s1:VS}{e:Eff}{R:List Eff→VS→Prop}(h:Ev P ops w0 o s e)(r:t_K P ops w0 l s1 (fun E s'=>R (e::E) s'))(hs:s.put o.dst e=s1:=by first|(simp only[nm,seval];exact rfl)|exact rfl):t_K P ops w0 (o::l) s R:=t_c h hs r
theorem t_i{l:List Oper}{s s1:VS}{e:Eff}{R:List Eff→VS→Prop}(h:Ev P ops w0 o s e)(hb:B→t_K P ops w0 l s1 (fun E s'=>R (e::E) s'))(hs:s.put o.dst e=s1:=by first|(simp only[nm,seval];exact rfl)|exact rfl):B→t_K P ops w0 (o::l) s R:=fun b=>t_c h hs (hb b)
theorem AV{l:List Oper}{s s1:VS}{e:Eff}{R:List Eff→VS→Prop}(h:Ev P ops w0 o s e)(r:t_K P ops w0 l s1 (fun E s'=>R (e::E) s'))(hs:s.put o.dst e=s1:=by first|(simp only[nm2,seval];exact rfl)|exact rfl):t_K P ops w0 (o::l) s R:=t_c h hs r
theorem Ba{l:List Oper}{s s1:VS}{e:Eff}{R:List Eff→VS→Prop}(h:Ev P ops w0 o s e)(hb:B→t_K P ops w0 l s1 (fun E s'=>R (e::E) s'))(hs:s.put o.dst e=s1:=by first|(simp only[nm2,seval];exact rfl)|exact rfl):B→t_K P ops w0 (o::l) s R:=fun b=>t_c h hs (hb b)
theorem t_0(b:B)(c:B→A:=by exact Ba (by first|exact Dw rfl gg rfl rfl underlying96 rfl sizeOf96 rfl rfl|exact CS rfl gg rfl underlying96 rfl sizeOf96 (by assumption) rfl) id):A:=c b
theorem t_1(b:B)(c:B→A:=by exact t_i (by refine El gg (fun ρ w=>by simp only[VS.act,SV.c,List.map_cons,List.map_nil];go_simp;exact rfl) (fun _ _=>rfl)) id):A:=c b
theorem t_2(b:B)(c:B→A:=by exact Ba (by first|exact Cl rfl gg rfl rfl underlying94 rfl rfl|exact Ck rfl gg rfl underlying94 rfl (by first|assumption|exact hm 0 _ rfl|exact hm 1 _ rfl|exact hm 2 _ rfl|exact hm 3 _ rfl)) id):A:=c b
theorem t_3(b:B)(c:B→A:=by exact t_i (by first|exact Dw rfl gg rfl rfl underlying96 rfl sizeOf96 rfl rfl|exact CS rfl gg rfl underlying96 rfl sizeOf96 (by assumption) rfl) id):A:=c b
theorem t_4(b:B)(c:B→A:=by exact t_i (by first|exact Cl rfl gg rfl rfl underlying22 rfl rfl|exact Ck rfl gg rfl underlying22 rfl (by first|assumption|exact hm 0 _ rfl|exact hm 1 _ rfl|exact hm 2 _ rfl|exact hm 3 _ rfl)) id):A:=c b
theorem t_6(b:B)(c:B→A:=by exact Ba (by first|exact Cn rfl gg rfl underlying133 rfl sizeOf94|exact Cm rfl gg rfl underlying133 rfl sizeOf94) id):A:=c b
theorem t_7(b:B)(c:B→A:=by exact Ba (by first|exact Cn rfl gg rfl underlying137 rfl sizeOf96|exact Cm rfl gg rfl underlying137 rfl sizeOf96) id):A:=c b
theorem t_8(b:B)(c:B→A:=by exact t_i (by first|exact Gk rfl gg rfl rfl underlying96 sizeOf22 (by decide) (by decide)|exact Gj rfl gg rfl rfl underlying96 sizeOf22 (by decide) (by decide)) id):A:=c b
theorem t_9(b:B)(c:B→A:=by exact t_i (by exact Be rfl gg rfl rfl rfl sizeOf96 rfl (by simp) rfl) id):A:=c b
theorem GF(b:B)(c:B→A:=by exact Ba (by exact Be rfl gg rfl rfl rfl sizeOf96 rfl (by simp) rfl) id):A:=c b
theorem Dp(b:B)(c:B→A:=by exact t_i (by first|exact Gk rfl gg rfl rfl underlying177 sizeOf22 (by decide) (by decide)|exact Gj rfl gg rfl rfl underlying177 sizeOf22 (by decide) (by decide)) id):A:=c b
theorem CU(b:B)(c:B→A:=by exact Ba (by exact Bq rfl rfl gg zeroValue96) id):A:=c b
theorem Js(b:B)(c:B→A:=by exact t_i (by first|exact Ev.skip (fun _=>rfl)|refine El (fun _=>rfl) (fun ρ w=>by simp only[VS.act,SV.c,List.map_cons,List.map_nil];go_simp;exact rfl) (fun _ _=>rfl)) id):A:=c b
theorem FY(b:B)(c:B→A:=by exact Ba (by first|exact Dw rfl gg rfl rfl underlying133 rfl sizeOf133 rfl rfl|exact CS rfl gg rfl underlying133 rfl sizeOf133 (by assumption) rfl) id):A:=c b
theorem E2(b:B)(c:B→A:=by exact t_i (by exact Bq rfl rfl gg zeroValue96) id):A:=c b
theorem D2(b:B)(c:B→A:=by exact t_i (by first|exact Cn rfl gg rfl underlying150 rfl sizeOf96|exact Cm rfl gg rfl underlying150 rfl sizeOf96) id):A:=c b
theorem FX(b:B)(c:B→A:=by exact Ba (by first|exact Dw rfl gg rfl rfl underlying46 rfl sizeOf46 rfl rfl|exact CS rfl gg rfl underlying46 rfl sizeOf46 (by assumption) rfl) id):A:=c b
theorem IP(b:B)(c:B→A:=by exact Ba (by first|exact Ev.skip (fun _=>rfl)|exact Dw rfl (fun _=>rfl) rfl rfl underlying96 rfl sizeOf96 rfl rfl|exact CS rfl (fun _=>rfl) rfl underlying96 rfl sizeOf96 (by assumption) rfl) id):A:=c b
theorem G9(b:B)(c:B→A:=by exact Ba (by first|exact Dw rfl gg rfl rfl underlying137 rfl sizeOf137 rfl rfl|exact CS rfl gg rfl underlying137 rfl sizeOf137 (by assumption) rfl) id):A:=c b
theorem GD(b:B)(c:B→A:=by exact Ba (by first|exact Cn rfl gg rfl underlying87 rfl sizeOf46|exact Cm rfl gg rfl underlying87 rfl sizeOf46) id):A:=c b
theorem GC(b:B)(c:B→A:=by exact t_i (by exact Be rfl gg rfl rfl rfl sizeOf22 rfl (by simp) rfl) id):A:=c b
theorem Jr(b:B)(c:B→A:=by exact Ba (by exact Be rfl gg rfl rfl rfl sizeOf137 rfl (by simp) rfl) id):A:=c b
theorem Jq(b:B)(c:B→A:=by exact Ba (by first|exact Dw rfl gg rfl rfl underlying87 rfl sizeOf87 rfl rfl|exact CS rfl gg rfl underlying87 rfl sizeOf87 (by assumption) rfl) id):A:=c b
theorem bD(b:B)(c:B→A:=by exact t_i (by first|exact AN rfl gg rfl rfl (fun w=>hmm _ _ _ _ w)|exact AN rfl gg rfl rfl (fun w=>hmm1 _ _ _ w)) id):A:=c b
theorem IM(b:B)(c:B→A:=by exact t_i (by first|exact AN rfl gg rfl rfl (fun w=>hmu _ _ _ w)|exact AN rfl gg rfl rfl (fun w=>hmu1 _ _ w)) id):A:=c b
theorem C5(b:B)(c:B→A:=by exact Ba (by exact Ar rfl gg rfl (Yh)) id):A:=c b
theorem bC(b:B)(c:B→A:=by exact t_i (by first|exact Ev.skip (fun _=>rfl)|exact Hj rfl (fun _=>rfl)) id):A:=c b
theorem G8(b:B)(c:B→A:=by exact Ba (by exact nt rfl gg rfl rfl underlying133 rfl sizeOf133 rfl) id):A:=c b
theorem bB(b:B)(c:B→A:=by exact t_i (by first|exact Ev.skip (fun _=>rfl)|exact Dw rfl (fun _=>rfl) rfl rfl underlying96 rfl sizeOf96 rfl rfl|exact CS rfl (fun _=>rfl) rfl underlying96 rfl sizeOf96 (by assumption) rfl) id):A:=c b
theorem Lz(b:B)(c:B→A:=by exact Ba (by exact Bq rfl rfl gg zeroValue137) id):A:=c b
theorem On(b:B)(c:B→A:=by exact Ba (by first|exact Ev.skip (fun _=>rfl)|exact Cn rfl (fun _=>rfl) rfl underlying137 rfl sizeOf96|exact Cm rfl (fun _=>rfl) rfl underlying137 rfl sizeOf96) id):A:=c b
theorem bA(b:B)(c:B→A:=by exact t_i (by exact AS rfl gg rfl (eo func75) hs) id):A:=c b
theorem a9(b:B)(c:B→A:=by exact t_i (by first|exact Gk rfl gg rfl rfl underlying46 sizeOf5 (by decide) (by decide)|exact Gj rfl gg rfl rfl underlying46 sizeOf5 (by decide) (by decide)) id):A:=c b
theorem Ly(b:B)(c:B→A:=by exact t_i (by first|exact Ev.skip (fun _=>rfl)|exact Dh (p:=false) rfl (fun _=>rfl) rfl rfl h1) id):A:=c b
theorem Jo(b:B)(c:B→A:=by exact t_i (by exact AS rfl gg rfl (eo func40) h2) id):A:=c b
theorem Jn(b:B)(c:B→A:=by exact Ba (by exact Be rfl gg rfl rfl rfl sizeOf87 rfl (by simp) rfl) id):A:=c b
theorem IL(b:B)(c:B→A:=by exact Ba (by exact AN rfl gg rfl rfl (fun w=>Gy hz _ _ w)) id):A:=c b
theorem Se(b:B)(c:B→A:=by exact t_i (by first|exact Dw rfl gg rfl rfl underlying46 rfl sizeOf46 rfl rfl|exact CS rfl gg rfl underlying46 rfl sizeOf46 (by assumption) rfl) id):A:=c b
theorem Sd(b:B)(c:B→A:=by exact Ba (by first|exact Ev.skip (fun _=>rfl)|refine El (fun _=>rfl) (fun ρ w=>by simp only[VS.act,SV.c,List.map_cons,List.map_nil];go_simp;exact rfl) (fun _ _=>rfl)) id):A:=c b
theorem IK(b:B)(c:B→A:=by exact t_i (by exact AN rfl gg rfl rfl (fun w=>hs2b _ _ _ w)) id):A:=c b
theorem Om(b:B)(c:B→A:=by exact Ba (by exact AS rfl gg rfl (eo func44) (fun w' hw'=>Re _ _ w' (ha.gw hw'))) id):A:=c b
theorem Ol(b:B)(c:B→A:=by exact Ba (by exact AS rfl gg rfl (eo func76) (fun w' hw'=>E3 e83 w' (ha.gw hw'))) id):A:=c b
theorem Oj(b:B)(c:B→A:=by exact Ba (by exact AS rfl gg rfl (eo func76) (fun w' hw'=>E3 e88 w' (ha.gw hw'))) id):A:=c b
theorem Oi(b:B)(c:B→A:=by exact Ba (by exact AS rfl gg rfl (eo func43) (fun w' hw'=>B3 e37 w' (ha.gw hw'))) id):A:=c b
theorem Oh(b:B)(c:B→A:=by exact Ba (by exact AS rfl gg rfl (eo func43) (fun w' hw'=>B3 e44 w' (ha.gw hw'))) id):A:=c b
theorem Og(b:B)(c:B→A:=by exact Ba (by exact AS rfl gg rfl (eo func43) (fun w' hw'=>B3 e50 w' (ha.gw hw'))) id):A:=c b
theorem Of(b:B)(c:B→A:=by exact Ba (by exact AS rfl gg rfl (eo func43) (fun w' hw'=>B3 e56 w' (ha.gw hw'))) id):A:=c b
theorem Oe(b:B)(c:B→A:=by exact Ba (by exact AS rfl gg rfl (eo func43) (fun w' hw'=>B3 e66 w' (ha.gw hw'))) id):A:=c b
theorem Od(b:B)(c:B→A:=by exact Ba (by exact AS rfl gg rfl (eo func43) (fun w' hw'=>B3 e67 w' (ha.gw hw'))) id):A:=c b
theorem Oc(b:B)(c:B→A:=by exact Ba (by exact AS rfl gg rfl (eo func43) (fun w' hw'=>B3 e77 w' (ha.gw hw'))) id):A:=c b
theorem Ob(b:B)(c:B→A:=by exact Ba (by exact AS rfl gg rfl (eo func43) (fun w' hw'=>B3 e78 w' (ha.gw hw'))) id):A:=c b
theorem Oa(b:B)(c:B→A:=by exact Ba (by exact AS rfl gg rfl (eo func43) (fun w' hw'=>Uh _ _ w' (ha.gw hw'))) id):A:=c b
theorem Sc(b:B)(c:B→A:=by exact t_i (by exact Aj [21] rfl gg rfl (eo func78) (fun ρ w' hs'=>hsh _ _ _ hlt hRn w' (ρ 21) (O4 hs' (by simp) rfl 0 _ rfl))) id):A:=c b
theorem Lx(b:B)(c:B→A:=by exact Ba (by exact CS rfl gg rfl underlying96 rfl sizeOf96 (hL.pp) rfl) id):A:=c b
theorem Lw(b:B)(c:B→A:=by exact t_i (by exact AN rfl gg rfl rfl (fun w=>(hnz _ _ _ w).trans (by rw[hz]))) id):A:=c b
theorem Lv(b:B)(c:B→A:=by exact t_i (by exact AS rfl gg rfl (eo func40) h1) id):A:=c b
theorem OZ(b:B)(c:B→A:=by exact Ba (by first|exact Ev.skip (fun _=>rfl)|exact Ar rfl (fun _=>rfl) rfl (Yh)) id):A:=c b
theorem Lu(b:B)(c:B→A:=by exact t_i (by exact A4 (p:=false) rfl gg rfl rfl h0) id):A:=c b
theorem az(b:B)(c:B→A:=by exact Ba (by exact Bq rfl rfl gg zeroValue87) id):A:=c b
theorem Lt(b:B)(c:B→A:=by exact t_i (by exact AN rfl gg rfl rfl (fun w=>hq _ _ w)) id):A:=c b
theorem Ls(b:B)(c:B→A:=by exact t_i (by exact AN rfl gg rfl rfl (fun w=>hr _ _ w)) id):A:=c b
theorem Lr(b:B)(c:B→A:=by exact t_i (by exact AN rfl gg rfl rfl (fun w=>hs _ _ w)) id):A:=c b
theorem Lq(b:B)(c:B→A:=by exact t_i (by exact AN rfl gg rfl rfl (fun w=>ha _ _ w)) id):A:=c b
theorem t_k{P:Prop}(h:Q)(c:Q→P:=by
 intro h'q;first
 |(refine t_s (by first|exact Hj rfl gg|exact JJ rfl gg|exact JI rfl rfl gg rfl|exact JD rfl gg rfl rfl|exact K7 rfl gg rfl rfl|exact I8 rfl gg rfl rfl|exact I9 rfl gg rfl rfl|exact Fq rfl gg rfl|exact JB rfl gg rfl|exact JA rfl gg rfl) ?_;exact h'q)
 |(refine t_n ⟨by kernel_rfl,?_⟩;(try change VOk _ _ _ _ _);exact h'q)
 |(refine H8 ?_;exact h'q)
 |(refine t_p ?_;exact h'q)
 |(refine t_d (by kernel_rfl) ?_;exact h'q)
 |(refine H6 ?_;(try change VOk _ _ _ _ _);exact h'q)
 |(refine IB ?_;exact h'q)
 |(refine H9 rfl ?_;exact h'q)
 |(refine IA rfl ?_;exact h'q)):P:=c h
theorem BC{P:Prop}(h:Q)(c:Q→P:=by
 intro h'q;first
 |(refine AV (by first|exact Hj rfl gg|exact JJ rfl gg|exact JI rfl rfl gg rfl|exact JD rfl gg rfl rfl|exact K7 rfl gg rfl rfl|exact I8 rfl gg rfl rfl|exact I9 rfl gg rfl rfl|exact Fq rfl gg rfl|exact JB rfl gg rfl|exact JA rfl gg rfl) ?_;exact h'q)
 |(refine t_n ⟨by kernel_rfl,?_⟩;(try change VOk _ _ _ _ _);exact h'q)
 |(refine H8 ?_;exact h'q)
 |(refine t_p ?_;exact h'q)
 |(refine t_d (by kernel_rfl) ?_;exact h'q)
 |(refine H6 ?_;(try change VOk _ _ _ _ _);exact h'q)
 |(refine IB ?_;exact h'q)
 |(refine H9 rfl ?_;exact h'q)
 |(refine IA rfl ?_;exact h'q)):P:=c h
theorem D1(b:B)(c:B→A:=by intro b;refine OQ ?_;simp only[List.map_cons,List.map_nil];exact b):A:=c b
theorem Ci(b:B)(c:B→A:=by intro b;change VOk _ _ _ _ _;(iterate 2 refine t_k ?_);exact b):A:=c b
theorem EF(b:B)(c:B→A:=by intro b;refine t_k ?_;refine AG ?_;exact b):A:=c b
theorem am(b:B)(c:B→A:=by intro b;(iterate 2 refine GF ?_);(iterate 3 refine t_k ?_);exact b):A:=c b
theorem Dz(b:B)(c:B→A:=by intro b;refine t_1 ?_;(iterate 6 refine t_k ?_);exact b):A:=c b
theorem Ez(b:B)(c:B→A:=by intro b;refine t_1 ?_;(iterate 4 refine t_k ?_);exact b):A:=c b
theorem EZ(b:B)(c:B→A:=by intro b;refine D1 ?_;(iterate 3 refine t_k ?_);exact b):A:=c b
theorem EY(b:B)(c:B→A:=by intro b;refine D1 ?_;(iterate 4 refine BC ?_);exact b):A:=c b
theorem E1(b:B)(c:B→A:=by intro b;refine t_1 ?_;(iterate 2 refine t_k ?_);exact b):A:=c b
theorem Dd(b:B)(c:B→A:=by intro b;refine t_9 ?_;refine EF ?_;exact b):A:=c b
theorem GB(b:B)(c:B→A:=by intro b;refine E2 ?_;refine t_9 ?_;exact b):A:=c b
theorem an(b:B)(c:B→A:=by intro b;refine GF ?_;(iterate 3 refine t_k ?_);exact b):A:=c b
theorem FW(b:B)(c:B→A:=by intro b;refine t_1 ?_;(iterate 3 refine t_k ?_);exact b):A:=c b
theorem GA(b:B)(c:B→A:=by intro b;refine D1 ?_;(iterate 4 refine t_k ?_);exact b):A:=c b
theorem Jm(b:B)(c:B→A:=by intro b;refine D1 ?_;(iterate 9 refine t_k ?_);exact b):A:=c b
theorem IJ(b:B)(c:B→A:=by intro b;refine E2 ?_;(iterate 5 refine t_k ?_);exact b):A:=c b
theorem II(b:B)(c:B→A:=by intro b;(iterate 2 refine GF ?_);(iterate 4 refine t_k ?_);exact b):A:=c b
theorem G7(b:B)(c:B→A:=by intro b;refine t_1 ?_;(iterate 5 refine t_k ?_);exact b):A:=c b
theorem G6(b:B)(c:B→A:=by intro b;refine t_1 ?_;(iterate 8 refine t_k ?_);exact b):A:=c b
theorem G5(b:B)(c:B→A:=by intro b;refine GB ?_;(iterate 6 refine t_k ?_);exact b):A:=c b
theorem F9(b:B)(c:B→A:=by intro b;refine t_k ?_;refine bC ?_;exact b):A:=c b
theorem Ea(b:B)(c:B→A:=by intro b;refine am ?_;refine t_6 ?_;exact b):A:=c b
theorem E0(b:B)(c:B→A:=by intro b;refine Jr ?_;refine EF ?_;exact b):A:=c b
theorem IH(b:B)(c:B→A:=by intro b;refine E2 ?_;(iterate 3 refine t_k ?_);exact b):A:=c b
theorem IG(b:B)(c:B→A:=by intro b;refine bA ?_;(iterate 3 refine t_k ?_);exact b):A:=c b
theorem IE(b:B)(c:B→A:=by intro b;refine bD ?_;(iterate 3 refine t_k ?_);exact b):A:=c b
theorem IC(b:B)(c:B→A:=by intro b;refine t_9 ?_;(iterate 2 refine t_k ?_);exact b):A:=c b
theorem Lp(b:B)(c:B→A:=by intro b;refine t_1 ?_;(iterate 7 refine t_k ?_);exact b):A:=c b
theorem FU(b:B)(c:B→A:=by intro b;refine CU ?_;refine an ?_;exact b):A:=c b
theorem Jl(b:B)(c:B→A:=by intro b;refine E2 ?_;(iterate 4 refine t_k ?_);exact b):A:=c b
theorem Jk(b:B)(c:B→A:=by intro b;refine GC ?_;(iterate 3 refine t_k ?_);exact b):A:=c b
theorem Jj(b:B)(c:B→A:=by intro b;refine Lz ?_;(iterate 4 refine t_k ?_);exact b):A:=c b
theorem Ji(b:B)(c:B→A:=by intro b;refine Lz ?_;(iterate 5 refine t_k ?_);exact b):A:=c b
theorem Jh(b:B)(c:B→A:=by intro b;refine az ?_;(iterate 3 refine t_k ?_);exact b):A:=c b
theorem Jg(b:B)(c:B→A:=by intro b;refine D1 ?_;(iterate 5 refine BC ?_);exact b):A:=c b
end Go.Proofs.YtefpajmkaaielaaGreatDoor
