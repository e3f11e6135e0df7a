import Derived.WalkKit
import Derived.WalkSpells
import Derived.WalkLawsBesides
import Derived.Deep.RegionHeld3
import Derived.StillTail
import Derived.Test.YtafbhakmkbehiaaGreatDoorProg
open Go.Proofs.Tryz
namespace Go.Toll
open Go.RowKit
variable{listed:Array Bool}{ops:Array Oper}{Q:Exit→Act→World→Prop}{i id k r:Nat}{β γ:Nat→Bool}{ρ:Nat→Nat}{o:Oper}{x:Operand}{d:Option Nat}{P:Program}{w w0:World}
structure Gw(w w':World):Prop where
 b:Below w.heap.size w w'
 f: ∀a,w'.frozen? a=w.frozen? a
theorem Gw.refl(w:World):Gw w w:=⟨Below.refl _ _,fun _=>rfl⟩
theorem Gw.trans{a b c:World}(h:Gw a b)(k:Gw b c):Gw a c:=⟨h.b.trans (k.b.mono h.b.size),fun x=>(k.f x).trans (h.f x)⟩
theorem Gw.drew{a w:World}(h:Gw a w):Gw a w.drew:=⟨h.b.drew,h.f⟩
theorem Gw.alloc{a w:World}(h:Gw a w)(c:Array Value)(t:TypeId):Gw a (w.alloc (.cells c t)):=
 ⟨h.b.alloc h.b.size _,fun x=>(frozen?_alloc_cells _ _ _ x).trans (h.f x)⟩
theorem Gw.setCell{a w:World}(h:Gw a w){p:Addr}(hp:a.heap.size≤p.block)(u:Value):Gw a (w.setCell p u):=
 ⟨h.b.setCell hp u,fun x=>(World.frozen?_setCell _ _ _ _).trans (h.f x)⟩
theorem Gw.cell{w w':World}(h:Gw w w'){a:Addr}{v:Value}(hc:w.cell? a=some v):w'.cell? a=some v:=
 (h.b.cell (World.block_lt_of_cell? _ _ hc)).trans hc
theorem Gw.froz{w':World}(h:Gw w w'){a:Addr}(hc:w.frozen? a=false):w'.frozen? a=false:=(h.f a).trans hc
inductive SV where
 |v (x:Value)
 |p (id off:Nat)
 |s (id off len cap:Nat)
 |tp (id off:Nat) (y:Value)
 |ap (id off:Nat)
deriving Inhabited
def SV.c(ρ:Nat→Nat):SV→Value
 | .v x=>x
 | .p id off=> .pointer (some ⟨ρ id,off,none⟩)
 | .s id off len cap=> .slice (some ⟨ρ id,off,none⟩) len cap
 | .tp id off y=> .tuple #[.pointer (some ⟨ρ id,off,none⟩),y]
 | .ap id off=> .agg #[.pointer (some ⟨ρ id,off,none⟩)]
def SV.has(id:Nat):SV→Bool
 | .v _=>false
 | .p k _=>k==id
 | .s k _ _ _=>k==id
 | .tp k _ _=>k==id
 | .ap k _=>k==id
abbrev Blk:=List SV×TypeId
structure VS where
 fr:List SV
 mem:Nat→Option Blk
def VS.act(s:VS)(ρ:Nat→Nat):Act:=⟨(s.fr.map (SV.c ρ)).toArray,[]⟩
def cellsOf(ρ:Nat→Nat)(b:Blk):Obj:= .cells (b.1.map (SV.c ρ)).toArray b.2 (0,0)
structure Rel(w0:World)(ρ:Nat→Nat)(s:VS)(w:World):Prop where
 gw:Gw w0 w
 own: ∀id b,s.mem id=some b→w0.heap.size≤ρ id∧w.heap[ρ id]? =some (cellsOf ρ b)
 inj: ∀i j,(s.mem i).isSome→(s.mem j).isSome→ρ i=ρ j→i=j
inductive MW where
 |none
 |new (id:Nat) (b:Blk)
 |wr (id:Nat) (b:Blk)
def MW.tgt:MW→Option Nat
 | .none=>Option.none
 | .new id _=>some id
 | .wr id _=>some id
def BC(m:Nat→Option Blk):MW→(Nat→Option Blk)
 | .none=>m
 | .new id b=>fun k=>if k=id then some b else m k
 | .wr id b=>fun k=>if k=id then some b else m k
structure Eff where
 val:SV
 mw:MW
 rd:List Nat
def Bb(l:List SV)(d:Option Nat)(x:SV):List SV:=match d with|some d=>l.set d x|none=>l
def VS.put(s:VS)(d:Option Nat)(e:Eff):VS:=⟨Bb s.fr d e.val,BC s.mem e.mw⟩
def MW.has(id:Nat):MW→Bool
 | .none=>false
 | .new _ b=>b.1.any (SV.has id)
 | .wr _ b=>b.1.any (SV.has id)
def Eff.has(id:Nat)(e:Eff):Bool:=e.val.has id||e.mw.has id
def MW.newId:MW→Option Nat
 | .new id _=>some id
 |_=>Option.none
theorem Jd{l:List SV}{x:SV}(h:d≠some k):(Bb l d x)[k]? =l[k]? :=by
 cases d with
 |none=>rfl
 |some d=>simp only[Bb];rw[List.getElem?_set_ne (by intro e;exact h (by rw[e]))]
theorem Tn(l:List SV)(d:Option Nat)(x:SV):(Bb l d x).length=l.length:=by cases d<;>simp[Bb]
theorem To(l:List SV){e:Option Nat}(x y:SV)(h: ∀k,d=some k→e≠some k):Bb (Bb l d x) e y=Bb (Bb l e y) d x:=by
 cases d with
 |none=>rfl
 |some d=>
  cases e with
  |none=>rfl
  |some e=>simp only[Bb];rw[List.set_comm];intro he;exact h d rfl (by rw[he])
theorem Dc{m:Nat→Option Blk}{u:MW}(h:u.tgt≠some k):BC m u k=m k:=by
 cases u with
 |none=>rfl
 |new id b=>simp only[BC];rw[if_neg];rintro rfl;exact h rfl
 |wr id b=>simp only[BC];rw[if_neg];rintro rfl;exact h rfl
theorem Sx(m:Nat→Option Blk){u v:MW}(h: ∀k,u.tgt=some k→v.tgt≠some k):BC (BC m u) v=BC (BC m v) u:=by
 funext k
 by_cases hu:u.tgt=some k
 ·rw[Dc (h k hu)]
  cases u with
  |none=>cases hu
  |new id b=>have:k=id:=by simpa[MW.tgt] using hu.symm
             simp[BC,this]
  |wr id b=>have:k=id:=by simpa[MW.tgt] using hu.symm
            simp[BC,this]
 ·rw[Dc (m:=BC m v) hu]
  by_cases hv:v.tgt=some k
  ·cases v with
   |none=>cases hv
   |new id b=>have:k=id:=by simpa[MW.tgt] using hv.symm
              simp[BC,this]
   |wr id b=>have:k=id:=by simpa[MW.tgt] using hv.symm
             simp[BC,this]
  ·rw[Dc hv,Dc hu,Dc hv]
theorem Hc(s:VS)(ρ:Nat→Nat)(d:Option Nat)(e:Eff):(s.put d e).act ρ=(s.act ρ).put d (e.val.c ρ):=by
 cases d with
 |none=>rfl
 |some d=>simp[VS.put,VS.act,Act.put,Bb,List.map_set]
section
variable(D:Nat→Option Nat)(F:Nat→Eff)(s0:VS)
def st(β:Nat→Bool):Nat→VS
 |0=>s0
 |k+1=>if β k then(st β k).put (D k) (F k)else st β k
def upd(β:Nat→Bool)(i:Nat):Nat→Bool:=fun j=>if j=i then true else β j
def cnt(β:Nat→Bool):Nat→Nat
 |0=>0
 |k+1=>cnt β k+if β k then 1 else 0
theorem Iv: ∀k,(∀j,j<k→β j=γ j)→st D F s0 β k=st D F s0 γ k:=by
 intro k
 induction k with
 |zero=>intro _;rfl
 |succ k ih=>intro h;simp only[st,h k (by omega),ih fun j hj=>h j (by omega)]
theorem Rc(β:Nat→Bool): ∀k,(st D F s0 β k).fr.length=s0.fr.length:=by
 intro k
 induction k with
 |zero=>rfl
 |succ k ih=>simp only[st];split<;>simp[VS.put,Tn,ih]
theorem Rf(x:Nat): ∀k,(∀j,j<k→β j≠γ j→D j≠some x)→(st D F s0 β k).fr[x]? =(st D F s0 γ k).fr[x]? :=by
 intro k
 induction k with
 |zero=>intro _;rfl
 |succ k ih=>
  intro h;have ih':=ih fun j hj=>h j (by omega)
  by_cases e:β k=γ k
  ·simp only[st,e]
   split
   ·simp only[VS.put]
    by_cases hd:D k=some x
    ·simp[hd,Bb,List.getElem?_set,Rc]
    ·rw[Jd hd,Jd hd,ih']
   ·exact ih'
  ·have hd:=h k (by omega) e
   have key: ∀(t:VS),(t.put (D k) (F k)).fr[x]? =t.fr[x]? :=fun t=>Jd hd
   simp only[st];split<;>split<;>simp only[key,ih']
theorem Rb(x:Nat): ∀k,(∀j,j<k→β j≠γ j→(F j).mw.tgt≠some x)→(st D F s0 β k).mem x=(st D F s0 γ k).mem x:=by
 intro k
 induction k with
 |zero=>intro _;rfl
 |succ k ih=>
  intro h;have ih':=ih fun j hj=>h j (by omega)
  by_cases e:β k=γ k
  ·simp only[st,e]
   split
   ·simp only[VS.put]
    cases hm:(F k).mw with
    |none=>simpa[BC] using ih'
    |new id b=>simp only[BC];split<;>simp[ih']
    |wr id b=>simp only[BC];split<;>simp[ih']
   ·exact ih'
  ·have hd:=h k (by omega) e
   have key: ∀(t:VS),(t.put (D k) (F k)).mem x=t.mem x:=fun t=>Dc hd
   simp only[st];split<;>split<;>simp only[key,ih']
theorem Ra(hi:β i=false): ∀k,i<k→(∀j,i<j→j<k→β j=true→(∀x,D i=some x→D j≠some x)∧(∀x,(F i).mw.tgt=some x→(F j).mw.tgt≠some x))→
 st D F s0 (upd β i) k=(st D F s0 β k).put (D i) (F i):=by
 intro k
 induction k with
 |zero=>intro h;omega
 |succ k ih=>
  intro hik h;by_cases e:k=i
  ·subst e
   have h1:st D F s0 (upd β k) k=st D F s0 β k:=Iv D F s0 k fun j hj=>by simp only[upd];rw[if_neg (by omega)]
   simp only[st,hi,upd,if_true,h1];rfl
  ·have ih':=ih (by omega) fun j h1 h2=>h j h1 (by omega)
   have hu:upd β i k=β k:=by simp only[upd];rw[if_neg e]
   simp only[st,hu,ih'];by_cases hk:β k=true
   ·simp only[hk,if_true]
    obtain⟨h1,h2⟩:=h k (by omega) (by omega) hk;simp only[VS.put];rw[To _ _ _ h1,Sx _ h2]
   ·simp only[hk];rfl
theorem Ni(β:Nat→Bool): ∀k,cnt β k≤k
 |0=>Nat.le_refl _
 |k+1=>by have:=Ni β k;simp only[cnt];split<;>omega
theorem Nk{β:Nat→Bool}: ∀k,cnt β k=k→ ∀j,j<k→β j=true
 |0,_,j,hj=>by omega
 |k+1,h,j,hj=>by
  have:=Ni β k;simp only[cnt]at h;by_cases hk:β k=true
  ·rw[hk]at h
   by_cases e:j=k
   ·rw[e];exact hk
   ·exact Nk k (by simpa using h) j (by omega)
  ·simp only[hk]at h;simp at h;omega
theorem Nh{β:Nat→Bool}{i:Nat}(hi:β i=false): ∀k,cnt (upd β i) k=cnt β k+if i<k then 1 else 0
 |0=>by simp[cnt]
 |k+1=>by
  have ih:=Nh hi k;simp only[cnt,ih];by_cases e:k=i
  ·subst e;simp[upd,hi]
  ·have hu:upd β i k=β k:=by simp only[upd];rw[if_neg e]
   rw[hu];have h:(if i<k+1 then 1 else 0)=(if i<k then 1 else 0):=by split<;>split<;>omega
   rw[h];omega
theorem Nj: ∀k,cnt (fun _=>false) k=0
 |0=>rfl
 |k+1=>by simp[cnt,Nj k]
def Bl(id:Nat)(s:VS):Prop:=s.mem id=none∧(∀x∈s.fr,x.has id=false)∧ ∀k b,s.mem k=some b→b.1.any (SV.has id)=false
theorem NL{s:VS}{e:Eff}(h:Bl id s)(h1:e.has id=false)(h2:e.mw.tgt≠some id):Bl id (s.put d e):=by
 obtain⟨a,b,c⟩:=h;simp only[Eff.has,Bool.or_eq_false_iff]at h1;refine⟨by simp only[VS.put];rw[Dc h2];exact a,?_,?_⟩
 ·intro x hx
  simp only[VS.put]at hx;cases d with
  |none=>exact b x hx
  |some d=>
   rcases List.mem_or_eq_of_mem_set hx with h|h
   ·exact b x h
   ·rw[h];exact h1.1
 ·intro k bl hk
  simp only[VS.put]at hk;cases hm:e.mw with
  |none=>rw[hm]at hk;exact c k bl hk
  |new id' b'=>
   rw[hm]at hk h1;simp only[BC]at hk;split at hk
   ·injection hk with hk;subst hk;simpa[MW.has] using h1.2
   ·exact c k bl hk
  |wr id' b'=>
   rw[hm]at hk h1;simp only[BC]at hk;split at hk
   ·injection hk with hk;subst hk;simpa[MW.has] using h1.2
   ·exact c k bl hk
theorem Re(h0:Bl id s0): ∀k,(∀j,j<k→β j=true→(F j).has id=false∧(F j).mw.tgt≠some id)→Bl id (st D F s0 β k):=by
 intro k
 induction k with
 |zero=>intro _;exact h0
 |succ k ih=>
  intro h;simp only[st];split
  ·rename_i hk
   obtain⟨h1,h2⟩:=h k (by omega) hk;exact NL (ih fun j hj=>h j (by omega)) h1 h2
  ·exact ih fun j hj=>h j (by omega)
end
structure Wr(w w':World)(g:Nat):Prop where
 os:w'.os=w.os
 tape:w'.tape=w.tape
 output:w'.output=w.output
 size:w'.heap.size=w.heap.size
 block: ∀k,k≠g→w'.heap[k]? =w.heap[k]?
 froz: ∀a,w'.frozen? a=w.frozen? a
def GM(w0:World)(t:VS)(rd:List Nat)(ρ:Nat→Nat)(w:World):Prop:=
 Gw w0 w∧ ∀id b,id∈rd→t.mem id=some b→w0.heap.size≤ρ id∧w.heap[ρ id]? =some (cellsOf ρ b)
inductive Ev(P:Program)(ops:Array Oper)(w0:World)(o:Oper)(t:VS):Eff→Prop
 |run (val:SV) (rd:List Nat) (hw: ∀ρ,Region.wanted o (yielded ops (t.act ρ).tmps)=true)
  (h: ∀ρ w,GM w0 t rd ρ w→(execOp (t.act ρ).eval o).run P w= .ok (.value (val.c ρ)) w):Ev P ops w0 o t ⟨val,.none,rd⟩
 |skip (hw: ∀ρ,Region.wanted o (yielded ops (t.act ρ).tmps)=false):Ev P ops w0 o t ⟨.v undef,.none,[]⟩
 |new (id:Nat) (b:Blk) (hw: ∀ρ,Region.wanted o (yielded ops (t.act ρ).tmps)=true) (hid:b.1.any (SV.has id)=false)
  (h: ∀ρ w,GM w0 t [] ρ w→(execOp (t.act ρ).eval o).run P w= .ok (.value (.pointer (some ⟨w.heap.size,0,none⟩))) (w.alloc (cellsOf ρ b))):Ev P ops w0 o t ⟨.p id 0,.new id b,[]⟩
 |wr (id:Nat) (b:Blk) (hw: ∀ρ,Region.wanted o (yielded ops (t.act ρ).tmps)=true) (hm:(t.mem id).isSome)
  (h: ∀ρ w,GM w0 t [id] ρ w→ ∃w',(execOp (t.act ρ).eval o).run P w= .ok .skip w'∧Wr w w' (ρ id)∧w'.heap[ρ id]? =some (cellsOf ρ b)):Ev P ops w0 o t ⟨.v undef,.wr id b,[id]⟩
 |call (f:FuncId) (args:(Nat→Nat)→Array Value) (val:SV) (rd:List Nat) (hw: ∀ρ,Region.wanted o (yielded ops (t.act ρ).tmps)=true)
  (h: ∀ρ w,GM w0 t [] ρ w→(execOp (t.act ρ).eval o).run P w= .ok (.enter f (args ρ)) w)
  (hc: ∀ρ w,GM w0 t rd ρ w→Calls P f (args ρ) w fun e w'=>e= .returned (val.c ρ)∧Gw w w'):Ev P ops w0 o t ⟨val,.none,rd⟩
 |callnew (f:FuncId) (args:(Nat→Nat)→Array Value) (val:SV) (rd:List Nat) (id:Nat) (b:Blk) (hw: ∀ρ,Region.wanted o (yielded ops (t.act ρ).tmps)=true) (hid:b.1.any (SV.has id)=false)
  (h: ∀ρ w,GM w0 t [] ρ w→(execOp (t.act ρ).eval o).run P w= .ok (.enter f (args ρ)) w)
  (hc: ∀ρ w,GM w0 t rd ρ w→Calls P f (args ρ) w fun e w'=> ∃g,w.heap.size≤g∧e= .returned (val.c fun k=>if k=id then g else ρ k)∧w'.heap[g]? =some (cellsOf ρ b)∧Gw w w'):Ev P ops w0 o t ⟨val,.new id b,rd⟩
theorem GL(s:VS)(ρ:Nat→Nat)(x:Nat):(s.act ρ).tmps[x]? =(s.fr[x]?).map (SV.c ρ):=by simp[VS.act]
theorem Tp{s t:VS}(h: ∀k,x= .tmp k→s.fr[k]? =t.fr[k]?):(s.act ρ).eval x=(t.act ρ).eval x:=by
 cases x with
 |tmp k=>
  have h1:(s.act ρ).tmps[k]? =(t.act ρ).tmps[k]? :=by rw[GL,GL,h k rfl]
  simp only[Act.eval,Array.getD_eq_getD_getElem?,h1]
 |_=>rfl
theorem LL{x:SV}(h:x.has id=false):x.c (fun k=>if k=id then r else ρ k)=x.c ρ:=by
 cases x with
 |v x=>rfl
 |p k o=>simp only[SV.c];rw[if_neg];rintro rfl;simp[SV.has]at h
 |s k o l m=>simp only[SV.c];rw[if_neg];rintro rfl;simp[SV.has]at h
 |tp k o y=>simp only[SV.c];rw[if_neg];rintro rfl;simp[SV.has]at h
 |ap k o=>simp only[SV.c];rw[if_neg];rintro rfl;simp[SV.has]at h
theorem Qh{s:VS}(h:Bl id s):s.act (fun k=>if k=id then r else ρ k)=s.act ρ:=by
 simp only[VS.act];rw[List.map_congr_left fun x hx=>LL (h.2.1 x hx)]
theorem QK{b:Blk}(h:b.1.any (SV.has id)=false):cellsOf (fun k=>if k=id then r else ρ k) b=cellsOf ρ b:=by
 simp only[cellsOf];rw[List.map_congr_left fun x hx=>LL (by have:=List.any_eq_false.1 h x hx;simpa using this)]
theorem Ev.step{e:Eff}{s t:VS}(hev:Ev P ops w0 o t e)
 (hsel: ∀cs b,o.op≠ .select cs b)(hl: ∀x∈o.looksAt ops,s.fr[x]? =t.fr[x]?)(hm: ∀id∈e.rd,s.mem id=t.mem id)
 (hfresh: ∀id,e.mw.newId=some id→Bl id s)(hr:Rel w0 ρ s w){K:Act→World→Prop}
 (hK: ∀ρ' w',Rel w0 ρ' (s.put o.dst e) w'→K ((s.put o.dst e).act ρ') w'):
 if Region.wanted o (yielded ops (s.act ρ).tmps)then o.wp P (s.act ρ) w K Q∨(o.asks P (s.act ρ) w∧LetsOut Q)else K ((s.act ρ).put o.dst undef) w:=by
 have hex:execOp (s.act ρ).eval o=execOp (t.act ρ).eval o:=execOp_congr o hsel fun x hx=>Tp fun k hk=>hl k (by
  subst hk;exact List.mem_append_left _ (List.mem_filterMap.2 ⟨.tmp k,by simpa using hx,rfl⟩))
 have hwant:Region.wanted o (yielded ops (s.act ρ).tmps)=Region.wanted o (yielded ops (t.act ρ).tmps):=by
  unfold Region.wanted;cases hg:o.guard with
  |none=>rfl
  |some gw=>
   obtain⟨g,want⟩:=gw
   have hy:yielded ops (s.act ρ).tmps g=yielded ops (t.act ρ).tmps g:=by
    unfold yielded;cases ht:(ops[g]?).bind (·.dst)with
    |none=>rfl
    |some d=>
     have h1:(s.act ρ).tmps[d]? =(t.act ρ).tmps[d]? :=by rw[GL,GL,hl d (by simp[Oper.looksAt,hg,ht])]
     simp only[Option.bind_some,h1]
   simp only[hy]
 have hsees:GM w0 t e.rd ρ w:=⟨hr.gw,fun id b hid hb=>hr.own id b (by rw[hm id hid];exact hb)⟩
 cases hev with
 |run val rd hw h=>
  rw[if_pos (by rw[hwant];exact hw ρ)];refine .inl ?_;unfold Oper.wp;rw[hex,h ρ w hsees];simp only[Oper.upon];have:=hK ρ w ⟨hr.gw,hr.own,hr.inj⟩
  rwa [Hc]at this
 |skip hw=>
  rw[if_neg (by rw[hwant,hw ρ];simp)];have:=hK ρ w ⟨hr.gw,hr.own,hr.inj⟩
  rwa [Hc]at this
 |new id b hw hid h=>
  rw[if_pos (by rw[hwant];exact hw ρ)];refine .inl ?_;unfold Oper.wp;rw[hex,h ρ w ⟨hsees.1,fun _ _ hx=>by cases hx⟩];simp only[Oper.upon];have hf:=hfresh id rfl
  have hlt: ∀k bl,s.mem k=some bl→ρ k<w.heap.size:=by
   intro k bl hk;have:=(hr.own k bl hk).2;apply Classical.byContradiction;intro hc;rw[Array.getElem?_eq_none (by omega)]at this;cases this
  have:=hK (fun k=>if k=id then w.heap.size else ρ k) (w.alloc (cellsOf ρ b)) ⟨hr.gw.alloc _ _,?_,?_⟩
  ·rw[Hc,Qh hf]at this
   simpa[SV.c] using this
  ·intro k bl hk
   simp only[VS.put,BC]at hk;by_cases e:k=id
   ·subst e
    simp only[if_true]at hk⊢;injection hk with hk;subst hk
    refine⟨hr.gw.b.size,?_⟩;rw[QK hid];exact heap_alloc_new _ _
   ·simp only[if_neg e]at hk⊢
    obtain⟨h1,h2⟩:=hr.own k bl hk;refine⟨h1,?_⟩;rw[QK (hf.2.2 k bl hk),Below.heap_alloc _ _ _ (hlt k bl hk)];exact h2
  ·intro k l hk hl'
   simp only[VS.put,BC]at hk hl';by_cases e:k=id<;>by_cases e':l=id
   ·intro _;rw[e,e']
   ·intro hh
    simp only[if_pos e,if_neg e']at hh hl';obtain⟨bl,hbl⟩:=Option.isSome_iff_exists.1 hl';have:=hlt l bl hbl;omega
   ·intro hh
    simp only[if_neg e,if_pos e']at hh hk;obtain⟨bl,hbl⟩:=Option.isSome_iff_exists.1 hk;have:=hlt k bl hbl;omega
   ·intro hh
    simp only[if_neg e,if_neg e']at hh hk hl';exact hr.inj k l hk hl' hh
 |wr id b hw hmm h=>
  rw[if_pos (by rw[hwant];exact hw ρ)];refine .inl ?_;obtain⟨w',hrun,hwr,hblk⟩:=h ρ w hsees;unfold Oper.wp;rw[hex,hrun];simp only[Oper.upon];have hsm:(s.mem id).isSome:=by rw[hm id (by simp)];exact hmm
  obtain⟨b0,hb0⟩:=Option.isSome_iff_exists.1 hsm;have hid0:=(hr.own id b0 hb0).1;have:=hK ρ w' ⟨⟨?_,?_⟩,?_,?_⟩
  ·rw[Hc]at this
   simpa[SV.c] using this
  ·refine⟨hwr.os.trans hr.gw.b.os,hwr.tape.trans hr.gw.b.tape,hwr.output.trans hr.gw.b.output,by rw[hwr.size];exact hr.gw.b.size,fun k hk=> ?_⟩
   rw[hwr.block k (by omega)];exact hr.gw.b.block k hk
  ·exact fun a=>(hwr.froz a).trans (hr.gw.f a)
  ·intro k bl hk
   simp only[VS.put,BC]at hk;by_cases e:k=id
   ·subst e
    simp only[if_true]at hk;injection hk with hk;subst hk
    exact⟨hid0,hblk⟩
   ·simp only[if_neg e]at hk
    obtain⟨h1,h2⟩:=hr.own k bl hk;refine⟨h1,?_⟩;rw[hwr.block _ (fun hh=>e (hr.inj k id (by simp[hk]) hsm hh))];exact h2
  ·intro k l hk hl'
   refine hr.inj k l ?_ ?_
   ·simp only[VS.put,BC]at hk;split at hk
    ·rename_i e;rw[e];exact hsm
    ·exact hk
   ·simp only[VS.put,BC]at hl';split at hl'
    ·rename_i e;rw[e];exact hsm
    ·exact hl'
 |call f args val rd hw h hc=>
  rw[if_pos (by rw[hwant];exact hw ρ)];refine .inl ?_;unfold Oper.wp;rw[hex,h ρ w ⟨hsees.1,fun _ _ hx=>by cases hx⟩];simp only[Oper.upon];refine(hc ρ w hsees).mono ?_;rintro e w' ⟨rfl,hg⟩;have:=hK ρ w' ⟨hr.gw.trans hg,?_,hr.inj⟩
  ·rw[Hc]at this;exact this
  ·intro k bl hk
   obtain⟨h1,h2⟩:=hr.own k bl hk;refine⟨h1,?_⟩
   have hlt:ρ k<w.heap.size:=by
    apply Classical.byContradiction;intro hcn;rw[Array.getElem?_eq_none (by omega)]at h2;cases h2
   rw[hg.b.block _ hlt];exact h2
 |callnew f args val rd id b hw hid h hc=>
  rw[if_pos (by rw[hwant];exact hw ρ)];refine .inl ?_;unfold Oper.wp;rw[hex,h ρ w ⟨hsees.1,fun _ _ hx=>by cases hx⟩];simp only[Oper.upon];refine(hc ρ w hsees).mono ?_;rintro e w' ⟨g,hg0,rfl,hblk,hg⟩;have hf:=hfresh id rfl
  have hlt: ∀k bl,s.mem k=some bl→ρ k<w.heap.size:=by
   intro k bl hk;have:=(hr.own k bl hk).2;apply Classical.byContradiction;intro hc;rw[Array.getElem?_eq_none (by omega)]at this;cases this
  have:=hK (fun k=>if k=id then g else ρ k) w' ⟨hr.gw.trans hg,?_,?_⟩
  ·rw[Hc,Qh hf]at this
   exact this
  ·intro k bl hk
   simp only[VS.put,BC]at hk;by_cases e:k=id
   ·subst e
    simp only[if_true]at hk⊢;injection hk with hk;subst hk
    refine⟨Nat.le_trans hr.gw.b.size hg0,?_⟩;rw[QK hid];exact hblk
   ·simp only[if_neg e]at hk⊢
    obtain⟨h1,h2⟩:=hr.own k bl hk;refine⟨h1,?_⟩;rw[QK (hf.2.2 k bl hk),hg.b.block _ (hlt k bl hk)];exact h2
  ·intro k l hk hl'
   simp only[VS.put,BC]at hk hl';by_cases e:k=id<;>by_cases e':l=id
   ·intro _;rw[e,e']
   ·intro hh
    simp only[if_pos e,if_neg e']at hh hl';obtain⟨bl,hbl⟩:=Option.isSome_iff_exists.1 hl';have:=hlt l bl hbl;omega
   ·intro hh
    simp only[if_neg e,if_pos e']at hh hk;obtain⟨bl,hbl⟩:=Option.isSome_iff_exists.1 hk;have:=hlt k bl hbl;omega
   ·intro hh
    simp only[if_neg e,if_neg e']at hh hk hl';exact hr.inj k l hk hl' hh
theorem Ev.sound(ho:ops[i]? =some o){e:Eff}{s t:VS}(hev:Ev P ops w0 o t e)
 (hsel: ∀cs b,o.op≠ .select cs b)(hl: ∀x∈o.looksAt ops,s.fr[x]? =t.fr[x]?)(hm: ∀id∈e.rd,s.mem id=t.mem id)
 (hfresh: ∀id,e.mw.newId=some id→Bl id s)(hr:Rel w0 ρ s w){K:Act→World→Prop}
 (hK: ∀ρ' w',Rel w0 ρ' (s.put o.dst e) w'→K ((s.put o.dst e).act ρ') w'):wpOp P ops Q i K (s.act ρ) w:=by
 unfold wpOp;simp only[ho];exact hev.step hsel hl hm hfresh hr hK
def Jo(o:Oper)(i:Nat):Bool:=o.after.any fun e=>Region.binds .any e && e.on==i
def EM(a b:Option Nat):Bool:=match a,b with|some x,some y=>x !=y|_,_=>true
def HT(ops:Array Oper)(x:Oper)(e:Eff)(y:Oper)(f:Eff):Bool:=
 (match x.dst with|some d=> !(y.looksAt ops).contains d|none=>true) && (match y.dst with|some d=> !(x.looksAt ops).contains d|none=>true) && EM x.dst y.dst &&
 EM e.mw.tgt f.mw.tgt && (match e.mw.tgt with|some k=> !f.rd.contains k|none=>true) && (match f.mw.tgt with|some k=> !e.rd.contains k|none=>true) &&
 (match e.mw.newId with|some k=> !f.has k|none=>true)
def Dv:Op→Bool
 | .select _ _=>true
 |_=>false
def veB(ops:Array Oper)(l:List Oper)(E:List Eff):Bool:=
 (List.range l.length).all fun j=>
  match l[j]?,E[j]? with
  |some y,some f=>
   !Dv y.op && y.after.all (fun e=> !Region.binds .any e||decide (e.on<j)) &&
   (List.range j).all fun i=>
    match l[i]?,E[i]? with
    |some x,some e=>(Jo y i||HT ops x e y f) && (match f.mw.newId with|some k=> !e.has k && EM (some k) e.mw.tgt|none=>true) &&
     (match e.mw.newId with|some k=>EM (some k) f.mw.newId|none=>true)
    |_,_=>false
  |_,_=>false
inductive VE(P:Program)(ops:Array Oper)(w0:World):List Oper→List Eff→VS→VS→Prop
 |nil (s:VS):VE P ops w0 [] [] s s
 |cons {o:Oper} {l:List Oper} {e:Eff} {E:List Eff} {s s':VS} (h:Ev P ops w0 o s e) (r:VE P ops w0 l E (s.put o.dst e) s'):VE P ops w0 (o::l) (e::E) s s'
section
variable{P:Program}{ops:Array Oper}{w0:World}
def De(l:List Oper)(k:Nat):Option Nat:=(l[k]?).bind (·.dst)
def Fe(E:List Eff)(k:Nat):Eff:=(E[k]?).getD ⟨.v undef,.none,[]⟩
theorem Lv(D:Nat→Option Nat)(F:Nat→Eff)(s:VS): ∀k,st D F s (fun _=>true) (k+1)=st (fun j=>D (j+1)) (fun j=>F (j+1)) (s.put (D 0) (F 0)) (fun _=>true) k:=by
 intro k
 induction k with
 |zero=>rfl
 |succ k ih=>simp only[st,if_true]at ih ⊢; rw[ih]
theorem VE.length{l:List Oper}{E:List Eff}{s s':VS}(h:VE P ops w0 l E s s'):E.length=l.length:=by
 induction h with
 |nil=>rfl
 |cons _ _ ih=>simp[ih]
theorem VE.at{l:List Oper}{E:List Eff}{s s':VS}(h:VE P ops w0 l E s s'):
 (∀i o,l[i]? =some o→Ev P ops w0 o (st (De l) (Fe E) s (fun _=>true) i) (Fe E i))∧s'=st (De l) (Fe E) s (fun _=>true) l.length:=by
 induction h with
 |nil s=>exact⟨fun i o h=>(by simp at h),rfl⟩
 | @cons o l e E s s' h r ih=>
   obtain⟨ih1,ih2⟩:=ih;refine⟨fun i o' hi=> ?_,?_⟩
   ·cases i with
    |zero=>simp at hi;subst hi;exact h
    |succ i=>rw[Lv];exact ih1 i o' (by simpa using hi)
   ·rw[List.length_cons,Lv];exact ih2
theorem Rq(hi:i<listed.size):(fun j=>(listed.setIfInBounds i true).getD j false)=upd (fun j=>listed.getD j false) i:=by
 funext j
 simp only[upd,Array.getD_eq_getD_getElem?,Array.getElem?_setIfInBounds];by_cases h:i=j
 ·subst h;simp[hi]
 ·simp[h,Ne.symm h]
theorem Q3{l:List Oper}{E:List Eff}{s s':VS}(hops:ops=l.toArray)(h:VE P ops w0 l E s s')(hB:veB ops l E=true)
 (hfr: ∀e∈E,∀id,e.mw.newId=some id→Bl id s)
 (hQ: ∀ρ w,Rel w0 ρ s' w→Q .normal (s'.act ρ) w):
 ∀(fuel:Nat) (listed:Array Bool) (ρ:Nat→Nat) (w:World),listed.size=l.length→
  (∀j o,l[j]? =some o→listed.getD j false=true→ ∀e∈o.after,Region.binds .any e=true→listed.getD e.on false=true)→
  cnt (fun j=>listed.getD j false) l.length+fuel=l.length→
  Rel w0 ρ (st (De l) (Fe E) s (fun j=>listed.getD j false) l.length) w→
  wpAny P .any ops Q fuel listed ((st (De l) (Fe E) s (fun j=>listed.getD j false) l.length).act ρ) w:=by
 obtain⟨hat,hs'⟩:=h.at;have hlen:=h.length;have hsz:ops.size=l.length:=by rw[hops];simp
 have hget: ∀i:Nat,ops[i]? =l[i]? :=by intro i;rw[hops];simp
 have hpair: ∀j y f,l[j]? =some y→E[j]? =some f→(Dv y.op=false)∧(∀e∈y.after,Region.binds .any e=true→e.on<j)∧
  ∀i x e,i<j→l[i]? =some x→E[i]? =some e→(Jo y i||HT ops x e y f)=true∧(∀k,f.mw.newId=some k→e.has k=false∧e.mw.tgt≠some k)∧(∀k,e.mw.newId=some k→f.mw.newId≠some k):=by
  intro j y f hy hf;have hj:j<l.length:=(List.getElem?_eq_some_iff.1 hy).1;have h1:=List.all_eq_true.1 hB j (List.mem_range.2 hj);simp only[hy,hf,Bool.and_eq_true,Bool.not_eq_true']at h1;obtain⟨⟨a1,a2⟩,a3⟩:=h1;refine⟨a1,?_,?_⟩
  ·intro e he hb
   have:=Array.all_eq_true'.1 a2 e he;simpa[hb] using this
  ·intro i x e hi hx he
   have h2:=List.all_eq_true.1 a3 i (List.mem_range.2 hi);simp only[hx,he,Bool.and_eq_true]at h2;obtain⟨⟨b1,b2⟩,b3⟩:=h2;refine⟨b1,?_,?_⟩
   ·intro k hk
    simp only[hk,Bool.and_eq_true,Bool.not_eq_true']at b2;refine⟨b2.1,?_⟩;intro ht;have:=b2.2;simp[EM,ht]at this
   ·intro k hk hk'
    simp only[hk,hk',EM]at b3;simp at b3
 have hE: ∀i o,l[i]? =some o→ ∃e,E[i]? =some e∧Fe E i=e∧De l i=o.dst:=by
  intro i o hi;have hj:i<E.length:=by rw[hlen];exact(List.getElem?_eq_some_iff.1 hi).1
  exact⟨E[i],by simp[hj],by simp[Fe,hj],by simp[De,hi]⟩
 intro fuel
 induction fuel with
 |zero=>
  intro listed ρ w hls hcl hc hr;have hall:=Nk (β:=fun j=>listed.getD j false) l.length (by omega)
  have hst:st (De l) (Fe E) s (fun j=>listed.getD j false) l.length=s':=by
   rw[hs'];exact Iv _ _ _ _ fun j hj=>hall j hj
  rw[hst]at hr⊢;refine⟨?_,hQ ρ w hr⟩;cases hrd:Region.ready .any ops listed with
  |nil=>rfl
  |cons i rs=>
   have:i∈Region.ready .any ops listed:=by rw[hrd];simp
   obtain⟨h1,o,ho,_⟩:=mem_ready.1 this;have hi:i<l.length:=by rw[←hsz];exact(Array.getElem?_eq_some_iff.1 ho).1
   have:=hall i hi;rw[getD_both h1]at this;cases this
 |succ fuel ih=>
  intro listed ρ w hls hcl hc hr;refine⟨?_,?_⟩
  ·
   intro hnil;exfalso
   have key: ∀k,k<l.length→listed.getD k false=true:=by
    intro k
    induction k using Nat.strongRecOn with
    |_ k ihk=>
     intro hk;apply Classical.byContradiction;intro hf;have hf':listed.getD k false=false:=by simpa using hf
     obtain⟨e,he,_,_⟩:=hE k l[k] (by simp[hk]);obtain⟨_,hon,_⟩:=hpair k l[k] e (by simp[hk]) he
     have:k∈Region.ready .any ops listed:=by
      refine mem_ready.2 ⟨getD_in (by omega) hf',l[k],by rw[hget];simp[hk],fun ed hed hb=> ?_⟩;have:=hon ed hed hb;exact ihk ed.on this (by omega)
     rw[hnil]at this;cases this
   have hc2:cnt (fun j=>listed.getD j false) l.length=l.length:=by
    have hh: ∀k,k≤l.length→cnt (fun j=>listed.getD j false) k=k:=by
     intro k
     induction k with
     |zero=>intro _;rfl
     |succ k ihk=>intro hk;simp only[cnt,ihk (by omega),key k (by omega),if_true]
    exact hh _ (Nat.le_refl _)
   omega
  ·intro i hi
   obtain⟨hun,o,ho,hdep⟩:=mem_ready.1 hi;have hun':=getD_both hun;have hio:l[i]? =some o:=by rw[←hget];exact ho
   have hin:i<l.length:=(List.getElem?_eq_some_iff.1 hio).1;obtain⟨e,he,hFe,hDe⟩:=hE i o hio;obtain⟨hsel,hon,hpi⟩:=hpair i o e hio he
   have hind: ∀j x f,l[j]? =some x→E[j]? =some f→(listed.getD j false≠decide (j<i))→j≠i→
    (∀d,x.dst=some d→d∉o.looksAt ops)∧(∀k,f.mw.tgt=some k→k∉e.rd)∧(i<j→(∀d,o.dst=some d→x.dst≠some d)∧(∀k,e.mw.tgt=some k→f.mw.tgt≠some k)∧(∀k,e.mw.newId=some k→f.has k=false)):=by
    intro j x f hx hf hne hji
    have hnoB: ∀d u:Option Nat,EM d u=true→ ∀k,d=some k→u≠some k:=by
     intro d u h k hd hu;simp[hd,hu,EM]at h
    rcases Nat.lt_or_gt_of_ne hji with hlt|hgt
    ·
     have hnl:listed.getD j false=false:=by simpa[hlt] using hne
     have hnb:Jo o j=false:=by
      cases hb:Jo o j with
      |false=>rfl
      |true=>
       obtain⟨ed,hed,hb2⟩:=Array.any_eq_true'.1 hb;simp only[Bool.and_eq_true,beq_iff_eq]at hb2;have:=hdep ed hed hb2.1;rw[hb2.2,hnl]at this;cases this
     have h1:=(hpi j x f hlt hx hf).1;rw[hnb,Bool.false_or]at h1;simp only[HT,Bool.and_eq_true]at h1;obtain⟨⟨⟨⟨⟨⟨c1,c2⟩,c3⟩,c4⟩,c5⟩,c6⟩,c7⟩:=h1;refine⟨?_,?_,fun hh=>by omega⟩
     ·intro d hd;rw[hd]at c1;simpa using c1
     ·intro k hk;rw[hk]at c5;simpa using c5
    ·
     have hl':listed.getD j false=true:=by
      have:decide (j<i)=false:=by simp;omega
      rw[this]at hne;simpa using hne
     have hnb:Jo x i=false:=by
      cases hb:Jo x i with
      |false=>rfl
      |true=>
       obtain⟨ed,hed,hb2⟩:=Array.any_eq_true'.1 hb;simp only[Bool.and_eq_true,beq_iff_eq]at hb2;have:=hcl j x hx hl' ed hed hb2.1;rw[hb2.2,hun']at this;cases this
     have h1:=((hpair j x f hx hf).2.2 i o e hgt hio he).1;rw[hnb,Bool.false_or]at h1;simp only[HT,Bool.and_eq_true]at h1;obtain⟨⟨⟨⟨⟨⟨c1,c2⟩,c3⟩,c4⟩,c5⟩,c6⟩,c7⟩:=h1;refine⟨?_,?_,fun _=>⟨hnoB _ _ c3,hnoB _ _ c4,?_⟩⟩
     ·intro d hd;rw[hd]at c2;simpa using c2
     ·intro k hk;rw[hk]at c6;simpa using c6
     ·intro k hk;rw[hk]at c7;simpa using c7
   have hupd:=Rq (listed:=listed) (i:=i) (by omega)
   have htext:st (De l) (Fe E) s (fun _=>true) i=st (De l) (Fe E) s (fun j=>decide (j<i)) l.length:=by
    have h1: ∀k,i+k≤l.length→st (De l) (Fe E) s (fun j=>decide (j<i)) (i+k)=st (De l) (Fe E) s (fun j=>decide (j<i)) i:=by
     intro k
     induction k with
     |zero=>intro _;rfl
     |succ k ihk=>
      intro hk;have:decide (i+k<i)=false:=by simp
      rw[←Nat.add_assoc];simp only[st,this];exact ihk (by omega)
    rw[←Nat.add_sub_cancel' (Nat.le_of_lt hin),h1 _ (by omega)];exact Iv _ _ _ _ fun j hj=>by simp[hj]
   have hput:st (De l) (Fe E) s (fun j=>(listed.setIfInBounds i true).getD j false) l.length=(st (De l) (Fe E) s (fun j=>listed.getD j false) l.length).put o.dst e:=by
    rw[hupd,←hDe,←hFe];refine Ra _ _ _ hun' _ hin fun j hij hjl hb=> ?_
    obtain⟨f,hf,hFj,hDj⟩:=hE j l[j] (by simp[hjl]);obtain⟨_,_,h3⟩:=hind j l[j] f (by simp[hjl]) hf (by simp[hb];omega) (by omega);obtain⟨g1,g2,_⟩:=h3 hij;rw[hDe,hFe,hDj,hFj];exact⟨g1,g2⟩
   have hev:=hat i o hio;rw[hFe,htext]at hev;refine hev.sound (s:=st (De l) (Fe E) s (fun j=>listed.getD j false) l.length) ho ?_ ?_ ?_ ?_ hr ?_
   ·intro cs b hh;rw[hh]at hsel;cases hsel
   ·intro x hx
    refine Rf _ _ _ x _ fun j hj hne hd=> ?_
    obtain⟨f,hf,hFj,hDj⟩:=hE j l[j] (by simp[hj]);by_cases hji:j=i
    ·subst hji;simp[hun']at hne
    ·obtain⟨g1,_,_⟩:=hind j l[j] f (by simp[hj]) hf hne hji
     rw[hDj]at hd;exact g1 x hd hx
   ·intro id hid
    refine Rb _ _ _ id _ fun j hj hne hd=> ?_
    obtain⟨f,hf,hFj,hDj⟩:=hE j l[j] (by simp[hj]);by_cases hji:j=i
    ·subst hji;simp[hun']at hne
    ·obtain⟨_,g2,_⟩:=hind j l[j] f (by simp[hj]) hf hne hji
     rw[hFj]at hd;exact g2 id hd hid
   ·intro id hid
    refine Re _ _ _ (hfr e (List.mem_of_getElem? he) id hid) _ fun j hj hb=> ?_
    obtain⟨f,hf,hFj,hDj⟩:=hE j l[j] (by simp[hj]);rw[hFj];have hji:j≠i:=by rintro rfl;rw[hun']at hb;cases hb
    rcases Nat.lt_or_gt_of_ne hji with hlt|hgt
    ·exact(hpi j l[j] f hlt (by simp[hj]) hf).2.1 id hid
    ·obtain⟨_,_,h3⟩:=hind j l[j] f (by simp[hj]) hf (by simp[hb];omega) hji
     obtain⟨_,g2,g3⟩:=h3 hgt;refine⟨g3 id hid,g2 id ?_⟩;cases hm:e.mw with
     |none=>rw[hm]at hid;cases hid
     |new id' b=>rw[hm]at hid;simpa[MW.newId,MW.tgt] using hid
     |wr id' b=>rw[hm]at hid;cases hid
   ·intro ρ' w' hr'
    have:=ih (listed.setIfInBounds i true) ρ' w' (by simpa using hls) ?_ ?_ (by rw[hput];exact hr')
    ·rw[hput]at this;exact this
    ·intro j x hx hl' ed hed hb
     by_cases hji:j=i
     ·subst hji
      have:x=o:=Option.some.inj (hx.symm.trans hio);subst this;exact getD_set_true (hdep ed hed hb)
     ·rw[getD_set_ne false (Ne.symm hji)]at hl'
      exact getD_set_true (hcl j x hx hl' ed hed hb)
    ·rw[hupd,Nh hun',if_pos hin];omega
theorem Qz{l:List Oper}{E:List Eff}{s s':VS}(hm:P.follows .mixedOrders=true)(h:VE P l.toArray w0 l E s s')(hB:veB l.toArray l E=true)
 (hfr: ∀e∈E,∀id,e.mw.newId=some id→Bl id s)(hQ: ∀ρ w,Rel w0 ρ s' w→Q .normal (s'.act ρ) w)
 (hr:Rel w0 ρ s w):(Code.region id l.toArray true).wp P Q (s.act ρ) w:=by
 refine wp_region_any hm ?_;have hfun:(fun j=>(Array.replicate l.toArray.size false).getD j false)=fun _=>false:=by funext j;exact getD_replicate_false _ _
 have h00: ∀k,st (De l) (Fe E) s (fun _=>false) k=s:=by
  intro k
  induction k with
  |zero=>rfl
  |succ k ih=>simp only[st];exact ih
 have h0: ∀k,st (De l) (Fe E) s (fun j=>(Array.replicate l.toArray.size false).getD j false) k=s:=by rw[hfun];exact h00
 have hcnt:cnt (fun j=>(Array.replicate l.toArray.size false).getD j false) l.length=0:=by
  have:(fun j=>(Array.replicate l.toArray.size false).getD j false)=fun _=>false:=by funext j;exact getD_replicate_false _ _
  rw[this];exact Nj _
 have hr':Rel w0 ρ s {w with drawn:=w.drawn+1}:=⟨Gw.drew hr.gw,hr.own,hr.inj⟩
 have:=Q3 rfl h hB hfr hQ l.toArray.size (Array.replicate l.toArray.size false) ρ {w with drawn:=w.drawn+1} (by simp)
  (fun j o _ hl=>by rw[getD_replicate_false]at hl;cases hl) (by rw[hcnt];simp) (by rw[h0];exact hr')
 rw[h0]at this;exact this
def B9:List Eff→Bool
 | []=>true
 |e::E=>E.all (fun f=>match f.mw.newId with|some k=> !e.has k && EM (some k) e.mw.tgt|none=>true) && B9 E
theorem Q1{l:List Oper}{E:List Eff}{s s':VS}(h:VE P ops w0 l E s s'):(∀o∈l,Dv o.op=false)→B9 E=true→
 (∀e∈E,∀id,e.mw.newId=some id→Bl id s)→ ∀{Q:Exit→Act→World→Prop},(∀ρ w,Rel w0 ρ s' w→Q .normal (s'.act ρ) w)→
 ∀{ρ:Nat→Nat} {w:World},Rel w0 ρ s w→wpList P ops Q l (s.act ρ) w:=by
 induction h with
 |nil s=>intro _ _ _ Q hQ ρ w hr;exact hQ ρ w hr
 | @cons o l e E s s' h r ih=>
   intro hsel hB hfr Q hQ ρ w hr;simp only[B9,Bool.and_eq_true]at hB
   have hnext: ∀f∈E,∀id,f.mw.newId=some id→Bl id (s.put o.dst e):=by
    intro f hf id hid;have h1:=List.all_eq_true.1 hB.1 f hf;simp only[hid,Bool.and_eq_true,Bool.not_eq_true']at h1;refine NL (hfr f (by simp[hf]) id hid) h1.1 ?_;intro ht;have:=h1.2;simp[EM,ht]at this
   have:=h.step (K:=wpList P ops Q l) (Q:=Q) (s:=s) (by intro cs b hh;have:=hsel o (by simp);rw[hh]at this;cases this) (fun _ _=>rfl) (fun _ _=>rfl) (hfr e (by simp)) hr
    (fun ρ' w' hr'=>ih (fun o ho=>hsel o (by simp[ho])) hB.2 hnext hQ hr')
   unfold wpList;exact this
theorem Q0{l:List Oper}{E:List Eff}{s s':VS}(h:VE P l.toArray w0 l E s s')(hsel:l.all (fun o=> !Dv o.op)=true)(hB:B9 E=true)
 (hfr: ∀e∈E,∀id,e.mw.newId=some id→Bl id s)(hQ: ∀ρ w,Rel w0 ρ s' w→Q .normal (s'.act ρ) w)
 (hr:Rel w0 ρ s w):(Code.region id l.toArray false).wp P Q (s.act ρ) w:=
 wp_region_lit (Q1 h (fun o ho=>by have:=List.all_eq_true.1 hsel o ho;simpa using this) hB hfr hQ hr)
end
def VOk(P:Program)(w0:World)(s:VS)(c:Code)(Q:Exit→VS→Prop):Prop:=
 ∀ρ w (R:Exit→Act→World→Prop),Rel w0 ρ s w→(∀e ρ' s' w',Q e s'→Rel w0 ρ' s' w'→R e (s'.act ρ') w')→c.wp P R (s.act ρ) w
def AE(s:VS):Operand→SV
 | .tmp t=>(s.fr[t]?).getD (.v undef)
 | .const v=> .v v
 | .global g=> .v (.pointer (some ⟨g,0,none⟩))
 | .func f=> .v (.func (.func f) #[] #[])
theorem AI(s:VS)(ρ:Nat→Nat)(x:Operand):(s.act ρ).eval x=(AE s x).c ρ:=by
 cases x with
 |tmp t=>
  simp only[Act.eval,AE,Array.getD_eq_getD_getElem?,GL];cases s.fr[t]? <;>rfl
 |_=>rfl
end Go.Toll
