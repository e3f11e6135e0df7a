import Derived.WalkKit
import Derived.WalkSpells
import Derived.WalkLawsBesides
import Derived.Deep.RegionHeld3
import Derived.StillTail
import Derived.Laws.CopyRow
import Derived.Test.YtafbhakmkbehiaaGreatDoorProg
open Go.Proofs.Tryz
set_option maxHeartbeats 4000000
set_option maxRecDepth 100000
namespace Go.Toll
open Go.RowKit
variable{listed:Array Bool}{fs:Array Field}{ops:Array Oper}{xs:Array Operand}{ats:Array TypeId}{p:Bool}{Q:Exit->Act->World->Prop}{fd:Field}{fn:Func}{f:FuncId}{a b:Int}{k:IntKind}{rd:List Nat}{vs:List Value}{g i id n off sz:Nat}{β γ:Nat->Bool}{ρ:Nat->Nat}{o:Oper}{ix x y:Operand}{P:Program}{d:TypeDesc}{el r t ty:TypeId}{v:Value}{w w0:World}
structure Gw(w w':World):Prop where
 b:Below w.heap.size w w'
 f:∀a,w'.frozen? a=w.frozen? a
theorem Gw.refl(w:World):Gw w w:=⟨Below.refl _ _,λ_=>rfl⟩
theorem Gw.trans{a b c:World}(h:Gw a b)(k:Gw b c):Gw a c:=⟨h.b.trans (k.b.mono h.b.size),λx=>(k.f x).trans (h.f x)⟩
theorem Gw.drew{a w:World}(h:Gw a w):Gw a w.drew:=⟨h.b.drew,h.f⟩
theorem Gw.alloc{a w:World}(h:Gw a w)(c:Array Value)(t:TypeId):Gw a (w.alloc (.cells c t)):=
 ⟨h.b.alloc h.b.size _,λx=>(frozen?_alloc_cells _ _ _ x).trans (h.f x)⟩
theorem Gw.setCell{a w:World}(h:Gw a w){p:Addr}(c:a.heap.size<=p.block)(u:Value):Gw a (w.setCell p u):=
 ⟨h.b.setCell c u,λx=>(World.frozen?_setCell _ _ _ _).trans (h.f x)⟩
theorem Gw.cell{w e:World}(h:Gw w e){a:Addr}{v:Value}(c:w.cell? a=some v):e.cell? a=some v:=
 (h.b.cell (World.block_lt_of_cell? _ _ c)).trans c
inductive SV where
 |v (x:Value)
 |p (id off:Nat)
 |s (id off len cap:Nat)
 |tp (id off:Nat) (y:Value)
 |ap (id off:Nat)
deriving Inhabited
def SV.c(ρ:Nat->Nat):SV->Value
 | .v x=>x
 | .p id off=>.pointer (some ⟨ρ id,off,none⟩)
 | .s id off len cap=>.slice (some ⟨ρ id,off,none⟩) len cap
 | .tp id off y=>.tuple #[.pointer (some ⟨ρ id,off,none⟩),y]
 | .ap id off=>.agg #[.pointer (some ⟨ρ id,off,none⟩)]
def SV.has(id:Nat):SV->Bool
 | .v _=>false
 | .p k _=>k==id
 | .s k _ _ _=>k==id
 | .tp k _ _=>k==id
 | .ap k _=>k==id
abbrev Blk:=List SV×TypeId
structure VS where
 fr:List SV
 mem:Nat->Option Blk
def VS.act(s:VS)(ρ:Nat->Nat):Act:=⟨(s.fr.map (SV.c ρ)).toArray,[]⟩
def cellsOf(ρ:Nat->Nat)(b:Blk):Obj:=.cells (b.1.map (SV.c ρ)).toArray b.2 (0,0)
structure Rel(w0:World)(ρ:Nat->Nat)(s:VS)(w:World):Prop where
 gw:Gw w0 w
 own:∀id b,s.mem id=some b->w0.heap.size<=ρ id/\w.heap[ρ id]? =some (cellsOf ρ b)
 inj:∀i j,(s.mem i).isSome->(s.mem j).isSome->ρ i=ρ j->i=j
inductive MW where
 |none
 |new (id:Nat) (b:Blk)
 |wr (id:Nat) (b:Blk)
def MW.tgt:MW->Option Nat
 | .none=>Option.none
 | .new id _=>some id
 | .wr id _=>some id
def BC(m:Nat->Option Blk):MW->(Nat->Option Blk)
 | .none=>m
 | .new id b=>λk=>if k=id then some b else m k
 | .wr id b=>λk=>if k=id then some b else m k
structure Eff where
 val:SV
 mw:MW
 rd:List Nat
def Bb(l:List SV)(d:Option Nat)(x:SV):List SV:=match d with|some d=>l.set d x|none=>l
def VS.put(s:VS)(d:Option Nat)(e:Eff):VS:=⟨Bb s.fr d e.val,BC s.mem e.mw⟩
def MW.has(id:Nat):MW->Bool
 | .none=>false
 | .new _ b=>b.1.any (SV.has id)
 | .wr _ b=>b.1.any (SV.has id)
def Eff.has(id:Nat)(e:Eff):Bool:=e.val.has id||e.mw.has id
def MW.newId:MW->Option Nat
 | .new id _=>some id
 |_=>Option.none
theorem Jd{l:List SV}{d:Option Nat}{x:SV}{k:Nat}(h:d≠some k):(Bb l d x)[k]? =l[k]? :=by
 cases d with
 |none=>rfl
 |some d=>simp only[Bb];rw[List.getElem?_set_ne (by intro e;exact h (by rw[e]))]
theorem Tn(l:List SV)(d:Option Nat)(x:SV):(Bb l d x).length=l.length:=by cases d<;>simp[Bb]
theorem To(l:List SV){d e:Option Nat}(x y:SV)(h:∀k,d=some k->e≠some k):Bb (Bb l d x) e y=Bb (Bb l e y) d x:=by
 cases d with
 |none=>rfl
 |some d=>
  cases e with
  |none=>rfl
  |some e=>simp only[Bb];rw[List.set_comm];intro c;exact h d rfl (by rw[c])
theorem Dc{m:Nat->Option Blk}{u:MW}{k:Nat}(h:u.tgt≠some k):BC m u k=m k:=by
 cases u with
 |none=>rfl
 |new id b=>simp only[BC];rw[if_neg];rintro rfl;exact h rfl
 |wr id b=>simp only[BC];rw[if_neg];rintro rfl;exact h rfl
theorem Sx(m:Nat->Option Blk){u v:MW}(h:∀k,u.tgt=some k->v.tgt≠some k):BC (BC m u) v=BC (BC m v) u:=by
 funext k
 by_cases c:u.tgt=some k
 .rw[Dc (h k c)]
  cases u with
  |none=>cases c
  |new id b=>have:k=id:=by simpa[MW.tgt] using c.symm
             simp[BC,this]
  |wr id b=>have:k=id:=by simpa[MW.tgt] using c.symm
            simp[BC,this]
 .rw[Dc (m:=BC m v) c]
  by_cases e:v.tgt=some k
  .cases v with
   |none=>cases e
   |new id b=>have:k=id:=by simpa[MW.tgt] using e.symm
              simp[BC,this]
   |wr id b=>have:k=id:=by simpa[MW.tgt] using e.symm
             simp[BC,this]
  .rw[Dc e,Dc c,Dc e]
theorem Hc(s:VS)(ρ:Nat->Nat)(d:Option Nat)(e:Eff):(s.put d e).act ρ=(s.act ρ).put d (e.val.c ρ):=by
 cases d with
 |none=>rfl
 |some d=>simp[VS.put,VS.act,Act.put,Bb,List.map_set]
section
variable(D:Nat->Option Nat)(F:Nat->Eff)(s0:VS)
def st(β:Nat->Bool):Nat->VS
 |0=>s0
 |k+1=>if β k then(st β k).put (D k) (F k)else st β k
def upd(β:Nat->Bool)(i:Nat):Nat->Bool:=λj=>if j=i then true else β j
def cnt(β:Nat->Bool):Nat->Nat
 |0=>0
 |k+1=>cnt β k+if β k then 1 else 0
theorem Iv:∀k,(∀j,j<k->β j=γ j)->st D F s0 β k=st D F s0 γ k:=by
 intro k
 induction k with
 |zero=>intro _;rfl
 |succ k ih=>intro h;simp only[st,h k (by omega),ih λj c=>h j (by omega)]
theorem Rc(β:Nat->Bool):∀k,(st D F s0 β k).fr.length=s0.fr.length:=by
 intro k
 induction k with
 |zero=>rfl
 |succ k ih=>simp only[st];split<;>simp[VS.put,Tn,ih]
theorem Rf(x:Nat):∀k,(∀j,j<k->β j≠γ j->D j≠some x)->(st D F s0 β k).fr[x]? =(st D F s0 γ k).fr[x]? :=by
 intro k
 induction k with
 |zero=>intro _;rfl
 |succ k ih=>
  intro h;have c:=ih λj q=>h j (by omega)
  by_cases e:β k=γ k
  .simp only[st,e]
   split
   .simp only[VS.put]
    by_cases l:D k=some x
    .simp[l,Bb,List.getElem?_set,Rc]
    .rw[Jd l,Jd l,c]
   .exact c
  .have l:=h k (by omega) e
   have m:∀(t:VS),(t.put (D k) (F k)).fr[x]? =t.fr[x]? :=λt=>Jd l
   simp only[st];split<;>split<;>simp only[m,c]
theorem Rb(x:Nat):∀k,(∀j,j<k->β j≠γ j->(F j).mw.tgt≠some x)->(st D F s0 β k).mem x=(st D F s0 γ k).mem x:=by
 intro k
 induction k with
 |zero=>intro _;rfl
 |succ k ih=>
  intro h;have c:=ih λj q=>h j (by omega)
  by_cases e:β k=γ k
  .simp only[st,e]
   split
   .simp only[VS.put]
    cases u:(F k).mw with
    |none=>simpa[BC] using c
    |new id b=>simp only[BC];split<;>simp[c]
    |wr id b=>simp only[BC];split<;>simp[c]
   .exact c
  .have m:=h k (by omega) e
   have l:∀(t:VS),(t.put (D k) (F k)).mem x=t.mem x:=λt=>Dc m
   simp only[st];split<;>split<;>simp only[l,c]
theorem Ra(u:β i=false):∀k,i<k->(∀j,i<j->j<k->β j=true->(∀x,D i=some x->D j≠some x)/\(∀x,(F i).mw.tgt=some x->(F j).mw.tgt≠some x))->
 st D F s0 (upd β i) k=(st D F s0 β k).put (D i) (F i):=by
 intro k
 induction k with
 |zero=>intro h;omega
 |succ k ih=>
  intro z h;by_cases e:k=i
  .subst e
   have c:st D F s0 (upd β k) k=st D F s0 β k:=Iv D F s0 k λj E=>by simp only[upd];rw[if_neg (by omega)]
   simp only[st,u,upd,if_true,c];rfl
  .have m:=ih (by omega) λj c q=>h j c (by omega)
   have C:upd β i k=β k:=by simp only[upd];rw[if_neg e]
   simp only[st,C,m];by_cases l:β k=true
   .simp only[l,if_true]
    obtain⟨c,q⟩:=h k (by omega) (by omega) l;simp only[VS.put];rw[To _ _ _ c,Sx _ q]
   .simp only[l];rfl
theorem Ni(β:Nat->Bool):∀k,cnt β k<=k
 |0=>Nat.le_refl _
 |k+1=>by have:=Ni β k;simp only[cnt];split<;>omega
theorem Nk{β:Nat->Bool}:∀k,cnt β k=k-> ∀j,j<k->β j=true
 |0,_,j,hj=>by omega
 |k+1,h,j,hj=>by
  have:=Ni β k;simp only[cnt]at h;by_cases c:β k=true
  .rw[c]at h
   by_cases e:j=k
   .rw[e];exact c
   .exact Nk k (by simpa using h) j (by omega)
  .simp only[c]at h;simp at h;omega
theorem Nh{β:Nat->Bool}{i:Nat}(c:β i=false):∀k,cnt (upd β i) k=cnt β k+if i<k then 1 else 0
 |0=>by simp[cnt]
 |k+1=>by
  have l:=Nh c k;simp only[cnt,l];by_cases e:k=i
  .subst e;simp[upd,c]
  .have j:upd β i k=β k:=by simp only[upd];rw[if_neg e]
   rw[j];have h:(if i<k+1 then 1 else 0)=(if i<k then 1 else 0):=by split<;>split<;>omega
   rw[h];omega
theorem Nj:∀k,cnt (λ_=>false) k=0
 |0=>rfl
 |k+1=>by simp[cnt,Nj k]
def Bl(id:Nat)(s:VS):Prop:=s.mem id=none/\(∀x∈s.fr,x.has id=false)/\ ∀k b,s.mem k=some b->b.1.any (SV.has id)=false
theorem NL{s:VS}{d:Option Nat}{e:Eff}(h:Bl id s)(l:e.has id=false)(z:e.mw.tgt≠some id):Bl id (s.put d e):=by
 obtain⟨a,b,c⟩:=h;simp only[Eff.has,Bool.or_eq_false_iff]at l;refine⟨by simp only[VS.put];rw[Dc z];exact a,?_,?_⟩
 .intro x u
  simp only[VS.put]at u;cases d with
  |none=>exact b x u
  |some d=>
   rcases List.mem_or_eq_of_mem_set u with h|h
   .exact b x h
   .rw[h];exact l.1
 .intro k m j
  simp only[VS.put]at j;cases q:e.mw with
  |none=>rw[q]at j;exact c k m j
  |new id' b'=>
   rw[q]at j l;simp only[BC]at j;split at j
   .injection j with j;subst j;simpa[MW.has] using l.2
   .exact c k m j
  |wr id' b'=>
   rw[q]at j l;simp only[BC]at j;split at j
   .injection j with j;subst j;simpa[MW.has] using l.2
   .exact c k m j
theorem Re(c:Bl id s0):∀k,(∀j,j<k->β j=true->(F j).has id=false/\(F j).mw.tgt≠some id)->Bl id (st D F s0 β k):=by
 intro k
 induction k with
 |zero=>intro _;exact c
 |succ k ih=>
  intro h;simp only[st];split
  .rename_i hk
   obtain⟨e,l⟩:=h k (by omega) hk;exact NL (ih λj m=>h j (by omega)) e l
  .exact ih λj m=>h j (by omega)
end
structure Wr(w w':World)(g:Nat):Prop where
 os:w'.os=w.os
 tape:w'.tape=w.tape
 output:w'.output=w.output
 size:w'.heap.size=w.heap.size
 block:∀k,k≠g->w'.heap[k]? =w.heap[k]?
 froz:∀a,w'.frozen? a=w.frozen? a
def GM(w0:World)(t:VS)(rd:List Nat)(ρ:Nat->Nat)(w:World):Prop:=
 Gw w0 w/\ ∀id b,id∈rd->t.mem id=some b->w0.heap.size<=ρ id/\w.heap[ρ id]? =some (cellsOf ρ b)
inductive Ev(P:Program)(ops:Array Oper)(w0:World)(o:Oper)(t:VS):Eff->Prop
 |run (val:SV) (rd:List Nat) (hw:∀ρ,Region.wanted o (yielded ops (t.act ρ).tmps)=true)
  (h:∀ρ w,GM w0 t rd ρ w->(execOp (t.act ρ).eval o).run P w=.ok (.value (val.c ρ)) w):Ev P ops w0 o t ⟨val,.none,rd⟩
 |skip (hw:∀ρ,Region.wanted o (yielded ops (t.act ρ).tmps)=false):Ev P ops w0 o t ⟨.v undef,.none,[]⟩
 |new (id:Nat) (b:Blk) (hw:∀ρ,Region.wanted o (yielded ops (t.act ρ).tmps)=true) (hid:b.1.any (SV.has id)=false)
  (h:∀ρ w,GM w0 t [] ρ w->(execOp (t.act ρ).eval o).run P w=.ok (.value (.pointer (some ⟨w.heap.size,0,none⟩))) (w.alloc (cellsOf ρ b))):Ev P ops w0 o t ⟨.p id 0,.new id b,[]⟩
 |wr (id:Nat) (b:Blk) (hw:∀ρ,Region.wanted o (yielded ops (t.act ρ).tmps)=true) (hm:(t.mem id).isSome)
  (h:∀ρ w,GM w0 t [id] ρ w-> ∃w',(execOp (t.act ρ).eval o).run P w=.ok .skip w'/\Wr w w' (ρ id)/\w'.heap[ρ id]? =some (cellsOf ρ b)):Ev P ops w0 o t ⟨.v undef,.wr id b,[id]⟩
 |call (f:FuncId) (args:(Nat->Nat)->Array Value) (val:SV) (rd:List Nat) (hw:∀ρ,Region.wanted o (yielded ops (t.act ρ).tmps)=true)
  (h:∀ρ w,GM w0 t [] ρ w->(execOp (t.act ρ).eval o).run P w=.ok (.enter f (args ρ)) w)
  (hc:∀ρ w,GM w0 t rd ρ w->Calls P f (args ρ) w λe w'=>e=.returned (val.c ρ)/\Gw w w'):Ev P ops w0 o t ⟨val,.none,rd⟩
 |callnew (f:FuncId) (args:(Nat->Nat)->Array Value) (val:SV) (rd:List Nat) (id:Nat) (b:Blk) (hw:∀ρ,Region.wanted o (yielded ops (t.act ρ).tmps)=true) (hid:b.1.any (SV.has id)=false)
  (h:∀ρ w,GM w0 t [] ρ w->(execOp (t.act ρ).eval o).run P w=.ok (.enter f (args ρ)) w)
  (hc:∀ρ w,GM w0 t rd ρ w->Calls P f (args ρ) w λe w'=> ∃g,w.heap.size<=g/\e=.returned (val.c λk=>if k=id then g else ρ k)/\w'.heap[g]? =some (cellsOf ρ b)/\Gw w w'):Ev P ops w0 o t ⟨val,.new id b,rd⟩
theorem GL(s:VS)(ρ:Nat->Nat)(x:Nat):(s.act ρ).tmps[x]? =(s.fr[x]?).map (SV.c ρ):=by simp[VS.act]
theorem Tp{s t:VS}(h:∀k,x=.tmp k->s.fr[k]? =t.fr[k]?):(s.act ρ).eval x=(t.act ρ).eval x:=by
 cases x with
 |tmp k=>
  have c:(s.act ρ).tmps[k]? =(t.act ρ).tmps[k]? :=by rw[GL,GL,h k rfl]
  simp only[Act.eval,Array.getD_eq_getD_getElem?,c]
 |_=>rfl
theorem LL{r:Nat}{x:SV}(h:x.has id=false):x.c (λk=>if k=id then r else ρ k)=x.c ρ:=by
 cases x with
 |v x=>rfl
 |p k o=>simp only[SV.c];rw[if_neg];rintro rfl;simp[SV.has]at h
 |s k o l m=>simp only[SV.c];rw[if_neg];rintro rfl;simp[SV.has]at h
 |tp k o y=>simp only[SV.c];rw[if_neg];rintro rfl;simp[SV.has]at h
 |ap k o=>simp only[SV.c];rw[if_neg];rintro rfl;simp[SV.has]at h
theorem Qh{r:Nat}{s:VS}(h:Bl id s):s.act (λk=>if k=id then r else ρ k)=s.act ρ:=by
 simp only[VS.act];rw[List.map_congr_left λx c=>LL (h.2.1 x c)]
theorem QK{r:Nat}{b:Blk}(h:b.1.any (SV.has id)=false):cellsOf (λk=>if k=id then r else ρ k) b=cellsOf ρ b:=by
 simp only[cellsOf];rw[List.map_congr_left λx c=>LL (by have:=List.any_eq_false.1 h x c;simpa using this)]
theorem Ev.step{e:Eff}{s t:VS}(a4:Ev P ops w0 o t e)
 (a1:∀cs b,o.op≠ .select cs b)(hl:∀x∈o.looksAt ops,s.fr[x]? =t.fr[x]?)(hm:∀id∈e.rd,s.mem id=t.mem id)
 (J:∀id,e.mw.newId=some id->Bl id s)(q:Rel w0 ρ s w){K:Act->World->Prop}
 (W:∀a2 T,Rel w0 a2 (s.put o.dst e) T->K ((s.put o.dst e).act a2) T):
 if Region.wanted o (yielded ops (s.act ρ).tmps)then o.wp P (s.act ρ) w K Q\/(o.asks P (s.act ρ) w/\LetsOut Q)else K ((s.act ρ).put o.dst undef) w:=by
 have hex:execOp (s.act ρ).eval o=execOp (t.act ρ).eval o:=execOp_congr o a1 λx V=>Tp λk j=>hl k (by
  subst j;exact List.mem_append_left _ (List.mem_filterMap.2 ⟨.tmp k,by simpa using V,rfl⟩))
 have C:Region.wanted o (yielded ops (s.act ρ).tmps)=Region.wanted o (yielded ops (t.act ρ).tmps):=by
  unfold Region.wanted;cases U:o.guard with
  |none=>rfl
  |some gw=>
   obtain⟨g,a6⟩:=gw
   have hy:yielded ops (s.act ρ).tmps g=yielded ops (t.act ρ).tmps g:=by
    unfold yielded;cases ht:(ops[g]?).bind (·.dst)with
    |none=>rfl
    |some d=>
     have O:(s.act ρ).tmps[d]? =(t.act ρ).tmps[d]? :=by rw[GL,GL,hl d (by simp[Oper.looksAt,U,ht])]
     simp only[Option.bind_some,O]
   simp only[hy]
 have u:GM w0 t e.rd ρ w:=⟨q.gw,λid b M hb=>q.own id b (by rw[hm id M];exact hb)⟩
 cases a4 with
 |run val rd hw h=>
  rw[if_pos (by rw[C];exact hw ρ)];refine .inl ?_;unfold Oper.wp;rw[hex,h ρ w u];simp only[Oper.upon];have:=W ρ w ⟨q.gw,q.own,q.inj⟩
  rwa [Hc]at this
 |skip hw=>
  rw[if_neg (by rw[C,hw ρ];simp)];have:=W ρ w ⟨q.gw,q.own,q.inj⟩
  rwa [Hc]at this
 |new id b hw M h=>
  rw[if_pos (by rw[C];exact hw ρ)];refine .inl ?_;unfold Oper.wp;rw[hex,h ρ w ⟨u.1,λ_ _ V=>by cases V⟩];simp only[Oper.upon];have Y:=J id rfl
  have E:∀k z,s.mem k=some z->ρ k<w.heap.size:=by
   intro k z j;have:=(q.own k z j).2;apply Classical.byContradiction;intro X;rw[Array.getElem?_eq_none (by omega)]at this;cases this
  have:=W (λk=>if k=id then w.heap.size else ρ k) (w.alloc (cellsOf ρ b)) ⟨q.gw.alloc _ _,?_,?_⟩
  .rw[Hc,Qh Y]at this
   simpa[SV.c] using this
  .intro k z j
   simp only[VS.put,BC]at j;by_cases e:k=id
   .subst e
    simp only[if_true]at j⊢;injection j with j;subst j
    refine⟨q.gw.b.size,?_⟩;rw[QK M];exact heap_alloc_new _ _
   .simp only[if_neg e]at j⊢
    obtain⟨O,R⟩:=q.own k z j;refine⟨O,?_⟩;rw[QK (Y.2.2 k z j),Below.heap_alloc _ _ _ (E k z j)];exact R
  .intro k l j m
   simp only[VS.put,BC]at j m;by_cases e:k=id<;>by_cases N:l=id
   .intro _;rw[e,N]
   .intro H
    simp only[if_pos e,if_neg N]at H m;obtain⟨z,G⟩:=Option.isSome_iff_exists.1 m;have:=E l z G;omega
   .intro H
    simp only[if_neg e,if_pos N]at H j;obtain⟨z,G⟩:=Option.isSome_iff_exists.1 j;have:=E k z G;omega
   .intro H
    simp only[if_neg e,if_neg N]at H j m;exact q.inj k l j m H
 |wr id b hw hmm h=>
  rw[if_pos (by rw[C];exact hw ρ)];refine .inl ?_;obtain⟨T,a0,I,L⟩:=h ρ w u;unfold Oper.wp;rw[hex,a0];simp only[Oper.upon];have S:(s.mem id).isSome:=by rw[hm id (by simp)];exact hmm
  obtain⟨b0,a3⟩:=Option.isSome_iff_exists.1 S;have Z:=(q.own id b0 a3).1;have:=W ρ T ⟨⟨?_,?_⟩,?_,?_⟩
  .rw[Hc]at this
   simpa[SV.c] using this
  .refine⟨I.os.trans q.gw.b.os,I.tape.trans q.gw.b.tape,I.output.trans q.gw.b.output,by rw[I.size];exact q.gw.b.size,λk j=> ?_⟩
   rw[I.block k (by omega)];exact q.gw.b.block k j
  .exact λa=>(I.froz a).trans (q.gw.f a)
  .intro k z j
   simp only[VS.put,BC]at j;by_cases e:k=id
   .subst e
    simp only[if_true]at j;injection j with j;subst j
    exact⟨Z,L⟩
   .simp only[if_neg e]at j
    obtain⟨O,R⟩:=q.own k z j;refine⟨O,?_⟩;rw[I.block _ (λH=>e (q.inj k id (by simp[j]) S H))];exact R
  .intro k l j m
   refine q.inj k l ?_ ?_
   .simp only[VS.put,BC]at j;split at j
    .rename_i e;rw[e];exact S
    .exact j
   .simp only[VS.put,BC]at m;split at m
    .rename_i e;rw[e];exact S
    .exact m
 |call f args val rd hw h X=>
  rw[if_pos (by rw[C];exact hw ρ)];refine .inl ?_;unfold Oper.wp;rw[hex,h ρ w ⟨u.1,λ_ _ V=>by cases V⟩];simp only[Oper.upon];refine(X ρ w u).mono ?_;rintro e T ⟨rfl,U⟩;have:=W ρ T ⟨q.gw.trans U,?_,q.inj⟩
  .rw[Hc]at this;exact this
  .intro k z j
   obtain⟨O,R⟩:=q.own k z j;refine⟨O,?_⟩
   have E:ρ k<w.heap.size:=by
    apply Classical.byContradiction;intro a7;rw[Array.getElem?_eq_none (by omega)]at R;cases R
   rw[U.b.block _ E];exact R
 |callnew f args val rd id b hw M h X=>
  rw[if_pos (by rw[C];exact hw ρ)];refine .inl ?_;unfold Oper.wp;rw[hex,h ρ w ⟨u.1,λ_ _ V=>by cases V⟩];simp only[Oper.upon];refine(X ρ w u).mono ?_;rintro e T ⟨g,a5,rfl,L,U⟩;have Y:=J id rfl
  have E:∀k z,s.mem k=some z->ρ k<w.heap.size:=by
   intro k z j;have:=(q.own k z j).2;apply Classical.byContradiction;intro X;rw[Array.getElem?_eq_none (by omega)]at this;cases this
  have:=W (λk=>if k=id then g else ρ k) T ⟨q.gw.trans U,?_,?_⟩
  .rw[Hc,Qh Y]at this
   exact this
  .intro k z j
   simp only[VS.put,BC]at j;by_cases e:k=id
   .subst e
    simp only[if_true]at j⊢;injection j with j;subst j
    refine⟨Nat.le_trans q.gw.b.size a5,?_⟩;rw[QK M];exact L
   .simp only[if_neg e]at j⊢
    obtain⟨O,R⟩:=q.own k z j;refine⟨O,?_⟩;rw[QK (Y.2.2 k z j),U.b.block _ (E k z j)];exact R
  .intro k l j m
   simp only[VS.put,BC]at j m;by_cases e:k=id<;>by_cases N:l=id
   .intro _;rw[e,N]
   .intro H
    simp only[if_pos e,if_neg N]at H m;obtain⟨z,G⟩:=Option.isSome_iff_exists.1 m;have:=E l z G;omega
   .intro H
    simp only[if_neg e,if_pos N]at H j;obtain⟨z,G⟩:=Option.isSome_iff_exists.1 j;have:=E k z G;omega
   .intro H
    simp only[if_neg e,if_neg N]at H j m;exact q.inj k l j m H
theorem Ev.sound(E:ops[i]? =some o){e:Eff}{s t:VS}(l:Ev P ops w0 o t e)
 (h:∀q b,o.op≠ .select q b)(z:∀x∈o.looksAt ops,s.fr[x]? =t.fr[x]?)(C:∀id∈e.rd,s.mem id=t.mem id)
 (c:∀id,e.mw.newId=some id->Bl id s)(G:Rel w0 ρ s w){K:Act->World->Prop}
 (u:∀j m,Rel w0 j (s.put o.dst e) m->K ((s.put o.dst e).act j) m):wpOp P ops Q i K (s.act ρ) w:=by
 unfold wpOp;simp only[E];exact l.step h z C c G u
def Jo(o:Oper)(i:Nat):Bool:=o.after.any λe=>Region.binds .any e && e.on==i
def EM(a b:Option Nat):Bool:=match a,b with|some x,some y=>x !=y|_,_=>true
def HT(ops:Array Oper)(x:Oper)(e:Eff)(y:Oper)(f:Eff):Bool:=
 (match x.dst with|some d=> !(y.looksAt ops).contains d|none=>true) && (match y.dst with|some d=> !(x.looksAt ops).contains d|none=>true) && EM x.dst y.dst &&
 EM e.mw.tgt f.mw.tgt && (match e.mw.tgt with|some k=> !f.rd.contains k|none=>true) && (match f.mw.tgt with|some k=> !e.rd.contains k|none=>true) &&
 (match e.mw.newId with|some k=> !f.has k|none=>true)
def Dv:Op->Bool
 | .select _ _=>true
 |_=>false
def veB(ops:Array Oper)(l:List Oper)(E:List Eff):Bool:=
 (List.range l.length).all λj=>
  match l[j]?,E[j]? with
  |some y,some f=>
   !Dv y.op && y.after.all (λe=> !Region.binds .any e||decide (e.on<j)) &&
   (List.range j).all λi=>
    match l[i]?,E[i]? with
    |some x,some e=>(Jo y i||HT ops x e y f) && (match f.mw.newId with|some k=> !e.has k && EM (some k) e.mw.tgt|none=>true) &&
     (match e.mw.newId with|some k=>EM (some k) f.mw.newId|none=>true)
    |_,_=>false
  |_,_=>false
inductive VE(P:Program)(ops:Array Oper)(w0:World):List Oper->List Eff->VS->VS->Prop
 |nil (s:VS):VE P ops w0 [] [] s s
 |cons {o:Oper} {l:List Oper} {e:Eff} {E:List Eff} {s s':VS} (h:Ev P ops w0 o s e) (r:VE P ops w0 l E (s.put o.dst e) s'):VE P ops w0 (o::l) (e::E) s s'
section
variable{P:Program}{ops:Array Oper}{w0:World}
def De(l:List Oper)(k:Nat):Option Nat:=(l[k]?).bind (·.dst)
def Fe(E:List Eff)(k:Nat):Eff:=(E[k]?).getD ⟨.v undef,.none,[]⟩
theorem Lv(D:Nat->Option Nat)(F:Nat->Eff)(s:VS):∀k,st D F s (λ_=>true) (k+1)=st (λj=>D (j+1)) (λj=>F (j+1)) (s.put (D 0) (F 0)) (λ_=>true) k:=by
 intro k
 induction k with
 |zero=>rfl
 |succ k ih=>simp only[st,if_true]at ih ⊢; rw[ih]
theorem VE.length{l:List Oper}{E:List Eff}{s c:VS}(h:VE P ops w0 l E s c):E.length=l.length:=by
 induction h with
 |nil=>rfl
 |cons _ _ ih=>simp[ih]
theorem VE.at{l:List Oper}{E:List Eff}{s q:VS}(h:VE P ops w0 l E s q):
 (∀i o,l[i]? =some o->Ev P ops w0 o (st (De l) (Fe E) s (λ_=>true) i) (Fe E i))/\q=st (De l) (Fe E) s (λ_=>true) l.length:=by
 induction h with
 |nil s=>exact⟨λi o h=>(by simp at h),rfl⟩
 | @cons o l e E s q h r ih=>
   obtain⟨j,m⟩:=ih;refine⟨λi u c=> ?_,?_⟩
   .cases i with
    |zero=>simp at c;subst c;exact h
    |succ i=>rw[Lv];exact j i u (by simpa using c)
   .rw[List.length_cons,Lv];exact m
theorem Rq(c:i<listed.size):(λj=>(listed.setIfInBounds i true).getD j false)=upd (λj=>listed.getD j false) i:=by
 funext j
 simp only[upd,Array.getD_eq_getD_getElem?,Array.getElem?_setIfInBounds];by_cases h:i=j
 .subst h;simp[c]
 .simp[h,Ne.symm h]
theorem Q3{l:List Oper}{E:List Eff}{s s':VS}(a7:ops=l.toArray)(h:VE P ops w0 l E s s')(hB:veB ops l E=true)
 (e6:∀e∈E,∀id,e.mw.newId=some id->Bl id s)
 (hQ:∀ρ w,Rel w0 ρ s' w->Q .normal (s'.act ρ) w):
 ∀(G:Nat) (listed:Array Bool) (ρ:Nat->Nat) (w:World),listed.size=l.length->
  (∀j o,l[j]? =some o->listed.getD j false=true-> ∀e∈o.after,Region.binds .any e=true->listed.getD e.on false=true)->
  cnt (λj=>listed.getD j false) l.length+G=l.length->
  Rel w0 ρ (st (De l) (Fe E) s (λj=>listed.getD j false) l.length) w->
  wpAny P .any ops Q G listed ((st (De l) (Fe E) s (λj=>listed.getD j false) l.length).act ρ) w:=by
 obtain⟨e4,g5⟩:=h.at;have c9:=h.length;have g7:ops.size=l.length:=by rw[a7];simp
 have a5:∀i:Nat,ops[i]? =l[i]? :=by intro i;rw[a7];simp
 have M:∀j y f,l[j]? =some y->E[j]? =some f->(Dv y.op=false)/\(∀e∈y.after,Region.binds .any e=true->e.on<j)/\
  ∀i x e,i<j->l[i]? =some x->E[i]? =some e->(Jo y i||HT ops x e y f)=true/\(∀k,f.mw.newId=some k->e.has k=false/\e.mw.tgt≠some k)/\(∀k,e.mw.newId=some k->f.mw.newId≠some k):=by
  intro j y f hy K;have C:j<l.length:=(List.getElem?_eq_some_iff.1 hy).1;have N:=List.all_eq_true.1 hB j (List.mem_range.2 C);simp only[hy,K,Bool.and_eq_true,Bool.not_eq_true']at N;obtain⟨⟨a1,a2⟩,a3⟩:=N;refine⟨a1,?_,?_⟩
  .intro e X I
   have:=Array.all_eq_true'.1 a2 e X;simpa[I] using this
  .intro i x e hi V X
   have h2:=List.all_eq_true.1 a3 i (List.mem_range.2 hi);simp only[V,X,Bool.and_eq_true]at h2;obtain⟨⟨b1,b2⟩,b3⟩:=h2;refine⟨b1,?_,?_⟩
   .intro k L
    simp only[L,Bool.and_eq_true,Bool.not_eq_true']at b2;refine⟨b2.1,?_⟩;intro ht;have:=b2.2;simp[EM,ht]at this
   .intro k L e8
    simp only[L,e8,EM]at b3;simp at b3
 have hE:∀i o,l[i]? =some o-> ∃e,E[i]? =some e/\Fe E i=e/\De l i=o.dst:=by
  intro i o hi;have C:i<E.length:=by rw[c9];exact(List.getElem?_eq_some_iff.1 hi).1
  exact⟨E[i],by simp[C],by simp[Fe,C],by simp[De,hi]⟩
 intro G
 induction G with
 |zero=>
  intro listed ρ w e0 b5 hc hr;have a0:=Nk (β:=λj=>listed.getD j false) l.length (by omega)
  have g6:st (De l) (Fe E) s (λj=>listed.getD j false) l.length=s':=by
   rw[g5];exact Iv _ _ _ _ λj C=>a0 j C
  rw[g6]at hr⊢;refine⟨?_,hQ ρ w hr⟩;cases g4:Region.ready .any ops listed with
  |nil=>rfl
  |cons i rs=>
   have:i∈Region.ready .any ops listed:=by rw[g4];simp
   obtain⟨N,o,ho,_⟩:=mem_ready.1 this;have hi:i<l.length:=by rw[<-g7];exact(Array.getElem?_eq_some_iff.1 ho).1
   have:=a0 i hi;rw[getD_both N]at this;cases this
 |succ G ih=>
  intro listed ρ w e0 b5 hc hr;refine⟨?_,?_⟩
  .intro e1;exfalso
   have g9:∀k,k<l.length->listed.getD k false=true:=by
    intro k
    induction k using Nat.strongRecOn with
    |_ k ihk=>
     intro L;apply Classical.byContradiction;intro K;have e5:listed.getD k false=false:=by simpa using K
     obtain⟨e,X,_,_⟩:=hE k l[k] (by simp[L]);obtain⟨_,e2,_⟩:=M k l[k] e (by simp[L]) X
     have:k∈Region.ready .any ops listed:=by
      refine mem_ready.2 ⟨getD_in (by omega) e5,l[k],by rw[a5];simp[L],λW H I=> ?_⟩;have:=e2 W H I;exact ihk W.on this (by omega)
     rw[e1]at this;cases this
   have h4:cnt (λj=>listed.getD j false) l.length=l.length:=by
    have hh:∀k,k<=l.length->cnt (λj=>listed.getD j false) k=k:=by
     intro k
     induction k with
     |zero=>intro _;rfl
     |succ k ihk=>intro L;simp only[cnt,ihk (by omega),g9 k (by omega),if_true]
    exact hh _ (Nat.le_refl _)
   omega
  .intro i hi
   obtain⟨g8,o,ho,a4⟩:=mem_ready.1 hi;have q:=getD_both g8;have S:l[i]? =some o:=by rw[<-a5];exact ho
   have b6:i<l.length:=(List.getElem?_eq_some_iff.1 S).1;obtain⟨e,X,b4,b9⟩:=hE i o S;obtain⟨a9,e2,e3⟩:=M i o e S X
   have O:∀j x f,l[j]? =some x->E[j]? =some f->(listed.getD j false≠decide (j<i))->j≠i->
    (∀d,x.dst=some d->d∉o.looksAt ops)/\(∀k,f.mw.tgt=some k->k∉e.rd)/\(i<j->(∀d,o.dst=some d->x.dst≠some d)/\(∀k,e.mw.tgt=some k->f.mw.tgt≠some k)/\(∀k,e.mw.newId=some k->f.has k=false)):=by
    intro j x f V K z c
    have a6:∀d u:Option Nat,EM d u=true-> ∀k,d=some k->u≠some k:=by
     intro d u h k U hu;simp[U,hu,EM]at h
    rcases Nat.lt_or_gt_of_ne c with Z|hgt
    .have e9:listed.getD j false=false:=by simpa[Z] using z
     have b7:Jo o j=false:=by
      cases I:Jo o j with
      |false=>rfl
      |true=>
       obtain⟨W,H,J⟩:=Array.any_eq_true'.1 I;simp only[Bool.and_eq_true,beq_iff_eq]at J;have:=a4 W H J.1;rw[J.2,e9]at this;cases this
     have N:=(e3 j x f Z V K).1;rw[b7,Bool.false_or]at N;simp only[HT,Bool.and_eq_true]at N;obtain⟨⟨⟨⟨⟨⟨c1,c2⟩,c3⟩,c4⟩,c5⟩,c6⟩,c7⟩:=N;refine⟨?_,?_,λhh=>by omega⟩
     .intro d U;rw[U]at c1;simpa using c1
     .intro k L;rw[L]at c5;simpa using c5
    .have Y:listed.getD j false=true:=by
      have:decide (j<i)=false:=by simp;omega
      rw[this]at z;simpa using z
     have b7:Jo x i=false:=by
      cases I:Jo x i with
      |false=>rfl
      |true=>
       obtain⟨W,H,J⟩:=Array.any_eq_true'.1 I;simp only[Bool.and_eq_true,beq_iff_eq]at J;have:=b5 j x V Y W H J.1;rw[J.2,q]at this;cases this
     have N:=((M j x f V K).2.2 i o e hgt S X).1;rw[b7,Bool.false_or]at N;simp only[HT,Bool.and_eq_true]at N;obtain⟨⟨⟨⟨⟨⟨c1,c2⟩,c3⟩,c4⟩,c5⟩,c6⟩,c7⟩:=N;refine⟨?_,?_,λ_=>⟨a6 _ _ c3,a6 _ _ c4,?_⟩⟩
     .intro d U;rw[U]at c2;simpa using c2
     .intro k L;rw[L]at c6;simpa using c6
     .intro k L;rw[L]at c7;simpa using c7
   have b0:=Rq (listed:=listed) (i:=i) (by omega)
   have b8:st (De l) (Fe E) s (λ_=>true) i=st (De l) (Fe E) s (λj=>decide (j<i)) l.length:=by
    have N:∀k,i+k<=l.length->st (De l) (Fe E) s (λj=>decide (j<i)) (i+k)=st (De l) (Fe E) s (λj=>decide (j<i)) i:=by
     intro k
     induction k with
     |zero=>intro _;rfl
     |succ k ihk=>
      intro L;have:decide (i+k<i)=false:=by simp
      rw[<-Nat.add_assoc];simp only[st,this];exact ihk (by omega)
    rw[<-Nat.add_sub_cancel' (Nat.le_of_lt b6),N _ (by omega)];exact Iv _ _ _ _ λj C=>by simp[C]
   have a8:st (De l) (Fe E) s (λj=>(listed.setIfInBounds i true).getD j false) l.length=(st (De l) (Fe E) s (λj=>listed.getD j false) l.length).put o.dst e:=by
    rw[b0,<-b9,<-b4];refine Ra _ _ _ q _ b6 λj e7 c8 I=> ?_
    obtain⟨f,K,R,T⟩:=hE j l[j] (by simp[c8]);obtain⟨_,_,h3⟩:=O j l[j] f (by simp[c8]) K (by simp[I];omega) (by omega);obtain⟨g1,g2,_⟩:=h3 e7;rw[b9,b4,T,R];exact⟨g1,g2⟩
   have c0:=e4 i o S;rw[b4,b8]at c0;refine c0.sound (s:=st (De l) (Fe E) s (λj=>listed.getD j false) l.length) ho ?_ ?_ ?_ ?_ hr ?_
   .intro cs b hh;rw[hh]at a9;cases a9
   .intro x V
    refine Rf _ _ _ x _ λj C z U=> ?_
    obtain⟨f,K,R,T⟩:=hE j l[j] (by simp[C]);by_cases c:j=i
    .subst c;simp[q]at z
    .obtain⟨g1,_,_⟩:=O j l[j] f (by simp[C]) K z c
     rw[T]at U;exact g1 x U V
   .intro id m
    refine Rb _ _ _ id _ λj C z U=> ?_
    obtain⟨f,K,R,T⟩:=hE j l[j] (by simp[C]);by_cases c:j=i
    .subst c;simp[q]at z
    .obtain⟨_,g2,_⟩:=O j l[j] f (by simp[C]) K z c
     rw[R]at U;exact g2 id U m
   .intro id m
    refine Re _ _ _ (e6 e (List.mem_of_getElem? X) id m) _ λj C I=> ?_
    obtain⟨f,K,R,T⟩:=hE j l[j] (by simp[C]);rw[R];have c:j≠i:=by rintro rfl;rw[q]at I;cases I
    rcases Nat.lt_or_gt_of_ne c with Z|hgt
    .exact(e3 j l[j] f Z (by simp[C]) K).2.1 id m
    .obtain⟨_,_,h3⟩:=O j l[j] f (by simp[C]) K (by simp[I];omega) c
     obtain⟨_,g2,g3⟩:=h3 hgt;refine⟨g3 id m,g2 id ?_⟩;cases hm:e.mw with
     |none=>rw[hm]at m;cases m
     |new id' b=>rw[hm]at m;simpa[MW.newId,MW.tgt] using m
     |wr id' b=>rw[hm]at m;cases m
   .intro h0 w' g0
    have:=ih (listed.setIfInBounds i true) h0 w' (by simpa using e0) ?_ ?_ (by rw[a8];exact g0)
    .rw[a8]at this;exact this
    .intro j x V Y W H I
     by_cases c:j=i
     .subst c
      have:x=o:=Option.some.inj (V.symm.trans S);subst this;exact getD_set_true (a4 W H I)
     .rw[getD_set_ne false (Ne.symm c)]at Y
      exact getD_set_true (b5 j x V Y W H I)
    .rw[b0,Nh q,if_pos b6];omega
theorem Qz{l:List Oper}{E:List Eff}{s G:VS}(L:P.follows .mixedOrders=true)(h:VE P l.toArray w0 l E s G)(J:veB l.toArray l E=true)
 (u:∀e∈E,∀id,e.mw.newId=some id->Bl id s)(K:∀ρ w,Rel w0 ρ G w->Q .normal (G.act ρ) w)
 (z:Rel w0 ρ s w):(Code.region id l.toArray true).wp P Q (s.act ρ) w:=by
 refine wp_region_any L ?_;have m:(λj=>(Array.replicate l.toArray.size false).getD j false)=λ_=>false:=by funext j;exact getD_replicate_false _ _
 have q:∀k,st (De l) (Fe E) s (λ_=>false) k=s:=by
  intro k
  induction k with
  |zero=>rfl
  |succ k ih=>simp only[st];exact ih
 have H:∀k,st (De l) (Fe E) s (λj=>(Array.replicate l.toArray.size false).getD j false) k=s:=by rw[m];exact q
 have c:cnt (λj=>(Array.replicate l.toArray.size false).getD j false) l.length=0:=by
  have:(λj=>(Array.replicate l.toArray.size false).getD j false)=λ_=>false:=by funext j;exact getD_replicate_false _ _
  rw[this];exact Nj _
 have C:Rel w0 ρ s {w with drawn:=w.drawn+1}:=⟨Gw.drew z.gw,z.own,z.inj⟩
 have:=Q3 rfl h J u K l.toArray.size (Array.replicate l.toArray.size false) ρ {w with drawn:=w.drawn+1} (by simp)
  (λj o _ I=>by rw[getD_replicate_false]at I;cases I) (by rw[c];simp) (by rw[H];exact C)
 rw[H]at this;exact this
def plainB:List Eff->Bool
 | []=>true
 |e::E=>E.all (λf=>match f.mw.newId with|some k=> !e.has k && EM (some k) e.mw.tgt|none=>true) && plainB E
theorem Q1{l:List Oper}{E:List Eff}{s u:VS}(h:VE P ops w0 l E s u):(∀o∈l,Dv o.op=false)->plainB E=true->
 (∀e∈E,∀id,e.mw.newId=some id->Bl id s)-> ∀{Q:Exit->Act->World->Prop},(∀ρ w,Rel w0 ρ u w->Q .normal (u.act ρ) w)->
 ∀{ρ:Nat->Nat} {w:World},Rel w0 ρ s w->wpList P ops Q l (s.act ρ) w:=by
 induction h with
 |nil s=>intro _ _ _ Q G ρ w H;exact G ρ w H
 | @cons o l e E s u h r ih=>
   intro c C m Q G ρ w H;simp only[plainB,Bool.and_eq_true]at C
   have j:∀f∈E,∀id,f.mw.newId=some id->Bl id (s.put o.dst e):=by
    intro f J id q;have z:=List.all_eq_true.1 C.1 f J;simp only[q,Bool.and_eq_true,Bool.not_eq_true']at z;refine NL (m f (by simp[J]) id q) z.1 ?_;intro N;have:=z.2;simp[EM,N]at this
   have:=h.step (K:=wpList P ops Q l) (Q:=Q) (s:=s) (by intro R b L;have:=c o (by simp);rw[L]at this;cases this) (λ_ _=>rfl) (λ_ _=>rfl) (m e (by simp)) H
    (λO S I=>ih (λo M=>c o (by simp[M])) C.2 j G I)
   unfold wpList;exact this
theorem Q0{l:List Oper}{E:List Eff}{s m:VS}(h:VE P l.toArray w0 l E s m)(c:l.all (λo=> !Dv o.op)=true)(q:plainB E=true)
 (j:∀e∈E,∀id,e.mw.newId=some id->Bl id s)(u:∀ρ w,Rel w0 ρ m w->Q .normal (m.act ρ) w)
 (C:Rel w0 ρ s w):(Code.region id l.toArray false).wp P Q (s.act ρ) w:=
 wp_region_lit (Q1 h (λo z=>by have:=List.all_eq_true.1 c o z;simpa using this) q j u C)
end
def VOk(P:Program)(w0:World)(s:VS)(c:Code)(Q:Exit->VS->Prop):Prop:=
 ∀ρ w (R:Exit->Act->World->Prop),Rel w0 ρ s w->(∀e h j l,Q e j->Rel w0 h j l->R e (j.act h) l)->c.wp P R (s.act ρ) w
def AE(s:VS):Operand->SV
 | .tmp t=>(s.fr[t]?).getD (.v undef)
 | .const v=>.v v
 | .global g=>.v (.pointer (some ⟨g,0,none⟩))
 | .func f=>.v (.func (.func f) #[] #[])
theorem AI(s:VS)(ρ:Nat->Nat)(x:Operand):(s.act ρ).eval x=(AE s x).c ρ:=by
 cases x with
 |tmp t=>
  simp only[Act.eval,AE,Array.getD_eq_getD_getElem?,GL];cases s.fr[t]? <;>rfl
 |_=>rfl
section
variable{P:Program}{w0:World}
def Uj(P:Program)(w0:World)(d:Code)(Q:Exit->VS->Prop):Exit->VS->Prop
 | .normal,s=>VOk P w0 s d Q
 |e,s=>Q e s
theorem Fl{c d:Code}{s:VS}{Q:Exit->VS->Prop}(h:VOk P w0 s c (Uj P w0 d Q)):VOk P w0 s (.seq c d) Q:=by
 intro ρ w R u m;refine wp_seq (h ρ w _ u ?_);intro e l C z q j;cases e with
 |normal=>exact q l z R j m
 |_=>exact m _ _ _ _ q j
def Ny(id:Nat)(Q:Exit->VS->Prop):Exit->VS->Prop
 | .exit k,s=>if k=id then Q .normal s else Q (.exit k) s
 |e,s=>Q e s
theorem Hf{c:Code}{s:VS}{Q:Exit->VS->Prop}(h:VOk P w0 s c (Ny id Q)):VOk P w0 s (.block id c) Q:=by
 intro ρ w R q m;refine wp_block (h ρ w _ q ?_);intro e u z C l j;cases e with
 |exit k=>
  simp only[Ny]at l;simp only[Exit.inBlock];split
  .rename_i hk;rw[if_pos hk]at l;exact m _ _ _ _ l j
  .rename_i hk;rw[if_neg hk]at l;exact m _ _ _ _ l j
 |_=>exact m _ _ _ _ l j
theorem GO{s:VS}{Q:Exit->VS->Prop}(h:Q .normal s):VOk P w0 s .skip Q:=λ_ _ _ e c=>wp_skip (c _ _ _ _ h e)
theorem AG{s:VS}{Q:Exit->VS->Prop}(h:Q .ret s):VOk P w0 s .ret Q:=λ_ _ _ e c=>wp_ret (c _ _ _ _ h e)
theorem As{s:VS}{Q:Exit->VS->Prop}(h:Q (.exit id) s):VOk P w0 s (.exit id) Q:=λ_ _ _ e c=>wp_exit (c _ _ _ _ h e)
theorem Le{b:Bool}{c d:Code}{s:VS}{Q:Exit->VS->Prop}(l:AE s x=.v (.bool b))(h:VOk P w0 s (if b then c else d) Q):VOk P w0 s (.cond x c d) Q:=
 λρ w R j e=>wp_cond (by rw[AI,l];rfl) (h ρ w R j e)
theorem GP{c d:Code}{s:VS}{Q:Exit->VS->Prop}(e:AE s x=.v (.bool true))(h:VOk P w0 s c Q):VOk P w0 s (.cond x c d) Q:=Le e h
theorem GQ{c d:Code}{s:VS}{Q:Exit->VS->Prop}(e:AE s x=.v (.bool false))(h:VOk P w0 s d Q):VOk P w0 s (.cond x c d) Q:=Le e h
theorem Qy{l:List Oper}{E:List Eff}{s m:VS}{Q:Exit->VS->Prop}(C:P.follows .mixedOrders=true)(h:VE P l.toArray w0 l E s m)(q:veB l.toArray l E=true)
 (c:∀e∈E,∀id,e.mw.newId=some id->Bl id s)(u:Q .normal m):VOk P w0 s (.region id l.toArray true) Q:=
 λ_ _ _ G z=>Qz C h q c (λ_ _ j=>z _ _ _ _ u j) G
theorem Qx{l:List Oper}{E:List Eff}{s q:VS}{Q:Exit->VS->Prop}(h:VE P l.toArray w0 l E s q)(c:l.all (λo=> !Dv o.op)=true)(u:plainB E=true)
 (j:∀e∈E,∀id,e.mw.newId=some id->Bl id s)(z:Q .normal q):VOk P w0 s (.region id l.toArray false) Q:=
 λ_ _ _ G C=>Q0 h c u j (λ_ _ m=>C _ _ _ _ z m) G
def Ia(P:Program)(w0:World)(c:Code)(Q:Exit->VS->Prop):Nat->VS->Prop
 |0,_=>False
 |n+1,s=>VOk P w0 s c λe s'=>match e with| .normal=>Ia P w0 c Q n s'|e=>Q e s'
theorem Br{c:Code}{s:VS}{Q:Exit->VS->Prop}(n:Nat)(h:Ia P w0 c Q n s):VOk P w0 s (.loop c) Q:=by
 intro ρ w R u q;refine wp_loop_rounds n ?_
 induction n generalizing s ρ w with
 |zero=>exact h.elim
 |succ n ih=>
  rw[rounds_succ];refine h ρ w _ u ?_;intro e l C z m j;cases e with
  |normal=>exact ih m l z j
  |_=>exact q _ _ _ _ m j
theorem Ii{c:Code}{Q:Exit->VS->Prop}(I:Nat->VS->Prop)(l:∀n s,I n s->VOk P w0 s c λe u=>match e with| .normal=> ∃m,m<n/\I m u|e=>Q e u)
 {s:VS}(n:Nat)(h:I n s):VOk P w0 s (.loop c) Q:=by
 refine Br (n+1) ?_
 have H:∀N n s,n<=N->I n s->Ia P w0 c Q (N+1) s:=by
  intro N
  induction N with
  |zero=>
   intro n s L C ρ w R G z;refine l n s C ρ w R G ?_;intro e J u M q j;cases e with
   |normal=>obtain⟨m,K,_⟩:=q;omega
   |_=>exact z _ _ _ _ q j
  |succ N ih=>
   intro n s L C ρ w R G z;refine l n s C ρ w R G ?_;intro e J u M q j;cases e with
   |normal=>obtain⟨m,K,E⟩:=q;exact z _ _ _ _ (ih m u (by omega) E) j
   |_=>exact z _ _ _ _ q j
 exact H n n s (Nat.le_refl _) h
theorem dY{c:Code}{l:List Value}{R:Exit->Act->World->Prop}(Q:Exit->VS->Prop)(h:VOk P w ⟨l.map .v,λ_=>none⟩ c Q)
 (z:∀e ρ m q,Q e m->Rel w ρ m q->R e (m.act ρ) q):c.wp P R ⟨l.toArray,[]⟩ w:=by
 have u:(⟨l.toArray,[]⟩:Act)=(⟨l.map .v,λ_=>none⟩:VS).act (λ_=>0):=by
  simp[VS.act,SV.c,Function.comp_def]
 rw[u];exact h _ w R ⟨Gw.refl w,λ_ _ j=>(by cases j),λ_ _ j=>(by cases j)⟩ z
variable{ops:Array Oper}{o:Oper}{s:VS}
theorem Qw(c:o.guard=none)(t:Array Value):Region.wanted o (yielded ops t)=true:=by simp[Region.wanted,c]
theorem Ap(e:o.op=.move x)(c:∀ρ,Region.wanted o (yielded ops (s.act ρ).tmps)=true):Ev P ops w0 o s ⟨AE s x,.none,[]⟩:=
 .run _ _ c λρ w _=>by simp only[execOp,e];rw[AI];rfl
theorem CJ(e:o.op=.assign x)(c:∀ρ,Region.wanted o (yielded ops (s.act ρ).tmps)=true):Ev P ops w0 o s ⟨AE s x,.none,[]⟩:=
 .run _ _ c λρ w _=>by simp only[execOp,e];rw[AI];rfl
theorem Ts(v:Value)(c:∀ρ,Region.wanted o (yielded ops (s.act ρ).tmps)=true)(h:∀ρ w,(execOp (s.act ρ).eval o).run P w=.ok (.value v) w):Ev P ops w0 o s ⟨.v v,.none,[]⟩:=
 .run _ _ c λρ w _=>h ρ w
theorem D6{r:(Nat->Nat)->World->Result Next}(c:∀ρ,Region.wanted o (yielded ops (s.act ρ).tmps)=true)(h:∀ρ w,(execOp (s.act ρ).eval o).run P w=r ρ w)(e:∀ρ w,r ρ w=.ok (.value v) w):Ev P ops w0 o s ⟨.v v,.none,[]⟩:=
 Ts v c λρ w=>(h ρ w).trans (e ρ w)
theorem BZ{z:Value}(_hd:o.dst=some id)(h:o.op=.alloc ty)(e:∀ρ,Region.wanted o (yielded ops (s.act ρ).tmps)=true)(j:∀w,(zeroValue ty).run P w=.ok z w):
 Ev P ops w0 o s ⟨.p id 0,.new id (z.cells.toList.map .v,ty),[]⟩:=
 .new id _ e (by simp[SV.has]) λρ w _=>by
  simp[execOp,h,Instr.alloc,newVar,newRow,newObj,Sem.run_bind,j,Result.andThen,cellsOf,Function.comp_def,SV.c];rfl
theorem G3(_hd:o.dst=some id)(j:o.op=.box ty x)(e:∀ρ,Region.wanted o (yielded ops (s.act ρ).tmps)=true)(l:AE s x=.v v):
 Ev P ops w0 o s ⟨.p id 0,.new id (v.cells.toList.map .v,ty),[]⟩:=
 .new id _ e (by simp[SV.has]) λρ w _=>by
  have h:=AI s ρ x;rw[l]at h;simp[execOp,j,h,Instr.box,newVar,newRow,newObj,Result.andThen,cellsOf,Function.comp_def,SV.c];rfl
def Ba:TypeDesc->Bool
 | .struct _=>true
 | .array _ _=>true
 |_=>false
theorem Bp(c:P.underlying t=some d)(w:World):(isAgg t).run P w=.ok (Ba d) w:=by
 unfold isAgg;rw[Sem.run_bind,run_underlying c w];cases d<;>simp[Ba,Result.andThen]
theorem Bd(g off j:Nat):(⟨g,off,none⟩:Addr).add j=⟨g,off+j,none⟩:=by unfold Addr.add;split<;>simp_all
def unV:List SV->Option (List Value)
 | []=>some []
 | .v x::l=>match unV l with|some r=>some (x::r)|none=>none
 | .p _ _::_=>none
 | .s _ _ _ _::_=>none
 | .tp _ _ _::_=>none
 | .ap _ _::_=>none
theorem Eb:∀{l:List SV} {r:List Value},unV l=some r->l=r.map .v
 | [],r,h=>by simp[unV]at h;subst h;rfl
 | .v x::l,r,h=>by
   simp only[unV]at h;cases hl:unV l with
   |none=>rw[hl]at h;cases h
   |some q=>rw[hl]at h;simp only[Option.some.injEq]at h;subst h;rw[Eb hl];rfl
 | .p _ _::_,_,h=>by simp[unV]at h
 | .s _ _ _ _::_,_,h=>by simp[unV]at h
 | .tp _ _ _::_,_,h=>by simp[unV]at h
 | .ap _ _::_,_,h=>by simp[unV]at h
theorem BD{b:Blk}(I:o.op=.load ty x)(l:∀ρ,Region.wanted o (yielded ops (s.act ρ).tmps)=true)(N:AE s x=.p id off)(H:s.mem id=some b)
 (K:P.underlying ty=some d)(C:Ba d=true)(J:∀w,(Go.sizeOf ty).run P w=.ok n w)(m:unV ((b.1.drop off).take n)=some vs)(G:vs.length=n):Ev P ops w0 o s ⟨.v (.agg vs.toArray),.none,[id]⟩:=
 .run _ _ l λρ w M=>by
  have q:=AI s ρ x;rw[N]at q;obtain⟨_,z⟩:=M.2 id b (by simp) H;have L:=Eb m
  have e:(loadCells ⟨ρ id,off,none⟩ vs.length).run P w=.ok vs.toArray w:=run_loadCells_list w _ vs λj v E=>by
   rw[Bd];simp only[World.cell?,z,cellsOf];have h:((b.1.drop off).take n)[j]? =some (.v v):=by rw[L];simp[E]
   have u:b.1[off+j]? =some (.v v):=by
    rw[List.getElem?_take]at h;split at h
    .rwa [List.getElem?_drop]at h
    .cases h
   simp[u,SV.c]
  rw[G]at e;simp[execOp,I,q,SV.c,Instr.loadAt,Instr.sureAddr,loadVar,Bp K,C,J,e]
theorem BK{b:Blk}(u:o.op=.load ty x)(e:∀ρ,Region.wanted o (yielded ops (s.act ρ).tmps)=true)(G:AE s x=.p id off)(q:s.mem id=some b)
 (z:P.underlying ty=some d)(m:Ba d=false)(C:b.1[off]? =some (.v v)):Ev P ops w0 o s ⟨.v v,.none,[id]⟩:=
 .run _ _ e λρ w E=>by
  have h:=AI s ρ x;rw[G]at h;obtain⟨_,j⟩:=E.2 id b (by simp) q;have l:w.cell? ⟨ρ id,off,none⟩=some v:=by simp[World.cell?,j,cellsOf,C,SV.c]
  simp[execOp,u,h,SV.c,Instr.loadAt,Instr.sureAddr,loadVar,Bp z,m,l]
theorem A2(C:o.op=.load ty x)(h:∀ρ,Region.wanted o (yielded ops (s.act ρ).tmps)=true)(I:AE s x=.v (.pointer (some ⟨g,off,none⟩)))
 (G:P.underlying ty=some d)(q:Ba d=true)(E:∀w,(Go.sizeOf ty).run P w=.ok n w)(m:∀j v,vs[j]? =some v->w0.cell? ⟨g,off+j,none⟩=some v)(z:vs.length=n):Ev P ops w0 o s ⟨.v (.agg vs.toArray),.none,[]⟩:=
 .run _ _ h λρ w H=>by
  have l:=AI s ρ x;rw[I]at l
  have e:(loadCells ⟨g,off,none⟩ vs.length).run P w=.ok vs.toArray w:=run_loadCells_list w _ vs λj v u=>by
   rw[Bd];exact H.1.cell (m j v u)
  rw[z]at e;simp[execOp,C,l,SV.c,Instr.loadAt,Instr.sureAddr,loadVar,Bp G,q,E,e]
theorem BR{a:Addr}(m:o.op=.load ty x)(e:∀ρ,Region.wanted o (yielded ops (s.act ρ).tmps)=true)(z:AE s x=.v (.pointer (some a)))
 (q:P.underlying ty=some d)(l:Ba d=false)(j:w0.cell? a=some v):Ev P ops w0 o s ⟨.v v,.none,[]⟩:=
 .run _ _ e λρ w u=>by
  have h:=AI s ρ x;rw[z]at h;simp[execOp,m,h,SV.c,Instr.loadAt,Instr.sureAddr,loadVar,Bp q,l,u.1.cell j]
theorem BA{b:Blk}(I:o.op=.store ty x y)(h:∀ρ,Region.wanted o (yielded ops (s.act ρ).tmps)=true)(M:AE s x=.p id off)(C:s.mem id=some b)(N:AE s y=.v v)
 (J:∀w,(Go.sizeOf ty).run P w=.ok n w)(E:v.cells.size=n)(z:off+n<=b.1.length)(G:v.cells.toList.all (·.oneCell')=true):
 Ev P ops w0 o s ⟨.v undef,.wr id (b.1.take off++v.cells.toList.map .v++b.1.drop (off+n),b.2),[id]⟩:=
 .wr id _ h (by rw[C];rfl) λρ w L=>by
  have l:=AI s ρ x;rw[M]at l;have m:=AI s ρ y;rw[N]at m;obtain⟨_,e⟩:=L.2 id b (by simp) C;have j:=run_storeCells_at P (ρ id) off b.2 v.cells.toList 0 (b.1.map (SV.c ρ)).toArray w e (by simp;omega) (λu K=>List.all_eq_true.1 G u K);refine⟨w.setRow (ρ id) ((b.1.map (SV.c ρ)).toArray.toList.take (off+0)++v.cells.toList++(b.1.map (SV.c ρ)).toArray.toList.drop (off+0+v.cells.toList.length)).toArray,?_,?_,?_⟩
  .simp only[execOp,I,l,m,SV.c,Instr.storeAt,Instr.sureAddr,storeVar]
   rw[Sem.run_bind,Sem.run_bind,Sem.run_pure,Result.andThen_ok,Sem.run_bind,J,Result.andThen_ok,if_neg (by rw[E];simp),j];rfl
  .exact⟨rfl,rfl,rfl,by simp,λk H=>setRow_other w _ k _ H,λa=>by
    by_cases q:a.block=ρ id
    .simp[World.frozen?,q,e,cellsOf,setRow_heap w (ρ id) _ _ _ _ e]
    .simp[World.frozen?,setRow_other w (ρ id) a.block _ q]⟩
  .rw[setRow_heap w (ρ id) _ _ _ _ e]
   simp[cellsOf,Function.comp_def,SV.c,E,List.map_take,List.map_drop]
def AJ:List (Nat×Blk)->Nat->Option Blk
 | []=>λ_=>none
 |(id,b)::l=>λk=>if k=id then some b else AJ l k
def Dp:List (Nat×Blk)->Nat->Blk->List (Nat×Blk)
 | [],id,b=>[(id,b)]
 |(k,c)::l,id,b=>if k=id then(id,b)::l else(k,c)::Dp l id b
theorem Sy(l:List (Nat×Blk))(id:Nat)(b:Blk):AJ (Dp l id b)=BC (AJ l) (.wr id b):=by
 induction l with
 |nil=>rfl
 |cons x l ih=>
  obtain⟨k,c⟩:=x;funext j
  simp only[Dp];split
  .rename_i h;subst h
   simp only[AJ,BC];split<;>rfl
  .rename_i h
   simp only[AJ,ih,BC];split
   .rename_i h2;subst h2;rw[if_neg h]
   .rfl
theorem MJ(c:List SV)(m:Nat->Option Blk)(d:Option Nat)(x:SV)(rd:List Nat):(⟨c,m⟩:VS).put d ⟨x,.none,rd⟩=⟨Bb c d x,m⟩:=rfl
theorem Xc(c:List SV)(l:List (Nat×Blk))(d:Option Nat)(x:SV)(rd:List Nat)(id:Nat)(b:Blk):(⟨c,AJ l⟩:VS).put d ⟨x,.new id b,rd⟩=⟨Bb c d x,AJ ((id,b)::l)⟩:=rfl
theorem MI(c:List SV)(l:List (Nat×Blk))(d:Option Nat)(x:SV)(rd:List Nat)(id:Nat)(b:Blk):(⟨c,AJ l⟩:VS).put d ⟨x,.wr id b,rd⟩=⟨Bb c d x,AJ (Dp l id b)⟩:=by
 simp only[VS.put,Sy]
theorem NO(c:List SV)(d:Nat)(x:SV):Bb c (some d) x=c.set d x:=rfl
theorem NP(c:List SV)(x:SV):Bb c none x=c:=rfl
theorem Ah{x:Int}(c: -9223372036854775808<=x)(e:x<=9223372036854775807):IntKind.i64.wrap x=x:=IntWalk.i64_in x (by omega)
def G0(c:List SV)(l:List (Nat×Blk))(id:Nat):Bool:=c.all (λx=> !x.has id) && l.all (λx=>x.1 !=id && !x.2.1.any (SV.has id))
theorem NM{z:List SV}{l:List (Nat×Blk)}(h:G0 z l id=true):Bl id ⟨z,AJ l⟩:=by
 simp only[G0,Bool.and_eq_true]at h;obtain⟨u,q⟩:=h;refine⟨?_,λx C=>by have:=List.all_eq_true.1 u x C;simpa using this,?_⟩
 .simp only
  clear u
  induction l with
  |nil=>rfl
  |cons x l ih=>
   obtain⟨k,c⟩:=x;simp only[List.all_cons,Bool.and_eq_true]at q;simp only[AJ];rw[if_neg (by have:=q.1.1;intro e;rw[e]at this;simp at this)];exact ih q.2
 .simp only
  clear u
  induction l with
  |nil=>intro k b m;cases m
  |cons x l ih=>
   obtain⟨k,c⟩:=x;simp only[List.all_cons,Bool.and_eq_true]at q;intro j b m;simp only[AJ]at m;split at m
   .injection m with m;subst m;have:=q.1.2;simpa using this
   .exact ih q.2 j b m
def Es(c:List SV)(l:List (Nat×Blk))(E:List Eff):Bool:=E.all λe=>match e.mw.newId with|some id=>G0 c l id|none=>true
theorem NN{j:List SV}{l:List (Nat×Blk)}{E:List Eff}(h:Es j l E=true):∀e∈E,∀id,e.mw.newId=some id->Bl id ⟨j,AJ l⟩:=by
 intro e m id c;have:=List.all_eq_true.1 h e m;simp only[c]at this;exact NM this
theorem vrd{l:List Oper}{E:List Eff}{c:List SV}{m:List (Nat×Blk)}{j:VS}{Q:Exit->VS->Prop}(u:P.follows .mixedOrders=true)(h:VE P l.toArray w0 l E ⟨c,AJ m⟩ j)
 (e:(veB l.toArray l E && Es c m E)=true)(q:Q .normal j):VOk P w0 ⟨c,AJ m⟩ (.region id l.toArray true) Q:=by
 rw[Bool.and_eq_true]at e;exact Qy u h e.1 (NN e.2) q
theorem vrp{l:List Oper}{E:List Eff}{e:List SV}{m:List (Nat×Blk)}{j:VS}{Q:Exit->VS->Prop}(h:VE P l.toArray w0 l E ⟨e,AJ m⟩ j)
 (c:(l.all (λo=> !Dv o.op) && plainB E && Es e m E)=true)(q:Q .normal j):VOk P w0 ⟨e,AJ m⟩ (.region id l.toArray false) Q:=by
 simp only[Bool.and_eq_true]at c;exact Qx h c.1.1 c.1.2 (NN c.2) q
theorem Q2{c:Code}{l:List Value}{R:Exit->Act->World->Prop}(h:VOk P w ⟨l.map .v,AJ []⟩ c λe m=> ∀ρ j,Rel w ρ m j->R e (m.act ρ) j):c.wp P R ⟨l.toArray,[]⟩ w:=
 dY _ h λ_ ρ _ j q u=>q ρ j u
theorem C7{i:Int}(u:o.op=.indexAddr ty x ix)(e:∀ρ,Region.wanted o (yielded ops (s.act ρ).tmps)=true)(E:AE s x=.p id off)(q:AE s ix=.v (.int k i))
 (C:P.underlying ty=some (.array n el))(z:∀w,(Go.sizeOf el).run P w=.ok sz w)(l:0<=i)(m:i<n):Ev P ops w0 o s ⟨.p id (off+i.toNat*sz),.none,[]⟩:=
 .run _ _ e λρ w _=>by
  have h:=AI s ρ x;rw[E]at h;have j:=AI s ρ ix;rw[q]at j;simp[execOp,u,h,j,SV.c,Instr.indexAt,asIntOf,run_underlying C,Instr.sureAddr,z,l,m,Bd]
theorem BG{f:Nat}(l:o.op=.fieldAddr ty x f)(e:∀ρ,Region.wanted o (yielded ops (s.act ρ).tmps)=true)(u:AE s x=.p id off)
 (q:P.underlying ty=some (.struct fs))(j:fs[f]? =some fd)(m:∀w,(Go.sizeOf fd.type).run P w=.ok (n+1) w):Ev P ops w0 o s ⟨.p id (off+fd.offset),.none,[]⟩:=
 .run _ _ e λρ w _=>by
  have h:=AI s ρ x;rw[u]at h;simp[execOp,l,h,SV.c,Instr.fieldAt,run_underlying q,j,Instr.sureAddr,fieldPlace,m,Bd]
theorem BF{f:Nat}(l:o.op=.fieldAddr ty x f)(e:∀ρ,Region.wanted o (yielded ops (s.act ρ).tmps)=true)(u:AE s x=.v (.pointer (some ⟨g,off,none⟩)))
 (q:P.underlying ty=some (.struct fs))(j:fs[f]? =some fd)(m:∀w,(Go.sizeOf fd.type).run P w=.ok (n+1) w):Ev P ops w0 o s ⟨.v (.pointer (some ⟨g,off+fd.offset,none⟩)),.none,[]⟩:=
 .run _ _ e λρ w _=>by
  have h:=AI s ρ x;rw[u]at h;simp[execOp,l,h,SV.c,Instr.fieldAt,run_underlying q,j,Instr.sureAddr,fieldPlace,m,Bd]
theorem DK{i:Int}(u:o.op=.indexAddr ty x ix)(e:∀ρ,Region.wanted o (yielded ops (s.act ρ).tmps)=true)(E:AE s x=.v (.pointer (some ⟨g,off,none⟩)))(q:AE s ix=.v (.int k i))
 (C:P.underlying ty=some (.array n el))(z:∀w,(Go.sizeOf el).run P w=.ok sz w)(l:0<=i)(m:i<n):Ev P ops w0 o s ⟨.v (.pointer (some ⟨g,off+i.toNat*sz,none⟩)),.none,[]⟩:=
 .run _ _ e λρ w _=>by
  have h:=AI s ρ x;rw[E]at h;have j:=AI s ρ ix;rw[q]at j;simp[execOp,u,h,j,SV.c,Instr.indexAt,asIntOf,run_underlying C,Instr.sureAddr,z,l,m,Bd]
theorem IS(j:o.op=.nilCheck x)(e:∀ρ,Region.wanted o (yielded ops (s.act ρ).tmps)=true)(l:AE s x=.p id off):Ev P ops w0 o s ⟨.p id off,.none,[]⟩:=
 .run _ _ e λρ w _=>by
  have h:=AI s ρ x;rw[l]at h;simp[execOp,j,h,SV.c]
theorem IR{a:Addr}(j:o.op=.nilCheck x)(e:∀ρ,Region.wanted o (yielded ops (s.act ρ).tmps)=true)(l:AE s x=.v (.pointer (some a))):Ev P ops w0 o s ⟨.v (.pointer (some a)),.none,[]⟩:=
 .run _ _ e λρ w _=>by
  have h:=AI s ρ x;rw[l]at h;simp[execOp,j,h,SV.c]
theorem G8(j:unV (xs.toList.map (AE s))=some vs)(ρ:Nat->Nat):xs.map (s.act ρ).eval=vs.toArray:=by
 have h:=Eb j
 have e:xs.toList.map (s.act ρ).eval=vs:=by
  have:xs.toList.map (s.act ρ).eval=(xs.toList.map (AE s)).map (SV.c ρ):=by
   rw[List.map_map];exact List.map_congr_left λx _=>AI s ρ x
  rw[this,h,List.map_map];simp[Function.comp_def,SV.c]
 rw[<-Array.toList_map]at e;rw[<-e,Array.toArray_toList]
theorem oE{j:Operand}{k:Nat}(u:o.op=.slice ty x none (some j) none)(e:∀ρ,Region.wanted o (yielded ops (s.act ρ).tmps)=true)(E:AE s x=.p id 0)(h:AE s j=.v (.int .i64 (k:Nat)))
 (C:P.underlying ty=some (.array n el))(z:∀w,(Go.sizeOf el).run P w=.ok sz w)(G:k<=n):Ev P ops w0 o s ⟨.s id 0 k n,.none,[]⟩:=
 .run _ _ e λρ w _=>by
  have l:=AI s ρ x;rw[E]at l;have m:=AI s ρ j;rw[h]at m
  have q:(Instr.sliceBound (.int .i64 (k:Nat)) n .sliceAlen).run P w=.ok k w:=by
   unfold Instr.sliceBound;rw[Sem.run_bind];simp only[asIntOf,Sem.run_pure,Result.andThen_ok];rw[if_pos ⟨by omega,by omega⟩];rfl
  simp[execOp,u,l,m,SV.c,Instr.sliceAt,run_underlying C,Instr.sureAddr,Instr.sliceBounds,z,Bd,q]
theorem NV{e h:Nat}(q:o.op=.sliceToArrayPointer ty x)(j:∀ρ,Region.wanted o (yielded ops (s.act ρ).tmps)=true)(z:AE s x=.s id off e h)
 (u:P.underlying ty=some (.array n el))(C:n<=e):Ev P ops w0 o s ⟨.p id off,.none,[]⟩:=
 .run _ _ j λρ w _=>by
  have l:=AI s ρ x;rw[z]at l;have m: ¬e<n:=by omega
  simp[execOp,q,l,SV.c,Instr.arrayAt,run_underlying u,m]
theorem BM(l:o.op=.binOp .lss ty x y r)(e:∀ρ,Region.wanted o (yielded ops (s.act ρ).tmps)=true)(q:AE s x=.v (.int .i64 a))(u:AE s y=.v (.int .i64 b))(m:decide (a<b)=p):
 Ev P ops w0 o s ⟨.v (.bool p),.none,[]⟩:=
 .run _ _ e λρ w _=>by
  have h:=AI s ρ x;rw[q]at h;have j:=AI s ρ y;rw[u]at j;simp only[execOp,l,h,j,SV.c];subst m
  go_simp
theorem B4(l:o.op=.binOp .geq ty x y r)(e:∀ρ,Region.wanted o (yielded ops (s.act ρ).tmps)=true)(q:AE s x=.v (.int .i64 a))(u:AE s y=.v (.int .i64 b))(m:decide (b<=a)=p):
 Ev P ops w0 o s ⟨.v (.bool p),.none,[]⟩:=
 .run _ _ e λρ w _=>by
  have h:=AI s ρ x;rw[q]at h;have j:=AI s ρ y;rw[u]at j;simp only[execOp,l,h,j,SV.c];subst m
  go_simp
theorem Ag(m:o.op=.binOp .eql ty x y r)(e:∀ρ,Region.wanted o (yielded ops (s.act ρ).tmps)=true)(u:AE s x=.v (.int k a))(z:AE s y=.v (.int k b))(q:decide (a=b)=p):
 Ev P ops w0 o s ⟨.v (.bool p),.none,[]⟩:=
 .run _ _ e λρ w _=>by
  have j:=AI s ρ x;rw[u]at j;have l:=AI s ρ y;rw[z]at l;simp only[execOp,m,j,l,SV.c];subst q
  go_simp
  by_cases h:a=b<;>simp[h]
theorem BE{c:Int}(l:o.op=.binOp .add ty x y r)(e:∀ρ,Region.wanted o (yielded ops (s.act ρ).tmps)=true)(q:AE s x=.v (.int k a))(u:AE s y=.v (.int k b))(m:k.wrap (a+b)=c):
 Ev P ops w0 o s ⟨.v (.int k c),.none,[]⟩:=
 .run _ _ e λρ w _=>by
  have h:=AI s ρ x;rw[q]at h;have j:=AI s ρ y;rw[u]at j;simp only[execOp,l,h,j,SV.c];subst m
  go_simp
theorem Bu{c:Int}(l:o.op=.binOp .sub ty x y r)(e:∀ρ,Region.wanted o (yielded ops (s.act ρ).tmps)=true)(q:AE s x=.v (.int k a))(u:AE s y=.v (.int k b))(m:k.wrap (a-b)=c):
 Ev P ops w0 o s ⟨.v (.int k c),.none,[]⟩:=
 .run _ _ e λρ w _=>by
  have h:=AI s ρ x;rw[q]at h;have j:=AI s ρ y;rw[u]at j;simp only[execOp,l,h,j,SV.c];subst m
  go_simp
theorem Tt{vs:Array Value}{k:Nat}(C:o.op=.index ty x ix)(e:∀ρ,Region.wanted o (yielded ops (s.act ρ).tmps)=true)(I:AE s x=.v (.agg vs))(u:AE s ix=.v (.int .i64 (k:Nat)))
 (G:P.underlying ty=some (.array n el))(E:∀w,(Go.sizeOf el).run P w=.ok 1 w)(h:P.underlying el=some d)(q:Ba d=false)(z:k<n)(H:vs.toList[k]? =some v):Ev P ops w0 o s ⟨.v v,.none,[]⟩:=
 .run _ _ e λρ w _=>by
  have j:=AI s ρ x;rw[I]at j;have l:=AI s ρ ix;rw[u]at l;have m:vs[k]? =some v:=by simpa using H
  simp[execOp,C,j,l,SV.c,Instr.index,run_underlying G,asIntOf,E,z,part,Bp h,q,m]
theorem AM(j:o.op=.call {callee:=.value (.func f),args:=xs,argTypes:=ats})(h:∀ρ,Region.wanted o (yielded ops (s.act ρ).tmps)=true)
 (C:unV (xs.toList.map (AE s))=some vs)(u:∀args w,(callFunc f args).run P w=.ok (.enter f args) w)(q:∀w,Gw w0 w->Calls P f vs.toArray w λe G=>e=.returned v/\Gw w G):Ev P ops w0 o s ⟨.v v,.none,[]⟩:=
 .call f (λ_=>vs.toArray) (.v v) [] h (λρ w _=>by
  obtain⟨m,H,l,E,c,guard⟩:=o;simp only at j;subst j;rw[execOp_call_go,G8 C];simpa using u vs.toArray w) λ_ w z=>q w z.1
theorem G7(xs:Array Operand)(ρ:Nat->Nat):xs.map (s.act ρ).eval=((xs.toList.map (AE s)).map (SV.c ρ)).toArray:=by
 rw[<-Array.toList_inj];simp only[Array.toList_map,List.map_map];exact List.map_congr_left λx _=>AI s ρ x
theorem Aj{vs:List SV}(rd:List Nat)(l:o.op=.call {callee:=.value (.func f),args:=xs,argTypes:=ats})(j:∀ρ,Region.wanted o (yielded ops (s.act ρ).tmps)=true)
 (C:xs.toList.map (AE s)=vs)(z:∀args w,(callFunc f args).run P w=.ok (.enter f args) w)
 (u:∀ρ w,GM w0 s rd ρ w->Calls P f (vs.map (SV.c ρ)).toArray w λe G=>e=.returned v/\Gw w G):Ev P ops w0 o s ⟨.v v,.none,rd⟩:=
 .call f (λρ=>(vs.map (SV.c ρ)).toArray) (.v v) rd j (λρ w _=>by
  obtain⟨q,H,m,E,h,guard⟩:=o;simp only at l;subst l;rw[execOp_call_go,G7,C];simpa using z (vs.map (SV.c ρ)).toArray w) u
theorem ob{y:Value}(_hd:o.dst=some id)(q:o.op=.call {callee:=.value (.func f),args:=xs,argTypes:=ats})(l:∀ρ,Region.wanted o (yielded ops (s.act ρ).tmps)=true)
 (H:unV (xs.toList.map (AE s))=some vs)(E:∀args w,(callFunc f args).run P w=.ok (.enter f args) w)(j:List Value)(ty:TypeId)
 (C:∀w,Gw w0 w->Calls P f vs.toArray w λe m=> ∃g,w.heap.size<=g/\e=.returned (.tuple #[.pointer (some ⟨g,0,none⟩),y])/\m.heap[g]? =some (.cells j.toArray ty (0,0))/\Gw w m):
 Ev P ops w0 o s ⟨.tp id 0 y,.new id (j.map .v,ty),[]⟩:=
 .callnew f (λ_=>vs.toArray) (.tp id 0 y) [] id (j.map .v,ty) l (by simp[SV.has]) (λρ w _=>by
  obtain⟨z,J,u,I,h,guard⟩:=o;simp only at q;subst q;rw[execOp_call_go,G8 H];simpa using E vs.toArray w) λρ w G=>(C w G.1).mono λe m ⟨g,h1,h2,h3,h4⟩=>⟨g,h1,by simp[h2,SV.c],by rw[h3];simp[cellsOf,Function.comp_def,SV.c],h4⟩
theorem oQ{y:Value}(j:o.op=.extract x 0)(e:∀ρ,Region.wanted o (yielded ops (s.act ρ).tmps)=true)(l:AE s x=.tp id off y):Ev P ops w0 o s ⟨.p id off,.none,[]⟩:=
 .run _ _ e λρ w _=>by
  have h:=AI s ρ x;rw[l]at h;simp[execOp,j,h,SV.c,Instr.extract]
theorem oP{y:Value}(j:o.op=.extract x 1)(e:∀ρ,Region.wanted o (yielded ops (s.act ρ).tmps)=true)(l:AE s x=.tp id off y):Ev P ops w0 o s ⟨.v y,.none,[]⟩:=
 .run _ _ e λρ w _=>by
  have h:=AI s ρ x;rw[l]at h;simp[execOp,j,h,SV.c,Instr.extract]
theorem AK{j:BinOp}{a b c:Value}(q:o.op=.binOp j ty x y r)(e:∀ρ,Region.wanted o (yielded ops (s.act ρ).tmps)=true)(u:AE s x=.v a)(z:AE s y=.v b)
 (h:∀w,(do eqGuard j ty x y a b;binOp j ty a b:Sem Value).run P w=.ok c w):Ev P ops w0 o s ⟨.v c,.none,[]⟩:=
 .run _ _ e λρ w _=>by
  have l:=AI s ρ x;rw[u]at l;have m:=AI s ρ y;rw[z]at m;simp only[execOp,q,l,m,SV.c];rw[Sem.run_bind,h w];rfl
theorem B1{m j:TypeId}{a c:Value}(q:o.op=.convert m j x)(e:∀ρ,Region.wanted o (yielded ops (s.act ρ).tmps)=true)(u:AE s x=.v a)(h:∀w,(convert m j a).run P w=.ok c w):Ev P ops w0 o s ⟨.v c,.none,[]⟩:=
 .run _ _ e λρ w _=>by
  have l:=AI s ρ x;rw[u]at l;simp only[execOp,q,l,SV.c];rw[Sem.run_bind,h w];rfl
theorem G1(j:o.op=.call {callee:=.value (.func f),args:=xs,argTypes:=ats})(h:∀ρ,Region.wanted o (yielded ops (s.act ρ).tmps)=true)
 (u:unV (xs.toList.map (AE s))=some vs)(q:∀w,(callFunc f vs.toArray).run P w=.ok (.value v) w):Ev P ops w0 o s ⟨.v v,.none,[]⟩:=
 .run _ _ h λρ w _=>by
  obtain⟨m,C,l,z,e,guard⟩:=o;simp only at j;subst j;rw[execOp_call_go,G8 u];simpa[SV.c] using q w
theorem Cy{vs:Array Value}(m:o.op=.extract x i)(e:∀ρ,Region.wanted o (yielded ops (s.act ρ).tmps)=true)(q:AE s x=.v (.tuple vs))(h:vs.toList[i]? =some v):Ev P ops w0 o s ⟨.v v,.none,[]⟩:=
 .run _ _ e λρ w _=>by
  have j:=AI s ρ x;rw[q]at j;have l:vs[i]? =some v:=by simpa using h
  simp[execOp,m,j,SV.c,Instr.extract,l]
theorem T3{c:Code}(m:P.funcs[f]? =some fn)(h:(fn.name== "runtime.NumGoroutine")=false)(l:fn.body=some c):∀(e:Array Value) (w:World),(callFunc f e).run P w=.ok (.enter f e) w:=by
 intro e w;have j:fn.name≠ "runtime.NumGoroutine" :=by simpa using h
 simp[callFunc,m,j,l,mark]
theorem eo{c:Code}(j:P.funcs[f]? =some fn)(l:(fn.name== "runtime.NumGoroutine")=false:=by kernel_rfl)(h:fn.body=some c:=by rfl):∀(e:Array Value)(w:World),(callFunc f e).run P w=.ok (.enter f e) w:=T3 j l h
def bn(b:Bool):Nat:=if b then 1 else 0
theorem Ld{b b0:Bool}{d:Nat}{c:Code}{s:VS}{Q:Exit->VS->Prop}(m:AE s x=.v (.bool b))(l:s.fr[d]? =some (.v (.int .u64 (bn b0:Nat))))
 (q:∀Q:Exit->VS->Prop,Q .normal ⟨s.fr.set d (.v (.int .u64 1)),s.mem⟩->VOk P w0 s c Q)(h:Q .normal ⟨s.fr.set d (.v (.int .u64 (bn (b0||b):Nat))),s.mem⟩):VOk P w0 s (.cond x c .skip) Q:=by
 cases b with
 |true=>exact GP m (q _ (by simpa[bn] using h))
 |false=>
  refine GQ m (GO ?_)
  have u:s.fr.set d (.v (.int .u64 (bn (b0||false):Nat)))=s.fr:=by
   apply List.ext_getElem?;intro i;by_cases e:d=i
   .subst e
    obtain⟨j,_⟩:=List.getElem?_eq_some_iff.1 l;rw[List.getElem?_set_self j,l];simp
   .rw[List.getElem?_set_ne e]
  rw[u]at h;exact h
def B0(keep:Nat->Bool)(f:Nat->Value):Nat->List SV->List SV
 |_,[]=>[]
 |i,x::l=>(if keep i then x else .v (f i))::B0 keep f (i+1) l
def VS.forget(e:Nat->Bool)(c:Nat)(f:Nat->Value)(s:VS):VS:=⟨B0 e f 0 s.fr,λk=>if k=c then none else s.mem k⟩
theorem Je(keep:Nat->Bool)(ρ:Nat->Nat)(f:Nat->Value):∀(l:List SV) (i:Nat),(∀j x,l[j]? =some x->f (i+j)=x.c ρ)->(B0 keep f i l).map (SV.c ρ)=l.map (SV.c ρ)
 | [],_,_=>rfl
 |x::l,i,h=>by
  simp only[B0,List.map_cons];rw[Je keep ρ f l (i+1) (λj y hj=>by have:=h (j+1) y (by simpa using hj);rw[<-this];congr 1;omega)];congr 1
  split
  .rfl
  .simp only[SV.c];exact h 0 x rfl
theorem dX(l:Nat->Bool)(q:Nat){c:Code}{s:VS}{Q:Exit->VS->Prop}(h:VOk P w0 s c λe u=> ∀f,Q e (u.forget l q f)):VOk P w0 s c Q:=by
 intro ρ w R M K;refine h ρ w R M ?_;intro e m u N L z
 have I:=K e m (u.forget l q λi=>((u.fr[i]?).getD (.v undef)).c m) N (L _) ⟨z.gw,λid b E=>by
  simp only[VS.forget]at E;split at E
  .cases E
  .exact z.own id b E,λi j G C H=>by
  refine z.inj i j ?_ ?_ H
  .simp only[VS.forget]at G;split at G
   .cases G
   .exact G
  .simp only[VS.forget]at C;split at C
   .cases C
   .exact C⟩
 have J:(u.forget l q λi=>((u.fr[i]?).getD (.v undef)).c m).act m=u.act m:=by
  simp only[VS.act,VS.forget];rw[Je l m _ u.fr 0 (λj x C=>by simp[C])]
 rw[J]at I;exact I
theorem Jw(e:Nat->Bool)(l:Nat){c:Code}{s:VS}{Q:Exit->VS->Prop}(h:∀f,VOk P w0 (s.forget e l f) c Q):VOk P w0 s c Q:=by
 intro ρ w R C H
 have E:=h (λi=>((s.fr[i]?).getD (.v undef)).c ρ) ρ w R ⟨C.gw,λid b q=>by
  simp only[VS.forget]at q;split at q
  .cases q
  .exact C.own id b q,λi j u m z=>by
  refine C.inj i j ?_ ?_ z
  .simp only[VS.forget]at u;split at u
   .cases u
   .exact u
  .simp only[VS.forget]at m;split at m
   .cases m
   .exact m⟩ H
 have G:(s.forget e l λi=>((s.fr[i]?).getD (.v undef)).c ρ).act ρ=s.act ρ:=by
  simp only[VS.act,VS.forget];rw[Je e ρ _ s.fr 0 (λj x m=>by simp[m])]
 rw[G]at E;exact E
theorem lm{d:Nat}{l:List (Nat×Blk)}(h:l.all (λx=>x.1 !=d)=true):(λk=>if k=d then none else AJ l k)=AJ l:=by
 funext k
 by_cases e:k=d
 .subst e
  rw[if_pos rfl]
  induction l with
  |nil=>rfl
  |cons x l ih=>
   obtain⟨j,c⟩:=x;simp only[List.all_cons,Bool.and_eq_true]at h;simp only[AJ];rw[if_neg (by have:=h.1;simp at this;exact λe=>this e.symm)];exact ih h.2
 .simp only[if_neg e]
theorem Ym{d:Nat}{b:Blk}{l:List (Nat×Blk)}(h:l.all (λx=>x.1 !=d)=true):(λk=>if k=d then none else AJ ((d,b)::l) k)=AJ l:=by
 funext k
 by_cases e:k=d
 .subst e
  rw[if_pos rfl]
  induction l with
  |nil=>rfl
  |cons x l ih=>
   obtain⟨j,c⟩:=x;simp only[List.all_cons,Bool.and_eq_true]at h;simp only[AJ];rw[if_neg (by have:=h.1;simp at this;exact λe=>this e.symm)];exact ih h.2
 .simp only[if_neg e,AJ]
theorem Rs{b:Blk}(E:GM w0 s rd ρ w)(h:id∈rd)(C:s.mem id=some b)(off:Nat)(l:List Value)(z:unV ((b.1.drop off).take l.length)=some l):
 ∀(j:Nat) (v:Value),l[j]? =some v->w.cell? ⟨ρ id,off+j,none⟩=some v:=by
 intro j v u;obtain⟨_,q⟩:=E.2 id b h C;have G:=Eb z;have e:((b.1.drop off).take l.length)[j]? =some (.v v):=by rw[G];simp[u]
 have m:b.1[off+j]? =some (.v v):=by
  rw[List.getElem?_take]at e;split at e
  .rwa [List.getElem?_drop]at e
  .cases e
 simp only[World.cell?,q,cellsOf];simp[m,SV.c]
theorem NR{l:UnOp}{a c:Value}(m:o.op=.unOp l ty x)(e:∀ρ,Region.wanted o (yielded ops (s.act ρ).tmps)=true)(q:AE s x=.v a)(h:∀w,(Op.unary l a).run P w=.ok c w):Ev P ops w0 o s ⟨.v c,.none,[]⟩:=
 .run _ _ e λρ w _=>by
  have j:=AI s ρ x;rw[q]at j;simp only[execOp,m,j,SV.c];rw[Sem.run_bind,h w];rfl
theorem AD{R:Ending->World->Prop}(h:∀ρ w,Rel w0 ρ s w->(results fn (s.act ρ).tmps).run P w=.ok v w)(e:∀w,Gw w0 w->R (.returned v) w):
 ∀ρ w,Rel w0 ρ s w->bodyPost P fn R .ret (s.act ρ) w:=λρ w c=>⟨rfl,v,h ρ w c,e w c.gw⟩
theorem Gy(t:Nat)(ρ:Nat->Nat):(s.act ρ).tmps.getD t undef=(AE s (.tmp t)).c ρ:=AI s ρ (.tmp t)
def DW(tmps:Array Value):ResultVar->Sem Value
 | .tmp t=>pure (tmps.getD t undef)
 | .cell p t=>do loadVar t (<-asAddr (tmps.getD p undef))
def RV(P:Program)(s:VS)(r:ResultVar)(v:Value):Prop:=
 ∀(ρ:Nat->Nat) (w:World),(∀id b,s.mem id=some b->w.heap[ρ id]? =some (cellsOf ρ b))->(DW (s.act ρ).tmps r).run P w=Result.ok v w
theorem AF{t:Nat}(h:AE s (.tmp t)=.v v):RV P s (.tmp t) v:=λρ w _=>by
 simp only[DW,Gy,h,SV.c];rfl
theorem Ac{p ty:Nat}{b:Blk}(h:AE s (.tmp p)=.p id off)(G:s.mem id=some b)(I:P.underlying ty=some d)(z:Ba d=true)(H:∀w,(Go.sizeOf ty).run P w=.ok n w)
 (m:unV ((b.1.drop off).take n)=some vs)(E:vs.length=n):RV P s (.cell p ty) (.agg vs.toArray):=λρ w K=>by
 have u:=K id b G;have J:=Eb m
 have e:(loadCells ⟨ρ id,off,none⟩ vs.length).run P w=.ok vs.toArray w:=run_loadCells_list w _ vs λj v C=>by
  rw[Bd];simp only[World.cell?,u,cellsOf];have l:((b.1.drop off).take n)[j]? =some (.v v):=by rw[J];simp[C]
  have q:b.1[off+j]? =some (.v v):=by
   rw[List.getElem?_take]at l;split at l
   .rwa [List.getElem?_drop]at l
   .cases l
  simp[q,SV.c]
 rw[E]at e;simp only[DW,Gy,h,SV.c];simp[asAddr,loadVar,Bp I,z,H,e]
theorem Ht(fn:Func)(c:Array Value):results fn c=(do let vs<-fn.results.mapM (DW c);pure (if h:vs.size=1 then vs[0]else .tuple vs)):=by
 unfold results;congr 1
theorem AH{r:ResultVar}(j:fn.results=#[r])(h:RV P s r v):∀ρ w,Rel w0 ρ s w->(results fn (s.act ρ).tmps).run P w=.ok v w:=λρ w l=>by
 have c:=h ρ w λid b e=>(l.own id b e).2
 rw[Ht,j];simp[c]
theorem Av{r j:ResultVar}{l:Value}(z:fn.results=#[r,j])(h:RV P s r v)(m:RV P s j l):∀ρ w,Rel w0 ρ s w->(results fn (s.act ρ).tmps).run P w=.ok (.tuple #[v,l]) w:=λρ w e=>by
 have q:=h ρ w λid b c=>(e.own id b c).2
 have u:=m ρ w λid b c=>(e.own id b c).2
 rw[Ht,z];simp[q,u]
theorem kD{R:Ending->World->Prop}{a c:Nat}{y:Value}{b:Blk}{e:List Value}(G:fn.results=#[.tmp a,.tmp c])(z:AE s (.tmp a)=.p id 0)(E:AE s (.tmp c)=.v y)(H:s.mem id=some b)(C:unV b.1=some e)
 (u:∀g w,w0.heap.size<=g->w.heap[g]? =some (.cells e.toArray b.2 (0,0))->Gw w0 w->R (.returned (.tuple #[.pointer (some ⟨g,0,none⟩),y])) w):∀ρ w,Rel w0 ρ s w->bodyPost P fn R .ret (s.act ρ) w:=λρ w h=>by
 obtain⟨m,q⟩:=h.own id b H;refine⟨rfl,_,?_,u (ρ id) w m (by rw[q];simp[cellsOf,Eb C,Function.comp_def,SV.c]) h.gw⟩;rw[Ht,G];have j:(DW (s.act ρ).tmps (.tmp a)).run P w=.ok (.pointer (some ⟨ρ id,0,none⟩)) w:=by simp only[DW,Gy,z,SV.c];rfl
 have l:(DW (s.act ρ).tmps (.tmp c)).run P w=.ok y w:=by simp only[DW,Gy,E,SV.c];rfl
 simp[j,l]
theorem MN(c:List SV)(m:Nat->Option Blk)(t:Nat):AE ⟨c,m⟩ (.tmp t)=(c[t]?).getD (.v undef):=rfl
theorem MX(s:VS)(v:Value):AE s (.const v)=.v v:=rfl
theorem MU(s:VS)(g:Nat):AE s (.global g)=.v (.pointer (some ⟨g,0,none⟩)):=rfl
theorem MV(s:VS)(f:FuncId):AE s (.func f)=.v (.func (.func f) #[] #[]):=rfl
theorem MR(id:Nat)(b:Blk):Dp [] id b=[(id,b)]:=rfl
theorem MQ(k:Nat)(c:Blk)(l:List (Nat×Blk))(id:Nat)(b:Blk):Dp ((k,c)::l) id b=if k=id then(id,b)::l else(k,c)::Dp l id b:=rfl
theorem MZ(c:Array Value):Value.cells (.agg c)=c:=rfl
theorem MS(k:IntKind)(n:Int):Value.cells (.int k n)=#[.int k n]:=rfl
theorem MY(b:Bool):Value.cells (.bool b)=#[.bool b]:=rfl
theorem MP(a:Option Addr):Value.cells (.pointer a)=#[.pointer a]:=rfl
theorem MO(a:Option Addr)(l c:Nat):Value.cells (.slice a l c)=#[.slice a l c]:=rfl
theorem nm:(type_of%(MJ))/\(type_of%(Xc))/\(type_of%(MI))/\(type_of%(NO))/\(type_of%(NP))/\(type_of%(@List.set_cons_zero SV))/\(type_of%(@List.set_cons_succ SV))/\(type_of%(MN))/\(type_of%(MX))/\(type_of%(MU))/\(type_of%(MV))/\(type_of%(@List.getElem?_cons_zero SV))/\(type_of%(@List.getElem?_cons_succ SV))/\(type_of%(@List.getElem?_cons_zero Value))/\(type_of%(@List.getElem?_cons_succ Value))/\(type_of%(@Option.getD_some SV))/\(type_of%(@List.take_succ_cons SV))/\(type_of%(@List.take_zero SV))/\(type_of%(@List.drop_succ_cons SV))/\(type_of%(@List.drop_zero SV))/\(type_of%(@List.cons_append SV))/\(type_of%(@List.nil_append SV))/\(type_of%(@List.append_nil SV))/\(type_of%(@List.map_cons Value SV))/\(type_of%(@List.map_nil Value SV))/\(type_of%(MR))/\(type_of%(MQ))/\(type_of%(MZ))/\(type_of%(MS))/\(type_of%(MY))/\(type_of%(MP))/\(type_of%(MO))/\(type_of%(@Int.toNat_natCast))/\(type_of%(@Nat.zero_add))/\(type_of%(@Nat.add_zero))/\(type_of%(@Nat.mul_one))/\(type_of%(@Ah)):=
 ⟨MJ,Xc,MI,NO,NP,@List.set_cons_zero SV,@List.set_cons_succ SV,MN,MX,MU,MV,@List.getElem?_cons_zero SV,@List.getElem?_cons_succ SV,@List.getElem?_cons_zero Value,@List.getElem?_cons_succ Value,@Option.getD_some SV,@List.take_succ_cons SV,@List.take_zero SV,@List.drop_succ_cons SV,@List.drop_zero SV,@List.cons_append SV,@List.nil_append SV,@List.append_nil SV,@List.map_cons Value SV,@List.map_nil Value SV,MR,MQ,MZ,MS,MY,MP,MO,@Int.toNat_natCast,@Nat.zero_add,@Nat.add_zero,@Nat.mul_one,@Ah⟩
theorem gn(c:o.guard=none)(ρ:Nat->Nat):Region.wanted o (yielded ops (s.act ρ).tmps)=true:=Qw c _
theorem gg(c:o.guard=none:=by rfl)(ρ:Nat->Nat):Region.wanted o (yielded ops (s.act ρ).tmps)=true:=gn c ρ
end
end Go.Toll
namespace Go.Proofs.YtafbhakmkbehiaaGreatDoor
open Go.RowKit Go.Toll
variable{ops:Array Oper}{id:Nat}{o:Oper}{P:Program}{A B Q:Prop}{w0:World}
abbrev q4y(l:Nat->Nat->Nat)(u:Nat):Value:=.agg #[.int .u64 (l u 0:Nat),.int .u64 (l u 1:Nat),.int .u64 (l u 2:Nat),.int .u64 (l u 3:Nat)]
abbrev A4y(a b c d:Nat):Value:=.agg #[.int .u64 (a:Nat),.int .u64 (b:Nat),.int .u64 (c:Nat),.int .u64 (d:Nat)]
abbrev CGy(k:FuncId)(a:Array Value)(w:World)(v:Value):Prop:=Calls prog k a w λe c=>e=.returned v/\Gw w c
abbrev BOy(o:BinOp)(t:TypeId)(a b c:Value):Prop:=∀(p q:Operand)(w:World),(do eqGuard o t p q a b;binOp o t a b:Sem Value).run prog w=.ok c w
def t_K(P:Program)(ops:Array Oper)(w0:World)(l:List Oper)(s:VS)(R:List Eff->VS->Prop):Prop:= ∃E c,VE P ops w0 l E s c/\R E c
theorem t_n{s:VS}{R:List Eff->VS->Prop}(h:R [] s):t_K P ops w0 [] s R:=⟨[],s,.nil s,h⟩
theorem t_c{l:List Oper}{s j:VS}{e:Eff}{R:List Eff->VS->Prop}(h:Ev P ops w0 o s e)(u:s.put o.dst e=j)(r:t_K P ops w0 l j (λE c=>R (e::E) c)):t_K P ops w0 (o::l) s R:=by
 subst u;obtain⟨E,c,m,q⟩:=r;exact⟨_,_,.cons h m,q⟩
theorem t_p{l:List Oper}{c:List SV}{m:List (Nat×Blk)}{Q:Exit->VS->Prop}(h:t_K P l.toArray w0 l ⟨c,AJ m⟩ λE e=>(l.all (λo=> !Dv o.op) && plainB E && Es c m E)=true/\Q .normal e):VOk P w0 ⟨c,AJ m⟩ (.region id l.toArray false) Q:=by
 obtain⟨E,e,j,q,u⟩:=h;exact vrp j q u
theorem t_d{l:List Oper}{c:List SV}{m:List (Nat×Blk)}{Q:Exit->VS->Prop}(z:P.follows .mixedOrders=true)(h:t_K P l.toArray w0 l ⟨c,AJ m⟩ λE e=>(veB l.toArray l E && Es c m E)=true/\Q .normal e):VOk P w0 ⟨c,AJ m⟩ (.region id l.toArray true) Q:=by
 obtain⟨E,e,j,q,u⟩:=h;exact vrd z j q u
theorem n9{l:List Oper}{s c:VS}{e:Eff}{R:List Eff->VS->Prop}(h:Ev P ops w0 o s e)(r:t_K P ops w0 l c (λE m=>R (e::E) m))(j:s.put o.dst e=c:=by first|(simp only[nm,seval];exact rfl)|exact rfl):t_K P ops w0 (o::l) s R:=t_c h j r
theorem t_i{l:List Oper}{s c:VS}{e:Eff}{R:List Eff->VS->Prop}(h:Ev P ops w0 o s e)(j:B->t_K P ops w0 l c (λE q=>R (e::E) q))(m:s.put o.dst e=c:=by first|(simp only[nm,seval];exact rfl)|exact rfl):B->t_K P ops w0 (o::l) s R:=λb=>t_c h m (j b)
theorem AV{l:List Oper}{s c:VS}{e:Eff}{R:List Eff->VS->Prop}(h:Ev P ops w0 o s e)(r:t_K P ops w0 l c (λE m=>R (e::E) m))(j:s.put o.dst e=c:=by first|(simp only[nm2,seval];exact rfl)|exact rfl):t_K P ops w0 (o::l) s R:=t_c h j r
theorem Be{l:List Oper}{s c:VS}{e:Eff}{R:List Eff->VS->Prop}(h:Ev P ops w0 o s e)(j:B->t_K P ops w0 l c (λE q=>R (e::E) q))(m:s.put o.dst e=c:=by first|(simp only[nm2,seval];exact rfl)|exact rfl):B->t_K P ops w0 (o::l) s R:=λb=>t_c h m (j b)
theorem DU{l:List Oper}{s c:VS}{e:Eff}{R:List Eff->VS->Prop}(h:Ev P ops w0 o s e)(r:t_K P ops w0 l c (λE m=>R (e::E) m))(j:s.put o.dst e=c:=by first|(simp only[nm3,seval];exact rfl)|exact rfl):t_K P ops w0 (o::l) s R:=t_c h j r
theorem J4{l:List Oper}{s c:VS}{e:Eff}{R:List Eff->VS->Prop}(h:Ev P ops w0 o s e)(j:B->t_K P ops w0 l c (λE q=>R (e::E) q))(m:s.put o.dst e=c:=by first|(simp only[nm3,seval];exact rfl)|exact rfl):B->t_K P ops w0 (o::l) s R:=λb=>t_c h m (j b)
section
variable(b:B)
include b
theorem oR(c:B->A:=by exact Be (by first|exact BD rfl gg rfl rfl underlying147 rfl sizeOf147 rfl rfl|exact A2 rfl gg rfl underlying147 rfl sizeOf147 (by assumption) rfl) id):A:=c b
theorem t_1(c:B->A:=by exact t_i (by refine D6 gg (λρ w=>by simp only[VS.act,SV.c,List.map_cons,List.map_nil];go_simp;exact rfl) (λ_ _=>rfl)) id):A:=c b
theorem t_2(c:B->A:=by exact Be (by first|exact BK rfl gg rfl rfl underlying145 rfl rfl|exact BR rfl gg rfl underlying145 rfl (by first|assumption|exact hm 0 _ rfl|exact hm 1 _ rfl|exact hm 2 _ rfl|exact hm 3 _ rfl)) id):A:=c b
theorem t_3(c:B->A:=by exact t_i (by first|exact BD rfl gg rfl rfl underlying147 rfl sizeOf147 rfl rfl|exact A2 rfl gg rfl underlying147 rfl sizeOf147 (by assumption) rfl) id):A:=c b
theorem t_4(c:B->A:=by exact t_i (by first|exact BK rfl gg rfl rfl underlying49 rfl rfl|exact BR rfl gg rfl underlying49 rfl (by first|assumption|exact hm 0 _ rfl|exact hm 1 _ rfl|exact hm 2 _ rfl|exact hm 3 _ rfl)) id):A:=c b
theorem t_5(c:B->A:=by exact t_i (by first|exact BD rfl gg rfl rfl underlying146 rfl sizeOf146 rfl rfl|exact A2 rfl gg rfl underlying146 rfl sizeOf146 (by assumption) rfl) id):A:=c b
theorem t_6(c:B->A:=by exact Be (by first|exact BG rfl gg rfl underlying192 rfl sizeOf145|exact BF rfl gg rfl underlying192 rfl sizeOf145) id):A:=c b
theorem t_7(c:B->A:=by exact Be (by first|exact BG rfl gg rfl underlying205 rfl sizeOf147|exact BF rfl gg rfl underlying205 rfl sizeOf147) id):A:=c b
theorem t_8(c:B->A:=by exact t_i (by first|exact C7 rfl gg rfl rfl underlying147 sizeOf49 (by decide) (by decide)|exact DK rfl gg rfl rfl underlying147 sizeOf49 (by decide) (by decide)) id):A:=c b
theorem t_9(c:B->A:=by exact t_i (by exact BA rfl gg rfl rfl rfl sizeOf147 rfl (by simp) rfl) id):A:=c b
theorem DF(c:B->A:=by exact t_i (by first|exact C7 rfl gg rfl rfl underlying146 sizeOf49 (by decide) (by decide)|exact DK rfl gg rfl rfl underlying146 sizeOf49 (by decide) (by decide)) id):A:=c b
theorem Ho(c:B->A:=by exact Be (by exact BA rfl gg rfl rfl rfl sizeOf147 rfl (by simp) rfl) id):A:=c b
theorem HG(c:B->A:=by exact J4 (by first|exact BD rfl gg rfl rfl underlying146 rfl sizeOf146 rfl rfl|exact A2 rfl gg rfl underlying146 rfl sizeOf146 (by assumption) rfl) id):A:=c b
theorem EG(c:B->A:=by exact t_i (by first|exact C7 rfl gg rfl rfl underlying244 sizeOf49 (by decide) (by decide)|exact DK rfl gg rfl rfl underlying244 sizeOf49 (by decide) (by decide)) id):A:=c b
theorem CV(c:B->A:=by exact Be (by exact BZ rfl rfl gg zeroValue147) id):A:=c b
theorem Hn(c:B->A:=by exact t_i (by first|exact Ev.skip (λ_=>rfl)|refine D6 (λ_=>rfl) (λρ w=>by simp only[VS.act,SV.c,List.map_cons,List.map_nil];go_simp;exact rfl) (λ_ _=>rfl)) id):A:=c b
theorem HF(c:B->A:=by exact Be (by first|exact BD rfl gg rfl rfl underlying192 rfl sizeOf192 rfl rfl|exact A2 rfl gg rfl underlying192 rfl sizeOf192 (by assumption) rfl) id):A:=c b
theorem GY(c:B->A:=by exact t_i (by exact BZ rfl rfl gg zeroValue147) id):A:=c b
theorem Ec(c:B->A:=by exact t_i (by first|exact BG rfl gg rfl underlying199 rfl sizeOf147|exact BF rfl gg rfl underlying199 rfl sizeOf147) id):A:=c b
theorem Ft(c:B->A:=by exact t_i (by exact BA rfl gg rfl rfl rfl sizeOf146 rfl (by simp) rfl) id):A:=c b
theorem HE(c:B->A:=by exact Be (by first|exact BD rfl gg rfl rfl underlying64 rfl sizeOf64 rfl rfl|exact A2 rfl gg rfl underlying64 rfl sizeOf64 (by assumption) rfl) id):A:=c b
theorem J8(c:B->A:=by exact Be (by first|exact Ev.skip (λ_=>rfl)|exact BD rfl (λ_=>rfl) rfl rfl underlying147 rfl sizeOf147 rfl rfl|exact A2 rfl (λ_=>rfl) rfl underlying147 rfl sizeOf147 (by assumption) rfl) id):A:=c b
theorem It(c:B->A:=by exact Be (by first|exact BD rfl gg rfl rfl underlying205 rfl sizeOf205 rfl rfl|exact A2 rfl gg rfl underlying205 rfl sizeOf205 (by assumption) rfl) id):A:=c b
theorem RX(c:B->A:=by exact t_i (by first|exact Ev.skip (λ_=>rfl)|exact BD rfl (λ_=>rfl) rfl rfl underlying146 rfl sizeOf146 rfl rfl|exact A2 rfl (λ_=>rfl) rfl underlying146 rfl sizeOf146 (by assumption) rfl) id):A:=c b
theorem RU(c:B->A:=by exact J4 (by first|exact Ev.skip (λ_=>rfl)|exact BD rfl (λ_=>rfl) rfl rfl underlying146 rfl sizeOf146 rfl rfl|exact A2 rfl (λ_=>rfl) rfl underlying146 rfl sizeOf146 (by assumption) rfl) id):A:=c b
theorem Hm(c:B->A:=by exact Be (by first|exact BG rfl gg rfl underlying141 rfl sizeOf64|exact BF rfl gg rfl underlying141 rfl sizeOf64) id):A:=c b
theorem GX(c:B->A:=by exact t_i (by exact BA rfl gg rfl rfl rfl sizeOf49 rfl (by simp) rfl) id):A:=c b
theorem Lt(c:B->A:=by exact Be (by exact BA rfl gg rfl rfl rfl sizeOf205 rfl (by simp) rfl) id):A:=c b
theorem Fs(c:B->A:=by exact t_i (by exact BZ rfl rfl gg zeroValue146) id):A:=c b
theorem Ls(c:B->A:=by exact Be (by first|exact BD rfl gg rfl rfl underlying141 rfl sizeOf141 rfl rfl|exact A2 rfl gg rfl underlying141 rfl sizeOf141 (by assumption) rfl) id):A:=c b
theorem eW(c:B->A:=by exact t_i (by first|exact AK rfl gg rfl rfl (λw=>hmm _ _ _ _ w)|exact AK rfl gg rfl rfl (λw=>hmm1 _ _ _ w)) id):A:=c b
theorem J7(c:B->A:=by exact t_i (by first|exact AK rfl gg rfl rfl (λw=>hmu _ _ _ w)|exact AK rfl gg rfl rfl (λw=>hmu1 _ _ w)) id):A:=c b
theorem DV(c:B->A:=by exact Be (by exact A6 rfl gg rfl (bh)) id):A:=c b
theorem eV(c:B->A:=by exact t_i (by first|exact Ev.skip (λ_=>rfl)|exact Ap rfl (λ_=>rfl)) id):A:=c b
theorem Is(c:B->A:=by exact Be (by exact oJ rfl gg rfl rfl underlying192 rfl sizeOf192 rfl) id):A:=c b
theorem eU(c:B->A:=by exact t_i (by first|exact Ev.skip (λ_=>rfl)|exact BD rfl (λ_=>rfl) rfl rfl underlying147 rfl sizeOf147 rfl rfl|exact A2 rfl (λ_=>rfl) rfl underlying147 rfl sizeOf147 (by assumption) rfl) id):A:=c b
theorem OT(c:B->A:=by exact Be (by exact BZ rfl rfl gg zeroValue205) id):A:=c b
theorem RS(c:B->A:=by exact Be (by first|exact Ev.skip (λ_=>rfl)|exact BG rfl (λ_=>rfl) rfl underlying205 rfl sizeOf147|exact BF rfl (λ_=>rfl) rfl underlying205 rfl sizeOf147) id):A:=c b
theorem Ir(c:B->A:=by exact J4 (by exact BA rfl gg rfl rfl rfl sizeOf146 rfl (by simp) rfl) id):A:=c b
theorem OS(c:B->A:=by exact t_i (by exact C7 rfl gg rfl rfl underlying146 sizeOf49 (Int.natCast_nonneg _) (by have:=hq4 k hk;omega)) id):A:=c b
theorem Va(c:B->A:=by exact t_i (by first|exact AK rfl gg rfl rfl (λw=>n3 _ _ w)|exact AK rfl gg rfl rfl (λw=>n2 _ _ w)|exact AK rfl gg rfl rfl (λw=>n1 _ _ w)|exact AK rfl gg rfl rfl (λw=>n0 _ _ w)) id):A:=c b
theorem eT(c:B->A:=by exact t_i (by exact AM rfl gg rfl (eo func129) hs) id):A:=c b
theorem VZ(c:B->A:=by exact t_i (by first|exact C7 rfl gg rfl rfl underlying64 sizeOf5 (by decide) (by decide)|exact DK rfl gg rfl rfl underlying64 sizeOf5 (by decide) (by decide)) id):A:=c b
theorem OQ(c:B->A:=by exact t_i (by first|exact Ev.skip (λ_=>rfl)|exact B4 (p:=false) rfl (λ_=>rfl) rfl rfl h1) id):A:=c b
theorem Lr(c:B->A:=by exact t_i (by exact AM rfl gg rfl (eo func88) h2) id):A:=c b
theorem Lq(c:B->A:=by exact Be (by exact BA rfl gg rfl rfl rfl sizeOf141 rfl (by simp) rfl) id):A:=c b
theorem J6(c:B->A:=by exact Be (by exact AK rfl gg rfl rfl (λw=>Ig hz _ _ w)) id):A:=c b
theorem VY(c:B->A:=by exact t_i (by first|exact BD rfl gg rfl rfl underlying64 rfl sizeOf64 rfl rfl|exact A2 rfl gg rfl underlying64 rfl sizeOf64 (by assumption) rfl) id):A:=c b
theorem OP(c:B->A:=by exact t_i (by exact AM rfl gg rfl (eo func186) (hsq _ _ hk hRn)) id):A:=c b
theorem VX(c:B->A:=by exact Be (by first|exact Ev.skip (λ_=>rfl)|refine D6 (λ_=>rfl) (λρ w=>by simp only[VS.act,SV.c,List.map_cons,List.map_nil];go_simp;exact rfl) (λ_ _=>rfl)) id):A:=c b
theorem J5(c:B->A:=by exact t_i (by exact AK rfl gg rfl rfl (λw=>hs2b _ _ _ w)) id):A:=c b
theorem Iq(c:B->A:=by exact J4 (by exact BZ rfl rfl gg zeroValue146) id):A:=c b
theorem RR(c:B->A:=by exact Be (by exact AM rfl gg rfl (eo func106) (λh e=>Ug _ _ h (ha.gw e))) id):A:=c b
theorem RQ(c:B->A:=by exact Be (by exact AM rfl gg rfl (eo func130) (λh e=>GZ e83 h (ha.gw e))) id):A:=c b
theorem RP(c:B->A:=by exact Be (by exact AM rfl gg rfl (eo func130) (λh e=>GZ e88 h (ha.gw e))) id):A:=c b
theorem RO(c:B->A:=by exact Be (by exact AM rfl gg rfl (eo func83) (λh e=>B3 e37 h (ha.gw e))) id):A:=c b
theorem RL(c:B->A:=by exact Be (by exact AM rfl gg rfl (eo func83) (λh e=>B3 e44 h (ha.gw e))) id):A:=c b
theorem RJ(c:B->A:=by exact Be (by exact AM rfl gg rfl (eo func83) (λh e=>B3 e50 h (ha.gw e))) id):A:=c b
theorem RI(c:B->A:=by exact Be (by exact AM rfl gg rfl (eo func83) (λh e=>B3 e56 h (ha.gw e))) id):A:=c b
theorem RH(c:B->A:=by exact Be (by exact AM rfl gg rfl (eo func83) (λh e=>B3 e66 h (ha.gw e))) id):A:=c b
theorem RG(c:B->A:=by exact Be (by exact AM rfl gg rfl (eo func83) (λh e=>B3 e67 h (ha.gw e))) id):A:=c b
theorem RF(c:B->A:=by exact Be (by exact AM rfl gg rfl (eo func83) (λh e=>B3 e77 h (ha.gw e))) id):A:=c b
theorem RE(c:B->A:=by exact Be (by exact AM rfl gg rfl (eo func83) (λh e=>B3 e78 h (ha.gw e))) id):A:=c b
theorem RD(c:B->A:=by exact Be (by exact AM rfl gg rfl (eo func83) (λh e=>Yf _ _ h (ha.gw e))) id):A:=c b
theorem VW(c:B->A:=by exact t_i (by exact Aj [21] rfl gg rfl (eo func160) (λρ h e=>hsh _ _ _ hlt hRn h (ρ 21) (Rs e (by simp) rfl 0 _ rfl))) id):A:=c b
theorem OO(c:B->A:=by exact Be (by exact A2 rfl gg rfl underlying147 rfl sizeOf147 (hL.pp) rfl) id):A:=c b
theorem ON(c:B->A:=by exact t_i (by exact AK rfl gg rfl rfl (λw=>(hnz _ _ _ w).trans (by rw[hz]))) id):A:=c b
theorem RB(c:B->A:=by exact J4 (by exact AM rfl gg rfl (eo func163) (λh e=>gH _ _ h)) id):A:=c b
theorem OM(c:B->A:=by exact t_i (by exact AM rfl gg rfl (eo func188) h3) id):A:=c b
theorem OK(c:B->A:=by exact t_i (by exact AM rfl gg rfl (eo func88) h1) id):A:=c b
theorem RA(c:B->A:=by exact J4 (by exact AM rfl gg rfl (eo func161) (λh e=>c_P h)) id):A:=c b
theorem OJ(c:B->A:=by exact t_i (by exact BK rfl gg rfl rfl underlying49 rfl (hle k hk)) id):A:=c b
theorem Q9(c:B->A:=by exact Be (by first|exact Ev.skip (λ_=>rfl)|exact A6 rfl (λ_=>rfl) rfl (bh)) id):A:=c b
theorem OI(c:B->A:=by exact t_i (by exact BM (p:=false) rfl gg rfl rfl h0) id):A:=c b
theorem eS(c:B->A:=by exact Be (by exact BZ rfl rfl gg zeroValue141) id):A:=c b
theorem OH(c:B->A:=by exact t_i (by exact AK rfl gg rfl rfl (λw=>hq _ hk _ _ w)) id):A:=c b
theorem OG(c:B->A:=by exact t_i (by exact AK rfl gg rfl rfl (λw=>hsr _ _ _ w)) id):A:=c b
theorem OF(c:B->A:=by exact t_i (by exact AK rfl gg rfl rfl (λw=>hr2 _ _ _ w)) id):A:=c b
theorem OE(c:B->A:=by exact t_i (by exact AK rfl gg rfl rfl (λw=>hr _ _ _ w)) id):A:=c b
theorem OD(c:B->A:=by exact t_i (by exact AK rfl gg rfl rfl (λw=>hq _ _ w)) id):A:=c b
theorem OC(c:B->A:=by exact t_i (by exact AK rfl gg rfl rfl (λw=>hr _ _ w)) id):A:=c b
theorem OB(c:B->A:=by exact t_i (by exact AK rfl gg rfl rfl (λw=>hs _ _ w)) id):A:=c b
theorem OA(c:B->A:=by exact t_i (by exact AK rfl gg rfl rfl (λw=>ha _ _ w)) id):A:=c b
end
theorem iN{P:Prop}(h:Q)(c:Q->P:=by
 intro h'q;first
 |(refine n9 (by first|exact Ap rfl gg|exact CJ rfl gg|exact G3 rfl rfl gg rfl|exact Cy rfl gg rfl rfl|exact C8 rfl gg rfl rfl|exact CY rfl gg rfl rfl|exact Ca rfl gg rfl rfl|exact D7 rfl gg rfl|exact IS rfl gg rfl|exact IR rfl gg rfl) ?_;exact h'q)
 |(refine t_n ⟨by kernel_rfl,?_⟩;(try change VOk _ _ _ _ _);exact h'q)
 |(refine Fl ?_;exact h'q)
 |(refine t_p ?_;exact h'q)
 |(refine t_d (by kernel_rfl) ?_;exact h'q)
 |(refine GO ?_;(try change VOk _ _ _ _ _);exact h'q)
 |(refine Hf ?_;exact h'q)
 |(refine GP rfl ?_;exact h'q)
 |(refine GQ rfl ?_;exact h'q)):P:=c h
theorem BJ{P:Prop}(h:Q)(c:Q->P:=by
 intro h'q;first
 |(refine AV (by first|exact Ap rfl gg|exact CJ rfl gg|exact G3 rfl rfl gg rfl|exact Cy rfl gg rfl rfl|exact C8 rfl gg rfl rfl|exact CY rfl gg rfl rfl|exact Ca rfl gg rfl rfl|exact D7 rfl gg rfl|exact IS rfl gg rfl|exact IR rfl gg rfl) ?_;exact h'q)
 |(refine t_n ⟨by kernel_rfl,?_⟩;(try change VOk _ _ _ _ _);exact h'q)
 |(refine Fl ?_;exact h'q)
 |(refine t_p ?_;exact h'q)
 |(refine t_d (by kernel_rfl) ?_;exact h'q)
 |(refine GO ?_;(try change VOk _ _ _ _ _);exact h'q)
 |(refine Hf ?_;exact h'q)
 |(refine GP rfl ?_;exact h'q)
 |(refine GQ rfl ?_;exact h'q)):P:=c h
theorem GW{P:Prop}(h:Q)(c:Q->P:=by
 intro h'q;first
 |(refine DU (by first|exact Ap rfl gg|exact CJ rfl gg|exact G3 rfl rfl gg rfl|exact Cy rfl gg rfl rfl|exact C8 rfl gg rfl rfl|exact CY rfl gg rfl rfl|exact Ca rfl gg rfl rfl|exact D7 rfl gg rfl|exact IS rfl gg rfl|exact IR rfl gg rfl) ?_;exact h'q)
 |(refine t_n ⟨by kernel_rfl,?_⟩;(try change VOk _ _ _ _ _);exact h'q)
 |(refine Fl ?_;exact h'q)
 |(refine t_p ?_;exact h'q)
 |(refine t_d (by kernel_rfl) ?_;exact h'q)
 |(refine GO ?_;(try change VOk _ _ _ _ _);exact h'q)
 |(refine Hf ?_;exact h'q)
 |(refine GP rfl ?_;exact h'q)
 |(refine GQ rfl ?_;exact h'q)):P:=c h
section
variable(b:B)
include b
theorem Dl(c:B->A:=by intro b;refine Q2 ?_;simp only[List.map_cons,List.map_nil];exact b):A:=c b
theorem BP(c:B->A:=by intro b;change VOk _ _ _ _ _;(iterate 2 refine iN ?_);exact b):A:=c b
theorem Dn(c:B->A:=by intro b;refine iN ?_;refine AG ?_;exact b):A:=c b
theorem C3(c:B->A:=by intro b;change VOk _ _ _ _ _;(iterate 4 refine iN ?_);exact b):A:=c b
theorem Bv(c:B->A:=by intro b;refine t_1 ?_;(iterate 6 refine iN ?_);exact b):A:=c b
theorem Dx(c:B->A:=by intro b;refine t_1 ?_;(iterate 2 refine iN ?_);exact b):A:=c b
theorem tq(c:B->A:=by intro b;(iterate 2 refine Ho ?_);(iterate 3 refine iN ?_);exact b):A:=c b
theorem EQ(c:B->A:=by intro b;refine t_1 ?_;(iterate 4 refine iN ?_);exact b):A:=c b
theorem C0(c:B->A:=by intro b;refine Dl ?_;(iterate 3 refine iN ?_);exact b):A:=c b
theorem ET(c:B->A:=by intro b;refine t_1 ?_;(iterate 8 refine iN ?_);exact b):A:=c b
theorem E8(c:B->A:=by intro b;refine Dl ?_;(iterate 4 refine iN ?_);exact b):A:=c b
theorem Cz(c:B->A:=by intro b;refine Dl ?_;(iterate 4 refine BJ ?_);exact b):A:=c b
theorem E9(c:B->A:=by intro b;refine Fs ?_;(iterate 3 refine iN ?_);exact b):A:=c b
theorem Cw(c:B->A:=by intro b;refine t_9 ?_;refine Dn ?_;exact b):A:=c b
theorem Fp(c:B->A:=by intro b;refine GY ?_;refine t_9 ?_;exact b):A:=c b
theorem tr(c:B->A:=by intro b;refine Ho ?_;(iterate 3 refine iN ?_);exact b):A:=c b
theorem FB(c:B->A:=by intro b;refine t_1 ?_;(iterate 3 refine iN ?_);exact b):A:=c b
theorem JN(c:B->A:=by intro b;refine Dl ?_;(iterate 9 refine iN ?_);exact b):A:=c b
theorem Hk(c:B->A:=by intro b;refine GY ?_;(iterate 5 refine iN ?_);exact b):A:=c b
theorem E3(c:B->A:=by intro b;(iterate 2 refine Ho ?_);(iterate 4 refine iN ?_);exact b):A:=c b
theorem Fo(c:B->A:=by intro b;refine t_1 ?_;(iterate 5 refine iN ?_);exact b):A:=c b
theorem JM(c:B->A:=by intro b;refine t_1 ?_;(iterate 7 refine iN ?_);exact b):A:=c b
theorem GV(c:B->A:=by intro b;refine Fp ?_;(iterate 6 refine iN ?_);exact b):A:=c b
theorem Dy(c:B->A:=by intro b;refine iN ?_;refine eV ?_;exact b):A:=c b
theorem Gg(c:B->A:=by intro b;refine Dl ?_;(iterate 5 refine iN ?_);exact b):A:=c b
theorem E7(c:B->A:=by intro b;refine tq ?_;refine t_6 ?_;exact b):A:=c b
theorem Hl(c:B->A:=by intro b;refine Ft ?_;refine Dn ?_;exact b):A:=c b
theorem eL(c:B->A:=by intro b;refine Lt ?_;refine Dn ?_;exact b):A:=c b
theorem Hj(c:B->A:=by intro b;refine GX ?_;(iterate 3 refine iN ?_);exact b):A:=c b
theorem HR(c:B->A:=by intro b;refine GY ?_;(iterate 3 refine iN ?_);exact b):A:=c b
theorem HO(c:B->A:=by intro b;refine eT ?_;(iterate 3 refine iN ?_);exact b):A:=c b
theorem HC(c:B->A:=by intro b;refine eW ?_;(iterate 3 refine iN ?_);exact b):A:=c b
theorem HN(c:B->A:=by intro b;refine t_9 ?_;(iterate 2 refine iN ?_);exact b):A:=c b
theorem Lh(c:B->A:=by intro b;refine CV ?_;refine tr ?_;exact b):A:=c b
theorem J2(c:B->A:=by intro b;refine GY ?_;(iterate 4 refine iN ?_);exact b):A:=c b
theorem J1(c:B->A:=by intro b;refine Ft ?_;(iterate 4 refine iN ?_);exact b):A:=c b
theorem JL(c:B->A:=by intro b;refine OT ?_;(iterate 4 refine iN ?_);exact b):A:=c b
theorem JK(c:B->A:=by intro b;refine OT ?_;(iterate 5 refine iN ?_);exact b):A:=c b
theorem I5(c:B->A:=by intro b;refine eS ?_;(iterate 3 refine iN ?_);exact b):A:=c b
theorem I4(c:B->A:=by intro b;refine Dl ?_;(iterate 12 refine iN ?_);exact b):A:=c b
theorem Ip(c:B->A:=by intro b;refine Dl ?_;(iterate 5 refine BJ ?_);exact b):A:=c b
theorem Io(c:B->A:=by intro b;refine Dl ?_;(iterate 2 refine iN ?_);exact b):A:=c b
end
end Go.Proofs.YtafbhakmkbehiaaGreatDoor
open Go Go.Proofs.Tryz
abbrev x7:=@underlying23
abbrev x8:=@if_neg
abbrev x9:=@if_pos
abbrev yA:=@of_decide_eq_true
abbrev yB:=@decide_eq_false
abbrev yC:=@of_decide_eq_false
abbrev yD:=@Nat.le_refl
abbrev yE:=@decide_eq_true
abbrev yF:=@underlying9
abbrev yG:=@sizeOf5
abbrev yH:=@sizeOf61
abbrev yI:=@sizeOf71
abbrev yJ:=@Nat.mod_lt
abbrev yK:=@Nat.lt_of_lt_of_le
abbrev yL:=@underlying5
abbrev yM:=@List.length_append
abbrev yN:=@sizeOf34
abbrev yO:=@underlying59
abbrev yP:=@Nat.mod_eq_of_lt
abbrev yQ:=@Nat.mul_one
abbrev yR:=@sizeOf64
abbrev yS:=@underlying71
abbrev yT:=@Option.some.injEq
abbrev yU:=@run_underlying
abbrev yV:=@underlying69
abbrev yW:=@Bool.and_eq_true
abbrev yX:=@underlying43
abbrev yY:=@underlying64
abbrev yZ:=@underlying61
abbrev y5:=@List.all_eq_true
abbrev y6:=@Nat.zero_le
abbrev y7:=@sizeOf23
abbrev y8:=@underlying147
abbrev y9:=@underlying22
abbrev zA:=@List.mem_of_getElem?
abbrev zB:=@underlying34
abbrev zC:=@List.getElem?_map
abbrev zD:=@sizeOf147
abbrev zE:=@Nat.mul_comm
abbrev zF:=@sizeOf49
abbrev zG:=@if_true
abbrev zH:=@List.length_drop
abbrev zI:=@sizeOf22
abbrev zJ:=@List.eq_nil_of_length_eq_zero
abbrev zK:=@List.getElem?_eq_getElem
abbrev zL:=@Nat.mod_add_div
abbrev zM:=@decide_eq_decide
abbrev zN:=@underlying49
abbrev zO:=@func83
abbrev zP:=@List.getElem?_take
abbrev zQ:=@List.getElem?_drop
abbrev zR:=@Nat.mul_mod
abbrev zS:=@and_true
abbrev zT:=@List.take_of_length_le
abbrev zU:=@World.cell?_alloc_lt
abbrev zV:=@func74
abbrev zW:=@Nat.zero_add
abbrev zX:=@List.cons.injEq
abbrev zY:=@underlying38
abbrev zZ:=@func82
abbrev z4:=@Option.some.inj
abbrev z5:=@Bool.not_true
abbrev z6:=@List.length_take
abbrev z7:=@List.append_assoc
abbrev z8:=@Array.getElem?_eq_some_iff
abbrev z9:=@sizeOf38
abbrev AT:=@Option.map_some
abbrev BT:=@congrArg
abbrev BY:=@decide_eq_true_eq
abbrev CA:=@Nat.pow_succ
abbrev CD:=@sizeOf9
abbrev CT:=@ntmps74
abbrev DA:=@results74
abbrev DB:=@List.drop_of_length_le
abbrev DE:=@List.length_map
abbrev DH:=@execOp_call_go
abbrev DM:=@heap_alloc_old
abbrev DO:=@List.mem_of_mem_drop
abbrev DP:=@Nat.mul_assoc
abbrev DQ:=@underlying141
abbrev DS:=@sizeOf3
abbrev D0:=@List.getElem?_eq_none
abbrev GS:=@Nat.add_mod
abbrev ID:=@setRow_heap
abbrev IF:=@Option.isSome_iff_exists
abbrev IN:=@Bool.not_false
abbrev JT:=@results101
abbrev KK:=@List.map_map
abbrev L7:=@heap_alloc_new
abbrev MT:=@setRow_other
abbrev OR:=@run_loadCells_list
abbrev PA:=@List.mem_of_mem_take
abbrev PB:=@Nat.mod_mod
abbrev PJ:=@Nat.add_mul
abbrev RC:=@Prod.mk.injEq
abbrev RK:=@List.mem_singleton
abbrev RM:=@List.map_drop
abbrev RT:=@Nat.le_of_ble_eq_true
abbrev RW:=@sizeOf247
abbrev SM:=@List.drop_eq_nil_of_le
abbrev SW:=@List.map_append
abbrev WD:=@Nat.div_div_eq_div_mul
abbrev uA0:=@results38
abbrev uA1:=@Classical.byContradiction
abbrev uA2:=@Nat.le_of_dvd
abbrev uA3:=@sizeOf141
abbrev uA4:=@underlying248
abbrev uA5:=@underlying247
abbrev uA6:=@List.mem_cons
abbrev uA7:=@underlying3
abbrev uA8:=@List.length_singleton
abbrev uA9:=@Nat.le_trans
abbrev uB0:=@Function.comp_def
abbrev uB1:=@List.ext_getElem?
abbrev uB2:=@results44
abbrev uB3:=@List.mem_append
abbrev uB4:=@List.map_congr_left
abbrev uB5:=@List.getElem?_append_left
abbrev uB6:=@IntKind.wrap_u64
abbrev uB7:=@List.map_take
abbrev uB8:=@List.mem_map
abbrev uB9:=@underlying205
abbrev uC0:=@sizeOf205
abbrev uC1:=@Bool.or_eq_false_iff
abbrev uC2:=@List.getElem?_append_right
abbrev uC3:=@List.drop_append
abbrev uC4:=@Nat.mod_mul_mod
abbrev uC5:=@Nat.mul_le_mul_right
abbrev uC6:=@BitVec.toNat_ofInt
abbrev uC7:=@underlying262
abbrev uC8:=@underlying102
abbrev uC9:=@Nat.div_eq_of_lt
abbrev uD0:=@List.getElem?_eq_some_iff
abbrev uD1:=@List.size_toArray
abbrev uD2:=@Nat.dvd_trans
abbrev uD3:=@World.frozen?_alloc_old
abbrev uD4:=@List.drop_drop
abbrev uD5:=@Int.tmod_eq_emod_of_nonneg
abbrev uD6:=@Nat.le_of_lt
abbrev uD7:=@underlying4
abbrev uD8:=@IntKind.wrap_u8'
abbrev uD9:=@Nat.div_add_mod
abbrev uE0:=@Bool.not_eq_false'
abbrev uE1:=@Value.int.injEq
abbrev uE2:=@Nat.add_mul_mod_self_left
abbrev uE3:=@decide_eq_false_iff_not
abbrev uE4:=@List.getD_eq_getElem?_getD
abbrev uE5:=@List.length_replicate
abbrev uE6:=@List.take_append_drop
abbrev uE7:=@List.take_append_of_le_length
abbrev uE8:=@Option.isSome_none
abbrev uE9:=@Option.isSome_some
abbrev uF0:=@Array.getElem?_eq_none
abbrev uF1:=@Nat.add_sub_cancel_left
abbrev uF2:=@Bool.not_eq_true'
abbrev uF3:=@List.drop_append_of_le_length
abbrev uF4:=@World.block_lt_of_cell?
abbrev uF5:=@Array.getD_eq_getD_getElem?
abbrev uF6:=@getD_replicate_false
