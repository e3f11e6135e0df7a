import Derived.Laws.AppendOwn
import Derived.Laws.IdiomStrings
import Derived.Laws.BytesString
import Derived.ChangeSame
import Derived.ChangeBears
import Derived.ReadAgain
import Derived.Lib.AppendStr
import Derived.Test.YtafbhakmkbehiaaGreatDoorW1
open Go.Proofs.Tryz
set_option maxHeartbeats 4000000
set_option maxRecDepth 100000
section
namespace Go.Vx
open Go.RowKit Go.Toll
abbrev Bw(w a:World):Prop:=Below w.heap.size w a
theorem Bw.refl(w:World):Bw w w:=Below.refl _ _
theorem Bw.trans{a b c:World}(h:Bw a b)(k:Bw b c):Bw a c:=Below.trans h (Below.mono k h.size)
structure Nm where
 g:Nat
 val:Value
deriving Inhabited
inductive SV where
 |v (x:Value)
 |p (id off:Nat)
 |s (id off len cap:Nat)
 |d (id:Nat)
 |fn (f:Value->Value) (x:SV)
 |agg (l:List SV)
 |tup (l:List SV)
deriving Inhabited
mutual
def SV.c(ρ:Nat->Nm):SV->Value
 | .v x=>x
 | .p id off=>.pointer (some ⟨(ρ id).g,off,none⟩)
 | .s id off len cap=>.slice (some ⟨(ρ id).g,off,none⟩) len cap
 | .d id=>(ρ id).val
 | .fn f x=>f (SV.c ρ x)
 | .agg l=>.agg (SV.cs ρ l).toArray
 | .tup l=>.tuple (SV.cs ρ l).toArray
def SV.cs(ρ:Nat->Nm):List SV->List Value
 | []=>[]
 |x::l=>SV.c ρ x::SV.cs ρ l
end
mutual
def SV.has(id:Nat):SV->Bool
 | .v _=>false
 | .p k _=>k==id
 | .s k _ _ _=>k==id
 | .d k=>k==id
 | .fn _ x=>SV.has id x
 | .agg l=>SV.hasL id l
 | .tup l=>SV.hasL id l
def SV.hasL(id:Nat):List SV->Bool
 | []=>false
 |x::l=>SV.has id x||SV.hasL id l
end
theorem A8(ρ:Nat->Nm):∀l:List SV,SV.cs ρ l=l.map (SV.c ρ)
 | []=>by simp[SV.cs]
 |x::l=>by simp[SV.cs,A8 ρ l]
theorem P4(id:Nat):∀l:List SV,SV.hasL id l=l.any (SV.has id)
 | []=>by simp[SV.hasL]
 |x::l=>by simp[SV.hasL,P4 id l]
structure Dat where
 holds:List Value->World->(Nat->Prop)->Prop
 keep:∀{xs:List Value} {w w':World} {S:Nat->Prop},holds xs w S->(∀k,S k->w'.heap[k]? =w.heap[k]?)->holds xs w' S
def Dat.exact(l:List Value):Dat:=⟨λa _ _=>a=l,λh _=>h⟩
theorem cc(a:Addr)(i:Nat):(a.add i).block=a.block:=by unfold Addr.add;split<;>rfl
theorem Uf(a:Addr)(m i:Nat):(a.add m).add i=a.add (m+i):=by
 unfold Addr.add;by_cases h:m=0
 .subst h;simp
 .by_cases c:i=0
  .subst c;simp[h]
  .simp[h,c,Nat.add_assoc]
def AO(w:World)(v:Value)(n d:Nat)(l:List Value)(S:Nat->Prop):Prop:=
 ∃e c,v=.slice e n c/\n<=c/\l.length=n*d/\(l=[]\/ ∃a,e=some a/\S a.block/\ ∀i x,l[i]? =some x->w.cell? (a.add i)=some x)
theorem AO.keep{w f:World}{v:Value}{n d:Nat}{l:List Value}{S:Nat->Prop}(h:AO w v n d l S)(t:∀k,S k->f.heap[k]? =w.heap[k]?):AO f v n d l S:=by
 obtain⟨j,e,m,p,q,r⟩:=h;refine⟨j,e,m,p,q,r.imp id λ⟨g,a,b,c⟩=>⟨g,a,b,λi x u=> ?_⟩⟩;exact(World.cell?_of_block (w:=w) (a:=g.add i) (by rw[cc];exact t _ b)).trans (c i x u)
def Dat.sl(n a:Nat)(l:List Value):Dat:=⟨λc w S=> ∃v,c=[v]/\AO w v n a l S,λ⟨v,e,h⟩ hk=>⟨v,e,h.keep hk⟩⟩
inductive Blk where
 |cells (l:List SV) (ty:TypeId)
 |row (n size:Nat) (ty:TypeId) (D:Dat)
 |dat (D:Dat)
 |arr (l:List Value) (ty:TypeId)
 |pin (j g:Nat)
 |floor (n:Nat)
def Blk.has(id:Nat):Blk->Bool
 | .cells l _=>SV.hasL id l
 | .row _ _ _ _=>false
 | .dat _=>false
 | .arr _ _=>false
 | .pin j _=>SV.hasL id [.p j 0]
 | .floor _=>false
def Blk.owns(n:Nm):Blk->Prop
 | .cells _ _=>True
 | .row _ _ _ _=>n.val≠ .slice none 0 0
 | .dat _=>False
 | .arr _ _=>True
 | .pin _ _=>False
 | .floor _=>False
abbrev Mem:=Nat->Option Blk
structure VS where
 fr:List SV
 mem:Mem
def VS.act(s:VS)(a:Nat->Nm):Act:=⟨(s.fr.map (SV.c a)).toArray,[]⟩
def CP(c:Nat->Nm)(l:List SV)(a:TypeId):Obj:=.cells (SV.cs c l).toArray a (0,0)
def EC(w:World)(f:Nat)(m:Nm)(n d:Nat)(i:TypeId)(j:List Value):Prop:=
 (m.val=.slice none 0 0/\n=0)\/ ∃e c a h,m.val=.slice (some ⟨m.g,e,none⟩) n c/\f<=m.g/\w.heap[m.g]? =some (.cells a i h)/\(h=(0,0)\/h=(a.size,a.size+1))/\n<=c/\c<=maxLen/\e+c*d<=a.size/\(a.toList.drop e).take (n*d)=j
def CR(a:Nat)(c:Nat->Nm)(id:Nat)(b:Blk)(w:World)(S:Nat->Prop):Prop:=match b with
 | .cells l ty=>a<=(c id).g/\w.heap[(c id).g]? =some (CP c l ty)
 | .row n size ty D=> ∃d,d.length=n*size/\D.holds d w S/\EC w a (c id) n size ty d
 | .dat D=>D.holds [(c id).val] w S
 | .arr l ty=>a<=(c id).g/\w.heap[(c id).g]? =some (.cells l.toArray ty (0,0))
 | .pin j g=>(c j).g=g
 | .floor n=>n<=w.heap.size
structure RelOn(base:Nat)(ρ:Nat->Nm)(S:Nat->Nat->Prop)(w:World)(m:Mem):Prop where
 good:∀id b,m id=some b->CR base ρ id b w (S id)
 lt:∀id k,(m id).isSome->S id k->k<w.heap.size
 fr:∀id k,(m id).isSome->S id k->base<=k
 dis:∀i b j,m i=some b->b.owns (ρ i)->(m j).isSome-> ¬S j (ρ i).g
 inj:∀i b j c,m i=some b->b.owns (ρ i)->m j=some c->c.owns (ρ j)->(ρ i).g=(ρ j).g->i=j
def Rel(w0:World)(a:Nat->Nm)(s:VS)(w:World):Prop:=Bw w0 w/\ ∃S,RelOn w0.heap.size a S w s.mem
theorem CR.own{a:Nat}{d:Nat->Nm}{id:Nat}{b:Blk}{w:World}{S:Nat->Prop}(h:CR a d id b w S)(c:b.owns (d id)):a<=(d id).g/\(d id).g<w.heap.size:=by
 cases b with
 |cells l ty=>exact⟨h.1,(z8.1 h.2).1⟩
 |row n size ty D=>
  obtain⟨q,_,_,h⟩:=h;rcases h with⟨h,_⟩|⟨m,e,f,p,_,i,k,_⟩
  .exact absurd h c
  .exact⟨i,(z8.1 k).1⟩
 |dat D=>exact c.elim
 |arr l ty=>exact⟨h.1,(z8.1 h.2).1⟩
 |pin j g=>exact c.elim
 |floor n=>exact c.elim
def restr(a:List Nat)(m:Mem):Mem:=λk=>if k∈a then m k else none
theorem RelOn.restr{f:Nat}{r:Nat->Nm}{S:Nat->Nat->Prop}{w:World}{m:Mem}(h:RelOn f r S w m)(q:List Nat):RelOn f r S w (restr q m):=by
 have a:∀id b,Vx.restr q m id=some b->m id=some b:=λid b e=>by
  unfold Vx.restr at e;split at e
  .exact e
  .cases e
 have d:∀id,(Vx.restr q m id).isSome->(m id).isSome:=λid e=>by
  obtain⟨b,e⟩:=IF.1 e;rw[a id b e];rfl
 exact⟨λid b e=>h.good id b (a id b e),λid k p=>h.lt id k (d id p),λid k p=>h.fr id k (d id p),λi b j g n l=>h.dis i b j (a i b g) n (d j l),
  λi b j c g n l t=>h.inj i b j c (a i b g) n (a j c l) t⟩
theorem gT{a:List Nat}{m c:Mem}(h:∀id∈a,m id=c id):restr a m=restr a c:=by
 funext k;unfold restr;split
 .rename_i hk;exact h k hk
 .rfl
def AJ:List (Nat×Blk)->Mem
 | []=>λ_=>none
 |(id,b)::l=>λk=>if k=id then some b else AJ l k
structure Eff where
 val:SV
 add:List (Nat×Blk)
 up:List Nat
 nw:List Nat
 rd:List Nat
def Eff.tgt(e:Eff):List Nat:=e.up++e.nw
def BC(m:Mem)(e:Eff):Mem:=λk=>match AJ e.add k with
 |some b=>some b
 |none=>if k∈e.up then none else m k
def Eff.ok(e:Eff):Bool:=e.up.all (λi=>e.rd.contains i) && e.add.all (λx=>e.up.contains x.1||e.nw.contains x.1)
def Bb(l:List SV)(d:Option Nat)(x:SV):List SV:=match d with|some d=>l.set d x|none=>l
def VS.put(s:VS)(d:Option Nat)(e:Eff):VS:=⟨Bb s.fr d e.val,BC s.mem e⟩
def Eff.has(id:Nat)(e:Eff):Bool:=e.val.has id||e.add.any (λx=>x.2.has id)
theorem Sz:∀{l:List (Nat×Blk)} {k:Nat} {b:Blk},AJ l k=some b->(k,b)∈l
 | [],_,_,h=>by cases h
 |(id,c)::l,k,b,h=>by
  simp only[AJ]at h;split at h
  .rename_i e;injection h with h;rw[e,h];simp
  .exact List.mem_cons_of_mem _ (Sz h)
theorem Eff.ok_up{e:Eff}(h:e.ok=true){i:Nat}(a:i∈e.up):i∈e.rd:=by
 simp only[Eff.ok,yW]at h;have:=y5.1 h.1 i a;simpa using this
theorem Eff.ok_add{e:Eff}(h:e.ok=true){i:Nat}{b:Blk}(a:AJ e.add i=some b):i∈e.tgt:=by
 simp only[Eff.ok,yW]at h;have:=y5.1 h.2 _ (Sz a);simpa[Eff.tgt] using this
theorem Jd{l:List SV}{d:Option Nat}{x:SV}{k:Nat}(h:d≠some k):(Bb l d x)[k]? =l[k]? :=by
 cases d with
 |none=>rfl
 |some d=>simp only[Bb];rw[List.getElem?_set_ne (by intro e;exact h (by rw[e]))]
theorem Tn(l:List SV)(d:Option Nat)(x:SV):(Bb l d x).length=l.length:=by cases d<;>simp[Bb]
theorem To(l:List SV){d e:Option Nat}(x y:SV)(h:∀k,d=some k->e≠some k):Bb (Bb l d x) e y=Bb (Bb l e y) d x:=by
 cases d with
 |none=>rfl
 |some d=>
  cases e with
  |none=>rfl
  |some e=>simp only[Bb];rw[List.set_comm];intro a;exact h d rfl (by rw[a])
theorem Dc{m:Mem}{e:Eff}(d:e.ok=true){k:Nat}(h:k∉e.tgt):BC m e k=m k:=by
 unfold BC;cases c:AJ e.add k with
 |some b=>exact absurd (Eff.ok_add d c) h
 |none=>simp only;rw[x8];intro a;exact h (List.mem_append_left _ a)
theorem Sx(m:Mem){e f:Eff}(g:e.ok=true)(d:f.ok=true)(h:∀k∈e.tgt,k∉f.tgt):BC (BC m e) f=BC (BC m f) e:=by
 funext k
 by_cases c:k∈e.tgt
 .rw[Dc d (h k c)]
  unfold BC;cases AJ e.add k with
  |some b=>rfl
  |none=>
   simp only;by_cases a:k∈e.up
   .rw[x9 a,x9 a]
   .rw[x8 a,x8 a]
    have:=Dc (m:=m) d (h k c);unfold BC at this;rw[this]
 .rw[Dc (m:=BC m f) g c]
  by_cases i:k∈f.tgt
  .unfold BC
   cases AJ f.add k with
   |some b=>rfl
   |none=>
    simp only;by_cases a:k∈f.up
    .rw[x9 a,x9 a]
    .rw[x8 a,x8 a]
     have:=Dc (m:=m) g c;unfold BC at this;rw[this]
  .rw[Dc d i,Dc g c,Dc d i]
theorem Hc(s:VS)(a:Nat->Nm)(d:Option Nat)(e:Eff):(s.put d e).act a=(s.act a).put d (e.val.c a):=by
 cases d with
 |none=>rfl
 |some d=>simp[VS.put,VS.act,Act.put,Bb,List.map_set]
section
variable(D:Nat->Option Nat)(F:Nat->Eff)(s0:VS)
def st(β:Nat->Bool):Nat->VS
 |0=>s0
 |k+1=>if β k then(st β k).put (D k) (F k)else st β k
def upd(a:Nat->Bool)(i:Nat):Nat->Bool:=λj=>if j=i then true else a j
def cnt(β:Nat->Bool):Nat->Nat
 |0=>0
 |k+1=>cnt β k+if β k then 1 else 0
theorem Iv{a c:Nat->Bool}:∀k,(∀j,j<k->a j=c j)->st D F s0 a k=st D F s0 c k:=by
 intro k
 induction k with
 |zero=>intro _;rfl
 |succ k ih=>intro h;simp only[st,h k (by omega),ih λj d=>h j (by omega)]
theorem Rc(a:Nat->Bool):∀k,(st D F s0 a k).fr.length=s0.fr.length:=by
 intro k
 induction k with
 |zero=>rfl
 |succ k ih=>simp only[st];split<;>simp[VS.put,Tn,ih]
theorem Rf{f g:Nat->Bool}(x:Nat):∀k,(∀j,j<k->f j≠g j->D j≠some x)->(st D F s0 f k).fr[x]? =(st D F s0 g k).fr[x]? :=by
 intro k
 induction k with
 |zero=>intro _;rfl
 |succ k ih=>
  intro h;have a:=ih λj i=>h j (by omega)
  by_cases e:f k=g k
  .simp only[st,e]
   split
   .simp only[VS.put]
    by_cases c:D k=some x
    .simp[c,Bb,List.getElem?_set,Rc]
    .rw[Jd c,Jd c,a]
   .exact a
  .have c:=h k (by omega) e
   have d:∀(t:VS),(t.put (D k) (F k)).fr[x]? =t.fr[x]? :=λt=>Jd c
   simp only[st];split<;>split<;>simp only[d,a]
theorem Rb{f g:Nat->Bool}(x:Nat)(c:∀j,(F j).ok=true):∀k,(∀j,j<k->f j≠g j->x∉(F j).tgt)->(st D F s0 f k).mem x=(st D F s0 g k).mem x:=by
 intro k
 induction k with
 |zero=>intro _;rfl
 |succ k ih=>
  intro h;have a:=ih λj l=>h j (by omega)
  by_cases e:f k=g k
  .simp only[st,e]
   split
   .simp only[VS.put,BC]
    cases AJ (F k).add x with
    |some b=>rfl
    |none=>simp only;rw[a]
   .exact a
  .have i:=h k (by omega) e
   have d:∀(t:VS),(t.put (D k) (F k)).mem x=t.mem x:=λt=>Dc (c k) i
   simp only[st];split<;>split<;>simp only[d,a]
theorem Ra{a:Nat->Bool}{i:Nat}(d:∀j,(F j).ok=true)(m:a i=false):∀k,i<k->(∀j,i<j->j<k->a j=true->(∀x,D i=some x->D j≠some x)/\(∀x∈(F i).tgt,x∉(F j).tgt))->
 st D F s0 (upd a i) k=(st D F s0 a k).put (D i) (F i):=by
 intro k
 induction k with
 |zero=>intro h;omega
 |succ k ih=>
  intro n h;by_cases e:k=i
  .subst e
   have c:st D F s0 (upd a k) k=st D F s0 a k:=Iv D F s0 k λj q=>by simp only[upd];rw[x8 (by omega)]
   simp only[st,m,upd,zG,c];rfl
  .have g:=ih (by omega) λj c l=>h j c (by omega)
   have p:upd a i k=a k:=by simp only[upd];rw[x8 e]
   simp only[st,p,g];by_cases f:a k=true
   .simp only[f,zG]
    obtain⟨c,l⟩:=h k (by omega) (by omega) f;simp only[VS.put];rw[To _ _ _ c,Sx _ (d i) (d k) l]
   .simp only[f];rfl
theorem Ni(a:Nat->Bool):∀k,cnt a k<=k
 |0=>yD _
 |k+1=>by have:=Ni a k;simp only[cnt];split<;>omega
theorem Nk{β:Nat->Bool}:∀k,cnt β k=k-> ∀j,j<k->β j=true
 |0,_,j,hj=>by omega
 |k+1,h,j,hj=>by
  have:=Ni β k;simp only[cnt]at h;by_cases a:β k=true
  .rw[a]at h
   by_cases e:j=k
   .rw[e];exact a
   .exact Nk k (by simpa using h) j (by omega)
  .simp only[a]at h;simp at h;omega
theorem Nh{a:Nat->Bool}{i:Nat}(c:a i=false):∀k,cnt (upd a i) k=cnt a k+if i<k then 1 else 0
 |0=>by simp[cnt]
 |k+1=>by
  have f:=Nh c k;simp only[cnt,f];by_cases e:k=i
  .subst e;simp[upd,c]
  .have d:upd a i k=a k:=by simp only[upd];rw[x8 e]
   rw[d];have h:(if i<k+1 then 1 else 0)=(if i<k then 1 else 0):=by split<;>split<;>omega
   rw[h];omega
theorem Nj:∀k,cnt (λ_=>false) k=0
 |0=>rfl
 |k+1=>by simp[cnt,Nj k]
def Bl(id:Nat)(s:VS):Prop:=s.mem id=none/\(∀x∈s.fr,x.has id=false)/\ ∀k b,s.mem k=some b->b.has id=false
theorem NL{id:Nat}{s:VS}{d:Option Nat}{e:Eff}(n:e.ok=true)(h:Bl id s)(g:e.has id=false)(m:id∉e.tgt):Bl id (s.put d e):=by
 obtain⟨a,b,c⟩:=h;simp only[Eff.has,uC1]at g;refine⟨by simp only[VS.put];rw[Dc n m];exact a,?_,?_⟩
 .intro x j
  simp only[VS.put]at j;cases d with
  |none=>exact b x j
  |some d=>
   rcases List.mem_or_eq_of_mem_set j with h|h
   .exact b x h
   .rw[h];exact g.1
 .intro k l f
  simp only[VS.put,BC]at f;cases i:AJ e.add k with
  |some b'=>
   rw[i]at f;simp only[yT]at f;have:=List.any_eq_false.1 g.2 _ (Sz i);subst f;simpa using this
  |none=>
   rw[i]at f;simp only at f;split at f
   .cases f
   .exact c k l f
theorem Re{c:Nat->Bool}{id:Nat}(a:∀j,(F j).ok=true)(d:Bl id s0):∀k,(∀j,j<k->c j=true->(F j).has id=false/\id∉(F j).tgt)->Bl id (st D F s0 c k):=by
 intro k
 induction k with
 |zero=>intro _;exact d
 |succ k ih=>
  intro h;simp only[st];split
  .rename_i hk
   obtain⟨e,f⟩:=h k (by omega) hk;exact NL (a k) (ih λj g=>h j (by omega)) e f
  .exact ih λj g=>h j (by omega)
end
structure Out(base:Nat)(t:Mem)(ρ:Nat->Nm)(S:Nat->Nat->Prop)(w:World)(e:Eff)(v:Value)(ρ':Nat->Nm)(S':Nat->Nat->Prop)(w':World):Prop where
 val:v=e.val.c ρ'
 same:∀id,id∉e.nw->ρ' id=ρ id
 os:w'.os=w.os
 tape:w'.tape=w.tape
 output:w'.output=w.output
 size:w.heap.size<=w'.heap.size
 block:∀k,k<w.heap.size->(∀i∈e.up,∀b,t i=some b->b.owns (ρ i)->(ρ i).g≠k)->w'.heap[k]? =w.heap[k]?
 good:∀id b,AJ e.add id=some b->CR base ρ' id b w' (S' id)
 sup:∀id k,(AJ e.add id).isSome->S' id k->(∃i∈e.rd,(t i).isSome/\S i k)\/(w.heap.size<=k/\k<w'.heap.size)
 own:∀id b,AJ e.add id=some b->b.owns (ρ' id)->(∃i∈e.up,∃c,t i=some c/\c.owns (ρ i)/\(ρ i).g=(ρ' id).g)\/(w.heap.size<=(ρ' id).g/\ ∀j,(AJ e.add j).isSome-> ¬S' j (ρ' id).g)
 inj:∀i b j c,AJ e.add i=some b->b.owns (ρ' i)->AJ e.add j=some c->c.owns (ρ' j)->(ρ' i).g=(ρ' j).g->i=j
def Up(P:Program)(o:Oper)(a:Act)(w:World)(R:Value->World->Prop):Prop:=
 (∃v d,(execOp a.eval o).run P w=.ok (.value v) d/\R v d)\/(∃d,(execOp a.eval o).run P w=.ok .skip d/\R undef d)\/
 (∃f c,(execOp a.eval o).run P w=.ok (.enter f c) w/\Calls P f c w λe d=> ∃v,e=.returned v/\R v d)
structure Ev(P:Program)(ops:Array Oper)(w0:World)(o:Oper)(t:VS)(e:Eff):Prop where
 ok:e.ok=true
 does:((∀ρ,Region.wanted o (yielded ops (t.act ρ).tmps)=false)/\e=⟨.v undef,[],[],[],[]⟩)\/
  ((∀ρ,Region.wanted o (yielded ops (t.act ρ).tmps)=true)/\ ∀ρ S w,Bw w0 w->RelOn w0.heap.size ρ S w (restr e.rd t.mem)->
    Up P o (t.act ρ) w λv w'=> ∃ρ' S',Out w0.heap.size t.mem ρ S w e v ρ' S' w')
theorem GL(s:VS)(a:Nat->Nm)(x:Nat):(s.act a).tmps[x]? =(s.fr[x]?).map (SV.c a):=by simp[VS.act]
theorem Tp{s t:VS}{a:Nat->Nm}{x:Operand}(h:∀k,x=.tmp k->s.fr[k]? =t.fr[k]?):(s.act a).eval x=(t.act a).eval x:=by
 cases x with
 |tmp k=>
  have c:(s.act a).tmps[k]? =(t.act a).tmps[k]? :=by rw[GL,GL,h k rfl]
  simp only[Act.eval,uF5,c]
 |_=>rfl
mutual
theorem LL{ρ ρ':Nat->Nm}{nw:List Nat}(hs:∀id,id∉nw->ρ' id=ρ id):∀{x:SV},(∀id∈nw,x.has id=false)->x.c ρ'=x.c ρ
 | .v _,_=>by simp[SV.c]
 | .p k _,h=>by simp only[SV.c];rw[hs k (λc=>by have:=h k c;simp[SV.has]at this)]
 | .s k _ _ _,h=>by simp only[SV.c];rw[hs k (λc=>by have:=h k c;simp[SV.has]at this)]
 | .d k,h=>by simp only[SV.c];rw[hs k (λc=>by have:=h k c;simp[SV.has]at this)]
 | .fn f x,h=>by simp only[SV.c];rw[LL hs (x:=x) (λid hid=>by have:=h id hid;simpa[SV.has] using this)]
 | .agg l,h=>by simp only[SV.c];rw[GI hs (x:=l) (λid hid=>by have:=h id hid;simpa[SV.has] using this)]
 | .tup l,h=>by simp only[SV.c];rw[GI hs (x:=l) (λid hid=>by have:=h id hid;simpa[SV.has] using this)]
theorem GI{ρ ρ':Nat->Nm}{nw:List Nat}(hs:∀id,id∉nw->ρ' id=ρ id):∀{x:List SV},(∀id∈nw,SV.hasL id x=false)->SV.cs ρ' x=SV.cs ρ x
 | [],_=>by simp[SV.cs]
 |y::l,h=>by
  simp only[SV.cs];rw[LL hs (x:=y) (λid hid=>by have:=h id hid;simp[SV.hasL]at this;exact this.1),GI hs (x:=l) (λid hid=>by have:=h id hid;simp[SV.hasL]at this;exact this.2)]
end
theorem Qh{e a:Nat->Nm}{d:List Nat}(f:∀id,id∉d->a id=e id){s:VS}(h:∀id∈d,Bl id s):s.act a=s.act e:=by
 simp only[VS.act];rw[uB4 λx g=>LL f λid c=>(h id c).2.1 x g]
theorem CR.keep{c:Nat}{d ρ':Nat->Nm}{id:Nat}{b:Blk}{w i:World}{S:Nat->Prop}(h:CR c d id b w S)(f:ρ' id=d id)(G:∀l e,b=.cells l e->SV.cs ρ' l=SV.cs d l)(I:∀j g,b=.pin j g->ρ' j=d j)(J:w.heap.size<=i.heap.size)
 (u:∀k,S k->i.heap[k]? =w.heap[k]?)(r:b.owns (d id)->i.heap[(d id).g]? =w.heap[(d id).g]?):CR c ρ' id b i S:=by
 cases b with
 |cells l e=>
  simp only[CR,f];refine⟨h.1,?_⟩;rw[r True.intro,h.2];simp only[CP,G l e rfl]
 |row n size e D=>
  obtain⟨K,C,E,q⟩:=h;refine⟨K,C,D.keep E u,?_⟩;rw[f];rcases q with q|⟨t,m,p,z,a,v,x,y⟩
  .exact .inl q
  .exact .inr ⟨t,m,p,z,a,v,(r (by simp only[Blk.owns];rw[a];simp)).trans x,y⟩
 |dat D=>
  simp only[CR,f];exact D.keep h u
 |arr l e=>
  simp only[CR,f];exact⟨h.1,(r True.intro).trans h.2⟩
 |pin j g=>
  simp only[CR,I j g rfl];exact h
 |floor n=>exact uA9 h J
theorem Ev.step{P:Program}{ops:Array Oper}{w0:World}{o:Oper}{e:Eff}{s t:VS}(b1:Ev P ops w0 o t e)
 (b4:∀cs b,o.op≠ .select cs b)(hl:∀x∈o.looksAt ops,s.fr[x]? =t.fr[x]?)(hm:∀id∈e.rd,s.mem id=t.mem id)
 (z:∀id∈e.nw,Bl id s){y:Nat->Nm}{w:World}(hr:Rel w0 y s w){K:Act->World->Prop}{Q:Exit->Act->World->Prop}
 (hK:∀E R,Rel w0 E (s.put o.dst e) R->K ((s.put o.dst e).act E) R):
 if Region.wanted o (yielded ops (s.act y).tmps)then o.wp P (s.act y) w K Q\/(o.asks P (s.act y) w/\LetsOut Q)else K ((s.act y).put o.dst undef) w:=by
 have hex:execOp (s.act y).eval o=execOp (t.act y).eval o:=execOp_congr o b4 λx hx=>Tp λk u=>hl k (by
  subst u;exact List.mem_append_left _ (List.mem_filterMap.2 ⟨.tmp k,by simpa using hx,rfl⟩))
 have a2:Region.wanted o (yielded ops (s.act y).tmps)=Region.wanted o (yielded ops (t.act y).tmps):=by
  unfold Region.wanted;cases V:o.guard with
  |none=>rfl
  |some gw=>
   obtain⟨g,b8⟩:=gw
   have hy:yielded ops (s.act y).tmps g=yielded ops (t.act y).tmps g:=by
    unfold yielded;cases ht:(ops[g]?).bind (·.dst)with
    |none=>rfl
    |some d=>
     have X:(s.act y).tmps[d]? =(t.act y).tmps[d]? :=by rw[GL,GL,hl d (by simp[Oper.looksAt,V,ht])]
     simp only[Option.bind_some,X]
   simp only[hy]
 obtain⟨hb,S,G⟩:=hr;have b2:RelOn w0.heap.size y S w (restr e.rd t.mem):=gT hm▸G.restr e.rd;rcases b1.does with⟨hw,he⟩|⟨hw,hd⟩
 .rw[x8 (by rw[a2,hw y];simp)]
  have h0:s.put o.dst e=⟨Bb s.fr o.dst (.v undef),s.mem⟩:=by
   subst he;simp only[VS.put];congr 1
  have:=hK y w ⟨hb,S,by rw[h0];exact G⟩;rw[Hc]at this;subst he;simpa[SV.c] using this
 .rw[x9 (by rw[a2];exact hw y)]
  refine .inl ?_
  have a6:∀v R,(∃E S',Out w0.heap.size t.mem y S w e v E S' R)->K ((s.act y).put o.dst v) R:=by
   rintro v R ⟨E,S',q⟩
   have a4:K ((s.put o.dst e).act E) R:=by
    refine hK E R ⟨?_,λid k=>if(AJ e.add id).isSome then S' id k else S id k,?_⟩
    .refine⟨q.os.trans hb.os,q.tape.trans hb.tape,q.output.trans hb.output,uA9 hb.size q.size,λk u=> ?_⟩
     rw[q.block k (yK u hb.size) (λi Y b a7 p b9=> ?_)]
     .exact hb.block k u
     .have I:=Eff.ok_up b1.ok Y
      have:=(G.good i b (by rw[hm i I];exact a7)).own p;omega
    .have r:∀id b,AJ e.add id=none->(s.put o.dst e).mem id=some b->id∉e.up/\s.mem id=some b:=by
      intro id b n m;simp only[VS.put,BC,n]at m;split at m
      .cases m
      .rename_i h;exact⟨h,m⟩
     have O:∀id b c,AJ e.add id=some b->(s.put o.dst e).mem id=some c->c=b:=by
      intro id b c n m;simp only[VS.put,BC,n,yT]at m;exact m.symm
     have J:∀i∈e.up,∀b,t.mem i=some b->s.mem i=some b:=λi Y b a7=>by rw[hm i (Eff.ok_up b1.ok Y)];exact a7
     have a1:∀id b,s.mem id=some b->id∉e.nw:=λid b a n=>by rw[(z id n).1]at a;cases a
     have b5:∀id b,id∉e.up->s.mem id=some b->b.owns (y id)->R.heap[(y id).g]? =w.heap[(y id).g]? :=by
      intro id b hu a p;refine q.block _ ((G.good id b a).own p).2 λi Y c a9 C V=> ?_
      have:=G.inj i c id b (J i Y c a9) C a p V;subst this;exact hu Y
     have a3:∀id k,(s.mem id).isSome->S id k->R.heap[k]? =w.heap[k]? :=by
      intro id k a u
      exact q.block k (G.lt id k a u) λi Y c a9 C V=>by
       have:=G.dis i c id (J i Y c a9) C a;rw[V]at this;exact this u
     refine⟨?_,?_,?_,?_,?_⟩
     .intro id b m
      cases n:AJ e.add id with
      |some c=>
       simp only[uE9,zG];obtain rfl:=O id c b n m;exact q.good id b n
      |none=>
       simp only[uE8];obtain⟨hu,a⟩:=r id b n m;refine(G.good id b a).keep (q.same id (a1 id b a)) ?_ (λj g a8=>q.same j λhj=>by have:=(z j hj).2.2 id b a;rw[a8]at this;simp[Blk.has,SV.hasL,SV.has]at this) q.size (λk u=>a3 id k (by rw[a];rfl) u) (b5 id b hu a);intro l ty a8;refine GI q.same λj hj=> ?_
       have:=(z j hj).2.2 id b a;rw[a8]at this;exact this
     .intro id k m u
      obtain⟨b,m⟩:=IF.1 m;cases n:AJ e.add id with
      |some c=>
       simp only[n,uE9,zG]at u;rcases q.sup id k (by rw[n];rfl) u with⟨i,Y,hti,hik⟩|⟨_,h⟩
       .exact yK (G.lt i k (by rw[hm i Y];exact hti) hik) q.size
       .exact h
      |none=>
       simp only[n,uE8]at u;obtain⟨_,a⟩:=r id b n m;exact yK (G.lt id k (by rw[a];rfl) (by simpa using u)) q.size
     .intro id k m u
      obtain⟨b,m⟩:=IF.1 m;cases n:AJ e.add id with
      |some c=>
       simp only[n,uE9,zG]at u;rcases q.sup id k (by rw[n];rfl) u with⟨i,Y,hti,hik⟩|⟨h,_⟩
       .exact G.fr i k (by rw[hm i Y];exact hti) hik
       .exact uA9 hb.size h
      |none=>
       simp only[n,uE8]at u;obtain⟨_,a⟩:=r id b n m;exact G.fr id k (by rw[a];rfl) (by simpa using u)
     .intro i b j a0 p L u
      obtain⟨c,L⟩:=IF.1 L
      have U:(∃N b',s.mem N=some b'/\b'.owns (y N)/\(y N).g=(E i).g)\/(w.heap.size<=(E i).g/\ ∀j,(AJ e.add j).isSome-> ¬S' j (E i).g):=by
       cases n:AJ e.add i with
       |some b0=>
        obtain rfl:=O i b0 b n a0;rcases q.own i b n p with⟨N,I,c',X,h2,h3⟩|h
        .exact .inl ⟨N,c',J N I c' X,h2,h3⟩
        .exact .inr h
       |none=>
        obtain⟨_,a⟩:=r i b n a0;have e1:=q.same i (a1 i b a);exact .inl ⟨i,b,a,by rw[<-e1];exact p,by rw[e1]⟩
      cases n:AJ e.add j with
      |some c0=>
       simp only[n,uE9,zG]at u;rcases U with⟨N,b',X,h2,h3⟩|⟨_,h⟩
       .rcases q.sup j _ (by rw[n];rfl) u with⟨i2,hi2,ht2,hS2⟩|⟨h,_⟩
        .have:=G.dis N b' i2 X h2 (by rw[hm i2 hi2];exact ht2)
         rw[h3]at this;exact this hS2
        .have:=((G.good N b' X).own h2).2
         omega
       .exact h j (by rw[n];rfl) u
      |none=>
       simp only[n,uE8]at u;have b3:S j (E i).g:=by simpa using u
       obtain⟨_,a⟩:=r j c n L;rcases U with⟨N,b',X,h2,h3⟩|⟨h,_⟩
       .have:=G.dis N b' j X h2 (by rw[a];rfl)
        rw[h3]at this;exact this b3
       .have:=G.lt j _ (by rw[a];rfl) b3
        omega
     .intro i b j c a0 p L C V
      cases n:AJ e.add i with
      |some b0=>
       obtain rfl:=O i b0 b n a0;cases T:AJ e.add j with
       |some c0=>
        obtain rfl:=O j c0 c T L;exact q.inj i b j c n p T C V
       |none=>
        exfalso;obtain⟨hu,a⟩:=r j c T L;have e1:=q.same j (a1 j c a);rw[e1]at C V;have b6:=((G.good j c a).own C).2;rcases q.own i b n p with⟨N,I,c',X,h2,h3⟩|⟨h,_⟩
        .have:=G.inj N c' j c (J N I c' X) h2 a C (h3.trans V)
         subst this;exact hu I
        .omega
      |none=>
       obtain⟨hu,a⟩:=r i b n a0;have e1:=q.same i (a1 i b a);rw[e1]at p V;have b6:=((G.good i b a).own p).2;cases T:AJ e.add j with
       |some c0=>
        exfalso;obtain rfl:=O j c0 c T L;rcases q.own j c T C with⟨N,I,c',X,h2,h3⟩|⟨h,_⟩
        .have:=G.inj N c' i b (J N I c' X) h2 a p (h3.trans V.symm)
         subst this;exact hu I
        .omega
       |none=>
        obtain⟨_,a5⟩:=r j c T L;have e2:=q.same j (a1 j c a5);rw[e2]at C V;exact G.inj i b j c a p a5 C V
   rw[Hc,Qh q.same z,<-q.val]at a4;exact a4
  unfold Oper.wp;rw[hex];rcases hd y S w hb b2 with⟨v,R,M,Z⟩|⟨R,M,Z⟩|⟨f,b7,M,hc⟩
  .rw[M];simp only[Oper.upon];exact a6 v R Z
  .rw[M];simp only[Oper.upon];exact a6 undef R Z
  .rw[M];simp only[Oper.upon]
   refine hc.mono ?_;rintro e' R ⟨v,rfl,Z⟩;exact a6 v R Z
theorem Ev.sound{P:Program}{ops:Array Oper}{w0:World}{o:Oper}{i:Nat}(n:ops[i]? =some o){e:Eff}{s t:VS}(f:Ev P ops w0 o t e)
 (c:∀j b,o.op≠ .select j b)(l:∀x∈o.looksAt ops,s.fr[x]? =t.fr[x]?)(m:∀id∈e.rd,s.mem id=t.mem id)
 (a:∀id∈e.nw,Bl id s){h:Nat->Nm}{w:World}(p:Rel w0 h s w){K:Act->World->Prop}{Q:Exit->Act->World->Prop}
 (k:∀d g,Rel w0 d (s.put o.dst e) g->K ((s.put o.dst e).act d) g):wpOp P ops Q i K (s.act h) w:=by
 unfold wpOp;simp only[n];exact f.step c l m a p k
def Jo(o:Oper)(i:Nat):Bool:=o.after.any λe=>Region.binds .any e && e.on==i
def Fx(l:List Oper):Nat->Nat->Nat->Bool
 |0,_,_=>false
 |n+1,j,i=>match l[j]? with
  |none=>false
  |some o=>o.after.any λe=>Region.binds .any e && (e.on==i||Fx l n e.on i)
theorem WS{l:List Oper}{a:Array Bool}(d:∀j o,l[j]? =some o->a.getD j false=true-> ∀e∈o.after,Region.binds .any e=true->a.getD e.on false=true):
 ∀n j i,a.getD j false=true->Fx l n j i=true->a.getD i false=true:=by
 intro n
 induction n with
 |zero=>intro j i _ h;cases h
 |succ n ih=>
  intro j i m h;simp only[Fx]at h;cases f:l[j]? with
  |none=>rw[f]at h;cases h
  |some o=>
   rw[f]at h;obtain⟨e,k,c⟩:=Array.any_eq_true'.1 h;simp only[yW,Bool.or_eq_true,beq_iff_eq]at c;have g:=d j o f m e k c.1;rcases c.2 with h3|h3
   .rw[<-h3];exact g
   .exact ih _ _ g h3
theorem hJ{l:List Oper}{a:Array Bool}(f:∀j o,l[j]? =some o->a.getD j false=true-> ∀e∈o.after,Region.binds .any e=true->a.getD e.on false=true)
 {i:Nat}{o:Oper}(m:l[i]? =some o)(c:∀e∈o.after,Region.binds .any e=true->a.getD e.on false=true):∀n j,Fx l n i j=true->a.getD j false=true:=by
 intro n j h;cases n with
 |zero=>cases h
 |succ n=>
  simp only[Fx,m]at h;obtain⟨e,k,d⟩:=Array.any_eq_true'.1 h;simp only[yW,Bool.or_eq_true,beq_iff_eq]at d;have g:=c e k d.1;rcases d.2 with h3|h3
  .rw[<-h3];exact g
  .exact WS f _ _ _ g h3
def EM(a b:Option Nat):Bool:=match a,b with|some x,some y=>x !=y|_,_=>true
def HT(ops:Array Oper)(x:Oper)(e:Eff)(y:Oper)(f:Eff):Bool:=
 (match x.dst with|some d=> !(y.looksAt ops).contains d|none=>true) && (match y.dst with|some d=> !(x.looksAt ops).contains d|none=>true) && EM x.dst y.dst &&
 e.tgt.all (λk=> !f.tgt.contains k) && e.tgt.all (λk=> !f.rd.contains k) && f.tgt.all (λk=> !e.rd.contains k) &&
 e.nw.all (λk=> !f.has k)
def Dv:Op->Bool
 | .select _ _=>true
 |_=>false
def veB(ops:Array Oper)(l:List Oper)(E:List Eff):Bool:=
 (List.range l.length).all λj=>
  match l[j]?,E[j]? with
  |some y,some f=>
   !Dv y.op && y.after.all (λe=> !Region.binds .any e||decide (e.on<j)) &&
   (List.range j).all λi=>
    match l[i]?,E[i]? with
    |some x,some e=>(Fx l l.length j i||HT ops x e y f) && f.nw.all (λk=> !e.has k && !e.tgt.contains k)
    |_,_=>false
  |_,_=>false
inductive VE(P:Program)(ops:Array Oper)(w0:World):List Oper->List Eff->VS->VS->Prop
 |nil (s:VS):VE P ops w0 [] [] s s
 |cons {o:Oper} {l:List Oper} {e:Eff} {E:List Eff} {s s':VS} (h:Ev P ops w0 o s e) (r:VE P ops w0 l E (s.put o.dst e) s'):VE P ops w0 (o::l) (e::E) s s'
section
variable{P:Program}{ops:Array Oper}{w0:World}
def De(l:List Oper)(k:Nat):Option Nat:=(l[k]?).bind (·.dst)
def Fe(E:List Eff)(k:Nat):Eff:=(E[k]?).getD ⟨.v undef,[],[],[],[]⟩
theorem Lv(D:Nat->Option Nat)(F:Nat->Eff)(s:VS):∀k,st D F s (λ_=>true) (k+1)=st (λj=>D (j+1)) (λj=>F (j+1)) (s.put (D 0) (F 0)) (λ_=>true) k:=by
 intro k
 induction k with
 |zero=>rfl
 |succ k ih=>simp only[st,zG]at ih ⊢; rw[ih]
theorem VE.length{l:List Oper}{E:List Eff}{s a:VS}(h:VE P ops w0 l E s a):E.length=l.length:=by
 induction h with
 |nil=>rfl
 |cons _ _ ih=>simp[ih]
theorem VE.at{l:List Oper}{E:List Eff}{s f:VS}(h:VE P ops w0 l E s f):
 (∀i o,l[i]? =some o->Ev P ops w0 o (st (De l) (Fe E) s (λ_=>true) i) (Fe E i))/\f=st (De l) (Fe E) s (λ_=>true) l.length:=by
 induction h with
 |nil s=>exact⟨λi o h=>(by simp at h),rfl⟩
 | @cons o l e E s f h r ih=>
   obtain⟨c,d⟩:=ih;refine⟨λi g a=> ?_,?_⟩
   .cases i with
    |zero=>simp at a;subst a;exact h
    |succ i=>rw[Lv];exact c i g (by simpa using a)
   .rw[List.length_cons,Lv];exact d
theorem VE.oks{l:List Oper}{E:List Eff}{s f:VS}(h:VE P ops w0 l E s f):∀j,(Fe E j).ok=true:=by
 have c:∀e∈E,e.ok=true:=by
  induction h with
  |nil=>intro e a;cases a
  |cons h _ ih=>intro e a;rcases uA6.1 a with h1|h1;rw[h1];exact h.ok;exact ih e h1
 intro j;unfold Fe;cases d:E[j]? with
 |none=>rfl
 |some e=>exact c e (zA d)
theorem Rq{listed:Array Bool}{i:Nat}(a:i<listed.size):(λj=>(listed.setIfInBounds i true).getD j false)=upd (λj=>listed.getD j false) i:=by
 funext j
 simp only[upd,uF5,Array.getElem?_setIfInBounds];by_cases h:i=j
 .subst h;simp[a]
 .simp[h,Ne.symm h]
theorem Q3{l:List Oper}{E:List Eff}{s s':VS}(Z:ops=l.toArray)(h:VE P ops w0 l E s s')(hB:veB ops l E=true)
 (e0:∀e∈E,∀id∈e.nw,Bl id s){Q:Exit->Act->World->Prop}
 (hQ:∀ρ w,Rel w0 ρ s' w->Q .normal (s'.act ρ) w):
 ∀(n:Nat) (listed:Array Bool) (ρ:Nat->Nm) (w:World),listed.size=l.length->
  (∀j o,l[j]? =some o->listed.getD j false=true-> ∀e∈o.after,Region.binds .any e=true->listed.getD e.on false=true)->
  cnt (λj=>listed.getD j false) l.length+n=l.length->
  Rel w0 ρ (st (De l) (Fe E) s (λj=>listed.getD j false) l.length) w->
  wpAny P .any ops Q n listed ((st (De l) (Fe E) s (λj=>listed.getD j false) l.length).act ρ) w:=by
 obtain⟨c8,e5⟩:=h.at;have L:∀j,(Fe E j).ok=true:=h.oks;have b5:=h.length;have e7:ops.size=l.length:=by rw[Z];simp
 have X:∀i:Nat,ops[i]? =l[i]? :=by intro i;rw[Z];simp
 have v:∀j y f,l[j]? =some y->E[j]? =some f->(Dv y.op=false)/\(∀e∈y.after,Region.binds .any e=true->e.on<j)/\
  ∀i x e,i<j->l[i]? =some x->E[i]? =some e->(Fx l l.length j i||HT ops x e y f)=true/\(∀k∈f.nw,e.has k=false/\k∉e.tgt):=by
  intro j y f hy q;have m:j<l.length:=(uD0.1 hy).1;have z:=y5.1 hB j (List.mem_range.2 m);simp only[hy,q,yW,uF2]at z;obtain⟨⟨a1,a2⟩,a3⟩:=z;refine⟨a1,?_,?_⟩
  .intro e N p
   have:=Array.all_eq_true'.1 a2 e N;simpa[p] using this
  .intro i x e Y T N
   have h2:=y5.1 a3 i (List.mem_range.2 Y);simp only[T,N,yW]at h2;obtain⟨b1,b2⟩:=h2;refine⟨b1,?_⟩;intro k t;have:=y5.1 b2 k t;simpa using this
 have hE:∀i o,l[i]? =some o-> ∃e,E[i]? =some e/\Fe E i=e/\De l i=o.dst:=by
  intro i o Y;have m:i<E.length:=by rw[b5];exact(uD0.1 Y).1
  exact⟨E[i],by simp[m],by simp[Fe,m],by simp[De,Y]⟩
 intro n
 induction n with
 |zero=>
  intro listed ρ w b6 M hc hr;have U:=Nk (β:=λj=>listed.getD j false) l.length (by omega)
  have e6:st (De l) (Fe E) s (λj=>listed.getD j false) l.length=s':=by
   rw[e5];exact Iv _ _ _ _ λj m=>U j m
  rw[e6]at hr⊢;refine⟨?_,hQ ρ w hr⟩;cases e4:Region.ready .any ops listed with
  |nil=>rfl
  |cons i rs=>
   have:i∈Region.ready .any ops listed:=by rw[e4];simp
   obtain⟨z,o,ho,_⟩:=mem_ready.1 this;have Y:i<l.length:=by rw[<-e7];exact(z8.1 ho).1
   have:=U i Y;rw[getD_both z]at this;cases this
 |succ n ih=>
  intro listed ρ w b6 M hc hr;refine⟨?_,?_⟩
  .intro b7;exfalso
   have e9:∀k,k<l.length->listed.getD k false=true:=by
    intro k
    induction k using Nat.strongRecOn with
    |_ k ihk=>
     intro t;apply uA1;intro q;have c9:listed.getD k false=false:=by simpa using q
     obtain⟨e,N,_,_⟩:=hE k l[k] (by simp[t]);obtain⟨_,b9,_⟩:=v k l[k] e (by simp[t]) N
     have:k∈Region.ready .any ops listed:=by
      refine mem_ready.2 ⟨getD_in (by omega) c9,l[k],by rw[X];simp[t],λed O p=> ?_⟩;have:=b9 ed O p;exact ihk ed.on this (by omega)
     rw[b7]at this;cases this
   have g4:cnt (λj=>listed.getD j false) l.length=l.length:=by
    have hh:∀k,k<=l.length->cnt (λj=>listed.getD j false) k=k:=by
     intro k
     induction k with
     |zero=>intro _;rfl
     |succ k ihk=>intro t;simp only[cnt,ihk (by omega),e9 k (by omega),zG]
    exact hh _ (yD _)
   omega
  .intro i Y
   obtain⟨e8,o,ho,V⟩:=mem_ready.1 Y;have c:=getD_both e8;have r:l[i]? =some o:=by rw[<-X];exact ho
   have a7:i<l.length:=(uD0.1 r).1;obtain⟨e,N,a6,b0⟩:=hE i o r;obtain⟨a4,b9,c0⟩:=v i o e r N
   have C:∀j x f,l[j]? =some x->E[j]? =some f->(listed.getD j false≠decide (j<i))->j≠i->
    (∀d,x.dst=some d->d∉o.looksAt ops)/\(∀k∈f.tgt,k∉e.rd)/\(i<j->(∀d,o.dst=some d->x.dst≠some d)/\(∀k∈e.tgt,k∉f.tgt)/\(∀k∈e.nw,f.has k=false)):=by
    intro j x f T q g a
    have b8:∀d u:Option Nat,EM d u=true-> ∀k,d=some k->u≠some k:=by
     intro d u h k K hu;simp[K,hu,EM]at h
    rcases Nat.lt_or_gt_of_ne a with S|hgt
    .have e2:listed.getD j false=false:=by simpa[S] using g
     have a8:Fx l l.length i j=false:=by
      cases p:Fx l l.length i j with
      |false=>rfl
      |true=>
       have:=hJ M r V _ _ p;rw[e2]at this;cases this
     have z:=(c0 j x f S T q).1;rw[a8,Bool.false_or]at z;simp only[HT,yW]at z;obtain⟨⟨⟨⟨⟨⟨c1,c2⟩,c3⟩,c4⟩,c5⟩,c6⟩,c7⟩:=z;refine⟨?_,?_,λhh=>by omega⟩
     .intro d K;rw[K]at c1;simpa using c1
     .intro k t;have:=y5.1 c5 k t;simpa using this
    .have R:listed.getD j false=true:=by
      have:decide (j<i)=false:=by simp;omega
      rw[this]at g;simpa using g
     have a8:Fx l l.length j i=false:=by
      cases p:Fx l l.length j i with
      |false=>rfl
      |true=>
       have:=WS M _ _ _ R p;rw[c]at this;cases this
     have z:=((v j x f T q).2.2 i o e hgt r N).1;rw[a8,Bool.false_or]at z;simp only[HT,yW]at z;obtain⟨⟨⟨⟨⟨⟨c1,c2⟩,c3⟩,c4⟩,c5⟩,c6⟩,c7⟩:=z;refine⟨?_,?_,λ_=>⟨b8 _ _ c3,λk t=>by have:=y5.1 c4 k t;simpa using this,?_⟩⟩
     .intro d K;rw[K]at c2;simpa using c2
     .intro k t;have:=y5.1 c6 k t;simpa using this
     .intro k t;have:=y5.1 c7 k t;simpa using this
   have a5:=Rq (listed:=listed) (i:=i) (by omega)
   have a9:st (De l) (Fe E) s (λ_=>true) i=st (De l) (Fe E) s (λj=>decide (j<i)) l.length:=by
    have z:∀k,i+k<=l.length->st (De l) (Fe E) s (λj=>decide (j<i)) (i+k)=st (De l) (Fe E) s (λj=>decide (j<i)) i:=by
     intro k
     induction k with
     |zero=>intro _;rfl
     |succ k ihk=>
      intro t;have:decide (i+k<i)=false:=by simp
      rw[<-Nat.add_assoc];simp only[st,this];exact ihk (by omega)
    rw[<-Nat.add_sub_cancel' (uD6 a7),z _ (by omega)];exact Iv _ _ _ _ λj m=>by simp[m]
   have a0:st (De l) (Fe E) s (λj=>(listed.setIfInBounds i true).getD j false) l.length=(st (De l) (Fe E) s (λj=>listed.getD j false) l.length).put o.dst e:=by
    rw[a5,<-b0,<-a6];refine Ra _ _ _ L c _ a7 λj e1 b4 p=> ?_
    obtain⟨f,q,G,J⟩:=hE j l[j] (by simp[b4]);obtain⟨_,_,h3⟩:=C j l[j] f (by simp[b4]) q (by simp[p];omega) (by omega);obtain⟨g1,g2,_⟩:=h3 e1;rw[b0,a6,J,G];exact⟨g1,g2⟩
   have b3:=c8 i o r;rw[a6,a9]at b3;refine b3.sound (s:=st (De l) (Fe E) s (λj=>listed.getD j false) l.length) ho ?_ ?_ ?_ ?_ hr ?_
   .intro cs b hh;rw[hh]at a4;cases a4
   .intro x T
    refine Rf _ _ _ x _ λj m g K=> ?_
    obtain⟨f,q,G,J⟩:=hE j l[j] (by simp[m]);by_cases a:j=i
    .subst a;simp[c]at g
    .obtain⟨g1,_,_⟩:=C j l[j] f (by simp[m]) q g a
     rw[J]at K;exact g1 x K T
   .intro id I
    refine Rb _ _ _ id L _ λj m g K=> ?_
    obtain⟨f,q,G,J⟩:=hE j l[j] (by simp[m]);by_cases a:j=i
    .subst a;simp[c]at g
    .obtain⟨_,g2,_⟩:=C j l[j] f (by simp[m]) q g a
     rw[G]at K;exact g2 id K I
   .intro id I
    refine Re _ _ _ L (e0 e (zA N) id I) _ λj m p=> ?_
    obtain⟨f,q,G,J⟩:=hE j l[j] (by simp[m]);rw[G];have a:j≠i:=by rintro rfl;rw[c]at p;cases p
    rcases Nat.lt_or_gt_of_ne a with S|hgt
    .exact(c0 j l[j] f S (by simp[m]) q).2 id I
    .obtain⟨_,_,h3⟩:=C j l[j] f (by simp[m]) q (by simp[p];omega) a
     obtain⟨_,g2,g3⟩:=h3 hgt;exact⟨g3 id I,g2 id (List.mem_append_right _ I)⟩
   .intro g0 w' e3
    have:=ih (listed.setIfInBounds i true) g0 w' (by simpa using b6) ?_ ?_ (by rw[a0];exact e3)
    .rw[a0]at this;exact this
    .intro j x T R ed O p
     by_cases a:j=i
     .subst a
      have:x=o:=z4 (T.symm.trans r);subst this;exact getD_set_true (V ed O p)
     .rw[getD_set_ne false (Ne.symm a)]at R
      exact getD_set_true (M j x T R ed O p)
    .rw[a5,Nh c,x9 a7];omega
theorem Qz{id:Nat}{l:List Oper}{E:List Eff}{s n:VS}(v:P.follows .mixedOrders=true)(h:VE P l.toArray w0 l E s n)(r:veB l.toArray l E=true)
 (g:∀e∈E,∀id∈e.nw,Bl id s){Q:Exit->Act->World->Prop}(t:∀a w,Rel w0 a n w->Q .normal (n.act a) w)
 {a:Nat->Nm}{w:World}(x:Rel w0 a s w):(Code.region id l.toArray true).wp P Q (s.act a) w:=by
 refine wp_region_any v ?_;have d:(λj=>(Array.replicate l.toArray.size false).getD j false)=λ_=>false:=by funext j;exact uF6 _ _
 have f:∀k,st (De l) (Fe E) s (λ_=>false) k=s:=by
  intro k
  induction k with
  |zero=>rfl
  |succ k ih=>simp only[st];exact ih
 have p:∀k,st (De l) (Fe E) s (λj=>(Array.replicate l.toArray.size false).getD j false) k=s:=by rw[d];exact f
 have c:cnt (λj=>(Array.replicate l.toArray.size false).getD j false) l.length=0:=by
  have:(λj=>(Array.replicate l.toArray.size false).getD j false)=λ_=>false:=by funext j;exact uF6 _ _
  rw[this];exact Nj _
 have m:Rel w0 a s {w with drawn:=w.drawn+1}:=by
  obtain⟨u,S,h⟩:=x;exact⟨u.drew,S,⟨λid b i=>(h.good id b i).keep rfl (λ_ _ _=>rfl) (λ_ _ _=>rfl) (yD _) (λ_ _=>rfl) (λ_=>rfl),h.lt,h.fr,h.dis,h.inj⟩⟩
 have:=Q3 rfl h r g t l.toArray.size (Array.replicate l.toArray.size false) a {w with drawn:=w.drawn+1} (by simp)
  (λj o _ q=>by rw[uF6]at q;cases q) (by rw[c];simp) (by rw[p];exact m)
 rw[p]at this;exact this
def plainB:List Eff->Bool
 | []=>true
 |e::E=>E.all (λf=>f.nw.all (λk=> !e.has k && !e.tgt.contains k)) && plainB E
theorem Q1{l:List Oper}{E:List Eff}{s j:VS}(h:VE P ops w0 l E s j):(∀o∈l,Dv o.op=false)->plainB E=true->
 (∀e∈E,∀id∈e.nw,Bl id s)-> ∀{Q:Exit->Act->World->Prop},(∀c w,Rel w0 c j w->Q .normal (j.act c) w)->
 ∀{c:Nat->Nm} {w:World},Rel w0 c s w->wpList P ops Q l (s.act c) w:=by
 induction h with
 |nil s=>intro _ _ _ Q n c w p;exact n c w p
 | @cons o l e E s j h r ih=>
   intro a m g Q n c w p;simp only[plainB,yW]at m
   have d:∀f∈E,∀id∈f.nw,Bl id (s.put o.dst e):=by
    intro f t id i;have k:=y5.1 (y5.1 m.1 f t) id i;simp only[yW,uF2]at k;exact NL h.ok (g f (by simp[t]) id i) k.1 (by simpa using k.2)
   have:=h.step (K:=wpList P ops Q l) (Q:=Q) (s:=s) (by intro y b u;have:=a o (by simp);rw[u]at this;cases this) (λ_ _=>rfl) (λ_ _=>rfl) (g e (by simp)) p
    (λx z q=>ih (λo v=>a o (by simp[v])) m.2 d n q)
   unfold wpList;exact this
theorem Q0{id:Nat}{l:List Oper}{E:List Eff}{s f:VS}(h:VE P l.toArray w0 l E s f)(a:l.all (λo=> !Dv o.op)=true)(g:plainB E=true)
 (d:∀e∈E,∀id∈e.nw,Bl id s){Q:Exit->Act->World->Prop}(i:∀c w,Rel w0 c f w->Q .normal (f.act c) w)
 {c:Nat->Nm}{w:World}(k:Rel w0 c s w):(Code.region id l.toArray false).wp P Q (s.act c) w:=
 wp_region_lit (Q1 h (λo j=>by have:=y5.1 a o j;simpa using this) g d i k)
end
def VOk(P:Program)(w0:World)(s:VS)(c:Code)(Q:Exit->VS->Prop):Prop:=
 ∀g w (R:Exit->Act->World->Prop),Rel w0 g s w->(∀e a d f,Q e d->Rel w0 a d f->R e (d.act a) f)->c.wp P R (s.act g) w
def AE(s:VS):Operand->SV
 | .tmp t=>(s.fr[t]?).getD (.v undef)
 | .const v=>.v v
 | .global g=>.v (.pointer (some ⟨g,0,none⟩))
 | .func f=>.v (.func (.func f) #[] #[])
theorem AI(s:VS)(a:Nat->Nm)(x:Operand):(s.act a).eval x=(AE s x).c a:=by
 cases x with
 |tmp t=>
  simp only[Act.eval,AE,uF5,GL];cases s.fr[t]? <;>rfl
 |const v=>simp[Act.eval,AE,SV.c]
 |global g=>simp[Act.eval,AE,SV.c]
 |func f=>simp[Act.eval,AE,SV.c]
end Go.Vx
namespace Go.Vx
open Go.RowKit Go.Toll
section
variable{P:Program}{w0:World}
def Uj(P:Program)(w0:World)(d:Code)(Q:Exit->VS->Prop):Exit->VS->Prop
 | .normal,s=>VOk P w0 s d Q
 |e,s=>Q e s
theorem Fl{c d:Code}{s:VS}{Q:Exit->VS->Prop}(h:VOk P w0 s c (Uj P w0 d Q)):VOk P w0 s (.seq c d) Q:=by
 intro l w R j g;refine wp_seq (h l w _ j ?_);intro e f m k i a;cases e with
 |normal=>exact i f k R a g
 |_=>exact g _ _ _ _ i a
def Ny(id:Nat)(Q:Exit->VS->Prop):Exit->VS->Prop
 | .exit k,s=>if k=id then Q .normal s else Q (.exit k) s
 |e,s=>Q e s
theorem Hf{id:Nat}{c:Code}{s:VS}{Q:Exit->VS->Prop}(h:VOk P w0 s c (Ny id Q)):VOk P w0 s (.block id c) Q:=by
 intro i w R g f;refine wp_block (h i w _ g ?_);intro e j l m d a;cases e with
 |exit k=>
  simp only[Ny]at d;simp only[Exit.inBlock];split
  .rename_i hk;rw[x9 hk]at d;exact f _ _ _ _ d a
  .rename_i hk;rw[x8 hk]at d;exact f _ _ _ _ d a
 |_=>exact f _ _ _ _ d a
theorem GO{s:VS}{Q:Exit->VS->Prop}(h:Q .normal s):VOk P w0 s .skip Q:=λ_ _ _ c a=>wp_skip (a _ _ _ _ h c)
theorem AG{s:VS}{Q:Exit->VS->Prop}(h:Q .ret s):VOk P w0 s .ret Q:=λ_ _ _ c a=>wp_ret (a _ _ _ _ h c)
theorem As{id:Nat}{s:VS}{Q:Exit->VS->Prop}(h:Q (.exit id) s):VOk P w0 s (.exit id) Q:=λ_ _ _ c a=>wp_exit (a _ _ _ _ h c)
theorem Le{x:Operand}{b:Bool}{c d:Code}{s:VS}{Q:Exit->VS->Prop}(f:AE s x=.v (.bool b))(h:VOk P w0 s (if b then c else d) Q):VOk P w0 s (.cond x c d) Q:=
 λg w R e a=>wp_cond (by rw[AI,f];rfl) (h g w R e a)
theorem GP{x:Operand}{c d:Code}{s:VS}{Q:Exit->VS->Prop}(a:AE s x=.v (.bool true))(h:VOk P w0 s c Q):VOk P w0 s (.cond x c d) Q:=Le a h
theorem GQ{x:Operand}{c d:Code}{s:VS}{Q:Exit->VS->Prop}(a:AE s x=.v (.bool false))(h:VOk P w0 s d Q):VOk P w0 s (.cond x c d) Q:=Le a h
theorem Qy{id:Nat}{l:List Oper}{E:List Eff}{s d:VS}{Q:Exit->VS->Prop}(j:P.follows .mixedOrders=true)(h:VE P l.toArray w0 l E s d)(f:veB l.toArray l E=true)
 (a:∀e∈E,∀id∈e.nw,Bl id s)(g:Q .normal d):VOk P w0 s (.region id l.toArray true) Q:=
 λ_ _ _ k i=>Qz j h f a (λ_ _ c=>i _ _ _ _ g c) k
theorem Qx{id:Nat}{l:List Oper}{E:List Eff}{s f:VS}{Q:Exit->VS->Prop}(h:VE P l.toArray w0 l E s f)(a:l.all (λo=> !Dv o.op)=true)(g:plainB E=true)
 (c:∀e∈E,∀id∈e.nw,Bl id s)(i:Q .normal f):VOk P w0 s (.region id l.toArray false) Q:=
 λ_ _ _ k j=>Q0 h a g c (λ_ _ d=>j _ _ _ _ i d) k
def Ia(P:Program)(w0:World)(c:Code)(Q:Exit->VS->Prop):Nat->VS->Prop
 |0,_=>False
 |n+1,s=>VOk P w0 s c λe s'=>match e with| .normal=>Ia P w0 c Q n s'|e=>Q e s'
theorem Br{c:Code}{s:VS}{Q:Exit->VS->Prop}(n:Nat)(h:Ia P w0 c Q n s):VOk P w0 s (.loop c) Q:=by
 intro g w R j i;refine wp_loop_rounds n ?_
 induction n generalizing s g w with
 |zero=>exact h.elim
 |succ n ih=>
  rw[rounds_succ];refine h g w _ j ?_;intro e d l k f a;cases e with
  |normal=>exact ih f d k a
  |_=>exact i _ _ _ _ f a
theorem gZ(l:List Value)(w:World)(a:Nat->Nm):Rel w a ⟨l.map .v,AJ []⟩ w:=
 ⟨Bw.refl w,λ_ _=>False,⟨λ_ _ h=>(by cases h),λ_ _ h=>(by cases h),λ_ _ h=>(by cases h),λ_ _ _ h=>(by cases h),λ_ _ _ _ h=>(by cases h)⟩⟩
theorem Q2{c:Code}{l:List Value}{w:World}{R:Exit->Act->World->Prop}(h:VOk P w ⟨l.map .v,AJ []⟩ c λe f=> ∀d a,Rel w d f a->R e (f.act d) a):c.wp P R ⟨l.toArray,[]⟩ w:=by
 have g:(⟨l.toArray,[]⟩:Act)=(⟨l.map .v,AJ []⟩:VS).act (λ_=>default):=by
  simp[VS.act,SV.c,uB0]
 rw[g];exact h _ w R (gZ l w _) λ_ d _ a i j=>i d a j
def Dp:List (Nat×Blk)->Nat->Blk->List (Nat×Blk)
 | [],id,b=>[(id,b)]
 |(k,c)::l,id,b=>if k=id then(id,b)::l else(k,c)::Dp l id b
def BQ:List (Nat×Blk)->List Nat->List (Nat×Blk)
 | [],_=>[]
 |(k,c)::l,ids=>if ids.elem k then BQ l ids else(k,c)::BQ l ids
theorem Sy(l:List (Nat×Blk))(id:Nat)(b:Blk)(x:SV)(e:List Nat):AJ (Dp l id b)=BC (AJ l) ⟨x,[(id,b)],[id],[],e⟩:=by
 induction l with
 |nil=>
  funext k
  simp only[Dp,AJ,BC];split<;>simp_all
 |cons y l ih=>
  obtain⟨k,c⟩:=y;funext j
  simp only[Dp];have a:=congrFun ih j;simp only[BC,AJ,RK]at a⊢;split
  .rename_i h;subst h
   simp only[AJ];split<;>simp_all
  .rename_i h
   simp only[AJ,a];by_cases d:j=id
   .subst d;simp[Ne.symm h]
   .simp[d]
theorem S3(l:List (Nat×Blk))(a:List Nat)(k:Nat):AJ (BQ l a) k=if k∈a then none else AJ l k:=by
 induction l with
 |nil=>simp[BQ,AJ]
 |cons y l ih=>
  obtain⟨j,c⟩:=y;simp only[BQ];split
  .rename_i h
   have d:j∈a:=by simpa using h
   rw[ih];simp only[AJ];split
   .rfl
   .rename_i h2;rw[x8];rintro rfl;exact h2 d
  .rename_i h
   have d:j∉a:=by simpa using h
   simp only[AJ];split
   .rename_i h2;rw[x8 (by rw[h2];exact d)]
   .exact ih
theorem ln(a l:List (Nat×Blk))(k:Nat):AJ (a++l) k=match AJ a k with|some b=>some b|none=>AJ l k:=by
 induction a with
 |nil=>rfl
 |cons y a ih=>
  obtain⟨j,c⟩:=y;simp only[List.cons_append,AJ];split
  .rfl
  .exact ih
theorem MJ(a:List SV)(m:Mem)(d:Option Nat)(x:SV)(c:List Nat):(⟨a,m⟩:VS).put d ⟨x,[],[],[],c⟩=⟨Bb a d x,m⟩:=by
 simp only[VS.put];congr 1
theorem MI(a:List SV)(l:List (Nat×Blk))(d:Option Nat)(x:SV)(c:List Nat)(id:Nat)(b:Blk):(⟨a,AJ l⟩:VS).put d ⟨x,[(id,b)],[id],[],c⟩=⟨Bb a d x,AJ (Dp l id b)⟩:=by
 simp only[VS.put,Sy l id b x c]
theorem Xd(c:List SV)(l a:List (Nat×Blk))(d:Option Nat)(x:SV)(g e:List Nat)(n:Nat)(f:List Nat):(⟨c,AJ l⟩:VS).put d ⟨x,a,e,n::f,g⟩=⟨Bb c d x,AJ (a++BQ l e)⟩:=by
 simp only[VS.put];congr 1;funext k
 simp only[BC,ln,S3];all_goals (cases AJ a k<;>rfl)
theorem NO(a:List SV)(d:Nat)(x:SV):Bb a (some d) x=a.set d x:=rfl
theorem NP(a:List SV)(x:SV):Bb a none x=a:=rfl
def G0(a:List SV)(l:List (Nat×Blk))(id:Nat):Bool:=a.all (λx=> !x.has id) && l.all (λx=>x.1 !=id && !x.2.has id)
theorem NM{g:List SV}{l:List (Nat×Blk)}{id:Nat}(h:G0 g l id=true):Bl id ⟨g,AJ l⟩:=by
 simp only[G0,yW]at h;obtain⟨f,d⟩:=h;refine⟨?_,λx i=>by have:=y5.1 f x i;simpa using this,?_⟩
 .simp only
  clear f
  induction l with
  |nil=>rfl
  |cons x l ih=>
   obtain⟨k,c⟩:=x;simp only[List.all_cons,yW]at d;simp only[AJ];rw[x8 (by have:=d.1.1;intro e;rw[e]at this;simp at this)];exact ih d.2
 .simp only
  clear f
  induction l with
  |nil=>intro k b a;cases a
  |cons x l ih=>
   obtain⟨k,c⟩:=x;simp only[List.all_cons,yW]at d;intro j b a;simp only[AJ]at a;split at a
   .injection a with a;subst a;have:=d.1.2;simpa using this
   .exact ih d.2 j b a
def Es(a:List SV)(l:List (Nat×Blk))(E:List Eff):Bool:=E.all λe=>e.nw.all λid=>G0 a l id
theorem NN{c:List SV}{l:List (Nat×Blk)}{E:List Eff}(h:Es c l E=true):∀e∈E,∀id∈e.nw,Bl id ⟨c,AJ l⟩:=by
 intro e d id a;exact NM (y5.1 (y5.1 h e d) id a)
theorem vrd{id:Nat}{l:List Oper}{E:List Eff}{a:List SV}{m:List (Nat×Blk)}{d:VS}{Q:Exit->VS->Prop}(f:P.follows .mixedOrders=true)(h:VE P l.toArray w0 l E ⟨a,AJ m⟩ d)
 (c:(veB l.toArray l E && Es a m E)=true)(e:Q .normal d):VOk P w0 ⟨a,AJ m⟩ (.region id l.toArray true) Q:=by
 rw[yW]at c;exact Qy f h c.1 (NN c.2) e
theorem vrp{id:Nat}{l:List Oper}{E:List Eff}{c:List SV}{m:List (Nat×Blk)}{d:VS}{Q:Exit->VS->Prop}(h:VE P l.toArray w0 l E ⟨c,AJ m⟩ d)
 (a:(l.all (λo=> !Dv o.op) && plainB E && Es c m E)=true)(e:Q .normal d):VOk P w0 ⟨c,AJ m⟩ (.region id l.toArray false) Q:=by
 simp only[yW]at a;exact Qx h a.1.1 a.1.2 (NN a.2) e
variable{ops:Array Oper}{o:Oper}{s:VS}
theorem Qw(a:o.guard=none)(t:Array Value):Region.wanted o (yielded ops t)=true:=by simp[Region.wanted,a]
abbrev AQ(ops:Array Oper)(o:Oper)(s:VS):Prop:= ∀a,Region.wanted o (yielded ops (s.act a).tmps)=true
theorem gn(a:o.guard=none):AQ ops o s:=λ_=>Qw a _
theorem gg(a:o.guard=none:=by rfl):AQ ops o s:=gn a
theorem Ev.skip(a:∀c,Region.wanted o (yielded ops (s.act c).tmps)=false):Ev P ops w0 o s ⟨.v undef,[],[],[],[]⟩:=⟨rfl,.inl ⟨a,rfl⟩⟩
theorem Xx{a:Nat}{t:Mem}{e:Nat->Nm}{S:Nat->Nat->Prop}{w f:World}{d:SV}{i:List Nat}(h:Bw w f):Out a t e S w ⟨d,[],[],[],i⟩ (d.c e) e S f:=
 ⟨rfl,λ_ _=>rfl,h.os,h.tape,h.output,h.size,λk g _=>h.block k g,λ_ _ h=>(by cases h),λ_ _ h=>(by cases h),λ_ _ h=>(by cases h),λ_ _ _ _ h=>(by cases h)⟩
theorem Ev.run(d:SV)(e:List Nat)(i:AQ ops o s)(h:∀a S w,Bw w0 w->RelOn w0.heap.size a S w (restr e s.mem)->(execOp (s.act a).eval o).run P w=.ok (.value (d.c a)) w):Ev P ops w0 o s ⟨d,[],[],[],e⟩:=
 ⟨rfl,.inr ⟨i,λa S w g f=>.inl ⟨_,w,h a S w g f,a,S,Xx (Bw.refl w)⟩⟩⟩
theorem Ev.call(f:FuncId)(a:(Nat->Nm)->Array Value)(g:SV)(i:List Nat)(n:AQ ops o s)(h:∀d w,(execOp (s.act d).eval o).run P w=.ok (.enter f (a d)) w)
 (l:∀d S w,Bw w0 w->RelOn w0.heap.size d S w (restr i s.mem)->Calls P f (a d) w λe p=>e=.returned (g.c d)/\Bw w p):Ev P ops w0 o s ⟨g,[],[],[],i⟩:=
 ⟨rfl,.inr ⟨n,λd S w k j=>.inr (.inr ⟨f,a d,h d w,(l d S w k j).mono λ_ _ ⟨m,hg⟩=>⟨_,m,d,S,Xx hg⟩⟩)⟩⟩
theorem Cj{base:Nat}{t:Mem}{ρ:Nat->Nm}{S:Nat->Nat->Prop}{w w':World}{val:SV}{rd up:List Nat}{id:Nat}{b:Blk}{m:Nm}{S1:Nat->Prop}
 (G:w'.os=w.os)(q:w'.tape=w.tape)(f:w'.output=w.output)(p:w.heap.size<=w'.heap.size)
 (C:∀k,k<w.heap.size->(∀i∈up,∀b,t i=some b->b.owns (ρ i)->(ρ i).g≠k)->w'.heap[k]? =w.heap[k]?)
 (x:∀l:Nat->Nm,l id=m->(∀i,i≠id->l i=ρ i)->CR base l id b w' S1)
 (v:∀k,S1 k->(∃i∈rd,(t i).isSome/\S i k)\/(w.heap.size<=k/\k<w'.heap.size))
 (E:b.owns m->(∃i∈up,∃c,t i=some c/\c.owns (ρ i)/\(ρ i).g=m.g)\/(w.heap.size<=m.g/\ ¬S1 m.g)):
 Out base t ρ S w ⟨val,[(id,b)],up,[id],rd⟩ (val.c λk=>if k=id then m else ρ k) (λk=>if k=id then m else ρ k) (λ_=>S1) w':=by
 have a:∀i c,AJ [(id,b)] i=some c->i=id/\c=b:=by
  intro i c h;simp only[AJ]at h;split at h
  .rename_i e;injection h with h;exact⟨e,h.symm⟩
  .cases h
 refine⟨rfl,λi y=>by rw[x8 (by simpa using y)],G,q,f,p,C,?_,?_,?_,?_⟩
 .intro i c h
  obtain⟨rfl,rfl⟩:=a i c h;exact x _ (by simp) λj z=>by simp[z]
 .intro i k _ h;exact v k h
 .intro i c h n
  obtain⟨rfl,rfl⟩:=a i c h;simp only[zG]at n⊢;rcases E n with h|⟨r,u⟩
  .exact .inl h
  .exact .inr ⟨r,λ_ _=>u⟩
 .intro i c j d r _ u _ _
  exact(a i c r).1.trans (a j d u).1.symm
theorem Ev.new(id:Nat)(l:List SV)(d:TypeId)(q:AQ ops o s)(e:SV.hasL id l=false)
 (h:∀ρ w,(execOp (s.act ρ).eval o).run P w=.ok (.value (.pointer (some ⟨w.heap.size,0,none⟩))) (w.alloc (CP ρ l d))):Ev P ops w0 o s ⟨.p id 0,[(id,.cells l d)],[],[id],[]⟩:=
 ⟨by simp[Eff.ok],.inr ⟨q,λρ S w j _=>.inl ⟨_,_,h ρ w,_,_,by
  have:=Cj (base:=w0.heap.size) (t:=s.mem) (ρ:=ρ) (S:=S) (w:=w) (w':=w.alloc (CP ρ l d)) (val:=.p id 0) (rd:=[]) (up:=[]) (id:=id) (b:=.cells l d) (m:=⟨w.heap.size,undef⟩) (S1:=λ_=>False)
   rfl rfl rfl (by simp) (λk n _=>DM w _ n) (λr f g=>by
    refine⟨by rw[f];exact j.size,?_⟩;rw[f];simp only[CP];rw[GI (nw:=[id]) (λi a=>g i (by simpa using a)) (λi a=>by simp at a;rw[a];exact e)];exact L7 w _) (λ_ h=>h.elim) (λ_=>.inr ⟨yD _,λh=>h⟩)
  simpa[SV.c] using this⟩⟩⟩
structure Wr(w w':World)(g:Nat):Prop where
 os:w'.os=w.os
 tape:w'.tape=w.tape
 output:w'.output=w.output
 size:w'.heap.size=w.heap.size
 block:∀k,k≠g->w'.heap[k]? =w.heap[k]?
theorem Ev.wr(id:Nat)(b u:Blk)(r:SV)(v:List Nat)(K:AQ ops o s)(z:s.mem id=some b)(p:v.contains id=true)(J:∀l,r.c l=undef)
 (h:∀l S w,Bw w0 w->RelOn w0.heap.size l S w (restr v s.mem)->b.owns (l id)/\ ∃t,(execOp (s.act l).eval o).run P w=.ok .skip t/\Wr w t (l id).g/\CR w0.heap.size l id u t (S id)):Ev P ops w0 o s ⟨r,[(id,u)],[id],[],v⟩:=
 ⟨by simp[Eff.ok];simpa using p,.inr ⟨K,λl S w G E=>by
  obtain⟨n,t,q,a,I⟩:=h l S w G E;have x:id∈v:=by simpa using p
  have f:∀i c,AJ [(id,u)] i=some c->i=id/\c=u:=by
   intro i c h;simp only[AJ]at h;split at h
   .rename_i e;injection h with h;exact⟨e,h.symm⟩
   .cases h
  refine .inr (.inl ⟨t,q,l,S,⟨(J l).symm,λ_ _=>rfl,a.os,a.tape,a.output,Nat.le_of_eq a.size.symm,?_,?_,?_,?_,?_⟩⟩)
  .intro k _ y
   exact a.block k λe=>y id (by simp) b z n e.symm
  .intro i c m
   obtain⟨rfl,rfl⟩:=f i c m;exact I
  .intro i k m y
   obtain⟨c,m⟩:=IF.1 m;obtain⟨rfl,rfl⟩:=f i c m;exact .inl ⟨i,x,by rw[z];rfl,y⟩
  .intro i c m _
   obtain⟨rfl,rfl⟩:=f i c m;exact .inl ⟨i,by simp,b,z,n,rfl⟩
  .intro i c j d m _ C _ _
   exact(f i c m).1.trans (f j d C).1.symm⟩⟩
theorem w4{a:Nat}{e:Nat->Nm}{S:Nat->Nat->Prop}{w:World}{m:Mem}{d:List Nat}{id:Nat}{b:Blk}(f:RelOn a e S w (restr d m))(g:m id=some b)(c:id∈d):CR a e id b w (S id):=
 f.good id b (by simp[restr,c,g])
theorem Ap{x:Operand}(c:o.op=.move x)(a:AQ ops o s):Ev P ops w0 o s ⟨AE s x,[],[],[],[]⟩:=
 Ev.run _ _ a λd _ w _ _=>by simp only[execOp,c];rw[AI];rfl
theorem CJ{x:Operand}(c:o.op=.assign x)(a:AQ ops o s):Ev P ops w0 o s ⟨AE s x,[],[],[],[]⟩:=
 Ev.run _ _ a λd _ w _ _=>by simp only[execOp,c];rw[AI];rfl
theorem Ts(v:Value)(a:AQ ops o s)(h:∀d w,(execOp (s.act d).eval o).run P w=.ok (.value v) w):Ev P ops w0 o s ⟨.v v,[],[],[],[]⟩:=
 Ev.run _ _ a λd _ w _ _=>by simp only[SV.c];exact h d w
theorem D6{v:Value}{r:(Nat->Nm)->World->Result Next}(c:AQ ops o s)(h:∀a w,(execOp (s.act a).eval o).run P w=r a w)(d:∀a w,r a w=.ok (.value v) w):Ev P ops w0 o s ⟨.v v,[],[],[],[]⟩:=
 Ts v c λa w=>(h a w).trans (d a w)
theorem LK(a:Nat->Nm)(l:List Value):SV.cs a (l.map .v)=l:=by
 rw[A8,KK]
 induction l with
 |nil=>rfl
 |cons x l ih=>simp only[List.map_cons,uB0,SV.c]at ih ⊢; rw[ih]
theorem Z7(id:Nat)(l:List Value):SV.hasL id (l.map .v)=false:=by
 rw[P4];simp[SV.has]
theorem BZ{c:TypeId}{z:Value}{id:Nat}(_hd:o.dst=some id)(d:o.op=.alloc c)(a:AQ ops o s)(e:∀w,(zeroValue c).run P w=.ok z w):
 Ev P ops w0 o s ⟨.p id 0,[(id,.cells (z.cells.toList.map .v) c)],[],[id],[]⟩:=
 Ev.new id _ _ a (Z7 _ _) λf w=>by
  simp[execOp,d,Instr.alloc,newVar,newRow,newObj,Sem.run_bind,e,Result.andThen,CP,LK];rfl
theorem G3{e:TypeId}{x:Operand}{v:Value}{id:Nat}(_hd:o.dst=some id)(f:o.op=.box e x)(a:AQ ops o s)(g:AE s x=.v v):
 Ev P ops w0 o s ⟨.p id 0,[(id,.cells (v.cells.toList.map .v) e)],[],[id],[]⟩:=
 Ev.new id _ _ a (Z7 _ _) λh w=>by
  have d:=AI s h x;rw[g]at d;simp[execOp,f,d,Instr.box,newVar,newRow,newObj,Result.andThen,CP,LK,SV.c];rfl
def Ba:TypeDesc->Bool
 | .struct _=>true
 | .array _ _=>true
 |_=>false
theorem Bp{t:TypeId}{d:TypeDesc}(a:P.underlying t=some d)(w:World):(isAgg t).run P w=.ok (Ba d) w:=by
 unfold isAgg;rw[Sem.run_bind,yU a w];cases d<;>simp[Ba,Result.andThen]
theorem Bd(g a j:Nat):(⟨g,a,none⟩:Addr).add j=⟨g,a+j,none⟩:=by unfold Addr.add;split<;>simp_all
def unV:List SV->Option (List Value)
 | []=>some []
 | .v x::l=>match unV l with|some r=>some (x::r)|none=>none
 |_::_=>none
theorem Eb:∀{l:List SV} {r:List Value},unV l=some r->l=r.map .v
 | [],r,h=>by simp[unV]at h;subst h;rfl
 | .v x::l,r,h=>by
   simp only[unV]at h;cases hl:unV l with
   |none=>rw[hl]at h;cases h
   |some q=>rw[hl]at h;simp only[yT]at h;subst h;rw[Eb hl];rfl
 | .p _ _::_,_,h=>by simp[unV]at h
 | .s _ _ _ _::_,_,h=>by simp[unV]at h
 | .d _::_,_,h=>by simp[unV]at h
 | .fn _ _::_,_,h=>by simp[unV]at h
 | .agg _::_,_,h=>by simp[unV]at h
 | .tup _::_,_,h=>by simp[unV]at h
theorem GK{w:World}{a:Nat->Nm}{l:List SV}{e:TypeId}{g:Nat}(h:w.heap[g]? =some (CP a l e)){i:Nat}{x:SV}(d:l[i]? =some x):w.cell? ⟨g,i,none⟩=some (x.c a):=by
 simp only[World.cell?,h,CP,A8];simp[d]
theorem BD{m:TypeId}{x:Operand}{id a n:Nat}{l:List SV}{t:TypeId}{d:TypeDesc}{e:List Value}(J:o.op=.load m x)(i:AQ ops o s)(N:AE s x=.p id a)(I:s.mem id=some (.cells l t))
 (L:P.underlying m=some d)(z:Ba d=true)(K:∀w,(Go.sizeOf m).run P w=.ok n w)(k:unV ((l.drop a).take n)=some e)(G:e.length=n):Ev P ops w0 o s ⟨.v (.agg e.toArray),[],[],[],[id]⟩:=
 Ev.run _ _ i λr S w O y=>by
  have q:=AI s r x;rw[N]at q;have C:=(w4 y I (by simp)).2;have M:=Eb k
  have f:(loadCells ⟨(r id).g,a,none⟩ e.length).run P w=.ok e.toArray w:=OR w _ e λj v E=>by
   rw[Bd];have h:((l.drop a).take n)[j]? =some (.v v):=by rw[M];simp[E]
   have u:l[a+j]? =some (.v v):=by
    rw[zP]at h;split at h
    .rwa [zQ]at h
    .cases h
   have:=GK C u;simpa[SV.c] using this
  rw[G]at f;simp[execOp,J,q,SV.c,Instr.loadAt,Instr.sureAddr,loadVar,Bp L,z,K,f]
theorem Bi{q:TypeId}{x:Operand}{id a n:Nat}{l:List SV}{t:TypeId}{d:TypeDesc}(J:o.op=.load q x)(k:AQ ops o s)(M:AE s x=.p id a)(I:s.mem id=some (.cells l t))
 (L:P.underlying q=some d)(C:Ba d=true)(K:∀w,(Go.sizeOf q).run P w=.ok n w)(G:((l.drop a).take n).length=n):Ev P ops w0 o s ⟨.agg ((l.drop a).take n),[],[],[],[id]⟩:=
 Ev.run _ _ k λi S w N z=>by
  have r:=AI s i x;rw[M]at r;have E:=(w4 z I (by simp)).2
  have h:(loadCells ⟨(i id).g,a,none⟩ (SV.cs i ((l.drop a).take n)).length).run P w=.ok (SV.cs i ((l.drop a).take n)).toArray w:=OR w _ _ λj v f=>by
   rw[Bd];rw[A8,zC]at f;cases e:((l.drop a).take n)[j]? with
   |none=>rw[e]at f;cases f
   |some y=>
    rw[e]at f;simp only[AT,yT]at f;subst f
    have u:l[a+j]? =some y:=by
     rw[zP]at e;split at e
     .rwa [zQ]at e
     .cases e
    exact GK E u
  have m:(SV.cs i ((l.drop a).take n)).length=n:=by rw[A8,DE];exact G
  rw[m]at h;simp[execOp,J,r,SV.c,Instr.loadAt,Instr.sureAddr,loadVar,Bp L,C,K,h]
theorem BK{g:TypeId}{x:Operand}{id a:Nat}{l:List SV}{h:TypeId}{d:TypeDesc}{v:SV}(n:o.op=.load g x)(e:AQ ops o s)(t:AE s x=.p id a)(m:s.mem id=some (.cells l h))
 (q:P.underlying g=some d)(k:Ba d=false)(r:l[a]? =some v):Ev P ops w0 o s ⟨v,[],[],[],[id]⟩:=
 Ev.run _ _ e λu S w y i=>by
  have f:=AI s u x;rw[t]at f;have j:=GK (w4 i m (by simp)).2 r;simp[execOp,n,f,SV.c,Instr.loadAt,Instr.sureAddr,loadVar,Bp q,k,j]
theorem Bw.cell{w d:World}(h:Bw w d){a:Addr}{v:Value}(c:w.cell? a=some v):d.cell? a=some v:=(Below.cell h (uF4 _ _ c)).trans c
theorem A2{h:TypeId}{x:Operand}{g a n:Nat}{d:TypeDesc}{vs:List Value}(r:o.op=.load h x)(f:AQ ops o s)(y:AE s x=.v (.pointer (some ⟨g,a,none⟩)))
 (u:P.underlying h=some d)(m:Ba d=true)(t:∀w,(Go.sizeOf h).run P w=.ok n w)(l:∀j v,vs[j]? =some v->w0.cell? ⟨g,a+j,none⟩=some v)(q:vs.length=n):Ev P ops w0 o s ⟨.v (.agg vs.toArray),[],[],[],[]⟩:=
 Ev.run _ _ f λz S w k C=>by
  have i:=AI s z x;rw[y]at i
  have e:(loadCells ⟨g,a,none⟩ vs.length).run P w=.ok vs.toArray w:=OR w _ vs λj v p=>by
   rw[Bd];exact k.cell (l j v p)
  rw[q]at e;simp[execOp,r,i,SV.c,Instr.loadAt,Instr.sureAddr,loadVar,Bp u,m,t,e]
theorem BR{g:TypeId}{x:Operand}{a:Addr}{d:TypeDesc}{v:Value}(k:o.op=.load g x)(e:AQ ops o s)(m:AE s x=.v (.pointer (some a)))
 (l:P.underlying g=some d)(j:Ba d=false)(i:w0.cell? a=some v):Ev P ops w0 o s ⟨.v v,[],[],[],[]⟩:=
 Ev.run _ _ e λn S w h p=>by
  have f:=AI s n x;rw[m]at f;simp[execOp,k,f,SV.c,Instr.loadAt,Instr.sureAddr,loadVar,Bp l,j,h.cell i]
theorem aO{J:TypeId}{x y:Operand}{id d n:Nat}{l f:List SV}{h:TypeId}{v:SV}(N:o.op=.store J x y)(j:AQ ops o s)(T:AE s x=.p id d)(G:s.mem id=some (.cells l h))(U:AE s y=v)
 (O:∀w,(Go.sizeOf J).run P w=.ok n w)(z:∀a,(v.c a).cells.toList=SV.cs a f)(I:f.length=n)(C:d+n<=l.length)(K:∀a,(SV.cs a f).all (·.oneCell')=true):
 Ev P ops w0 o s ⟨.v undef,[(id,.cells (l.take d++f++l.drop (d+n)) h)],[id],[],[id]⟩:=
 Ev.wr id _ _ _ _ j G (by simp) (λ_=>by simp[SV.c]) λa S w V L=>by
  have r:=AI s a x;rw[T]at r;have t:=AI s a y;rw[U]at t;obtain⟨i,E⟩:=w4 L G (by simp);have e:(SV.cs a f).length=n:=by rw[A8,DE];exact I
  have m:=run_storeCells_at P (a id).g d h (SV.cs a f) 0 (SV.cs a l).toArray w E (by rw[e];simp[A8];omega) (λu R=>y5.1 (K a) u R);have q:(v.c a).cells.size=n:=by rw[<-Array.length_toList,z a,e]
  refine⟨True.intro,w.setRow (a id).g ((SV.cs a l).toArray.toList.take (d+0)++SV.cs a f++(SV.cs a l).toArray.toList.drop (d+0+(SV.cs a f).length)).toArray,?_,⟨rfl,rfl,rfl,by simp,λk M=>MT w _ k _ M⟩,i,?_⟩
  .simp only[execOp,N,r,t,SV.c,Instr.storeAt,Instr.sureAddr,storeVar]
   rw[Sem.run_bind,Sem.run_bind,Sem.run_pure,Result.andThen_ok,Sem.run_bind,O,Result.andThen_ok,x8 (by rw[q];simp),z a,m];rfl
  .rw[ID w (a id).g _ _ _ _ E]
   simp[CP,A8,I]
theorem BA{g:TypeId}{x y:Operand}{id a n:Nat}{l:List SV}{f:TypeId}{v:Value}(k:o.op=.store g x y)(e:AQ ops o s)(q:AE s x=.p id a)(i:s.mem id=some (.cells l f))(r:AE s y=.v v)
 (m:∀w,(Go.sizeOf g).run P w=.ok n w)(j:v.cells.size=n)(d:a+n<=l.length)(h:v.cells.toList.all (·.oneCell')=true):
 Ev P ops w0 o s ⟨.v undef,[(id,.cells (l.take a++v.cells.toList.map .v++l.drop (a+n)) f)],[id],[],[id]⟩:=
 aO k e q i r m (λt=>by simp only[SV.c,LK]) (by simpa using j) d (λt=>by rw[LK];exact h)
theorem oD{h:TypeId}{x y:Operand}{id a n:Nat}{l e:List SV}{g:TypeId}(q:o.op=.store h x y)(f:AQ ops o s)(t:AE s x=.p id a)(k:s.mem id=some (.cells l g))(u:AE s y=.agg e)
 (r:∀w,(Go.sizeOf h).run P w=.ok n w)(m:e.length=n)(d:a+n<=l.length)(j:∀i,(SV.cs i e).all (·.oneCell')=true):
 Ev P ops w0 o s ⟨.v undef,[(id,.cells (l.take a++e++l.drop (a+n)) g)],[id],[],[id]⟩:=
 aO q f t k u r (λi=>by simp[SV.c,Value.cells]) m d j
theorem Ah{x:Int}(a: -9223372036854775808<=x)(c:x<=9223372036854775807):IntKind.i64.wrap x=x:=IntWalk.i64_in x (by omega)
theorem C7{l:TypeId}{x e:Operand}{id a n j:Nat}{h:TypeId}{k:IntKind}{i:Int}(u:o.op=.indexAddr l x e)(d:AQ ops o s)(C:AE s x=.p id a)(t:AE s e=.v (.int k i))
 (z:P.underlying l=some (.array n h))(y:∀w,(Go.sizeOf h).run P w=.ok j w)(q:0<=i)(r:i<n):Ev P ops w0 o s ⟨.p id (a+i.toNat*j),[],[],[],[]⟩:=
 Ev.run _ _ d λm S w G E=>by
  have f:=AI s m x;rw[C]at f;have g:=AI s m e;rw[t]at g;simp[execOp,u,f,g,SV.c,Instr.indexAt,asIntOf,yU z,Instr.sureAddr,y,q,r,Bd]
theorem BG{i:TypeId}{x:Operand}{id a f n:Nat}{h:Array Field}{d:Field}(k:o.op=.fieldAddr i x f)(e:AQ ops o s)(q:AE s x=.p id a)
 (m:P.underlying i=some (.struct h))(j:h[f]? =some d)(l:∀w,(Go.sizeOf d.type).run P w=.ok (n+1) w):Ev P ops w0 o s ⟨.p id (a+d.offset),[],[],[],[]⟩:=
 Ev.run _ _ e λr S w u t=>by
  have g:=AI s r x;rw[q]at g;simp[execOp,k,g,SV.c,Instr.fieldAt,yU m,j,Instr.sureAddr,fieldPlace,l,Bd]
theorem BF{j:TypeId}{x:Operand}{g a f n:Nat}{i:Array Field}{d:Field}(l:o.op=.fieldAddr j x f)(e:AQ ops o s)(q:AE s x=.v (.pointer (some ⟨g,a,none⟩)))
 (p:P.underlying j=some (.struct i))(k:i[f]? =some d)(m:∀w,(Go.sizeOf d.type).run P w=.ok (n+1) w):Ev P ops w0 o s ⟨.v (.pointer (some ⟨g,a+d.offset,none⟩)),[],[],[],[]⟩:=
 Ev.run _ _ e λr S w u t=>by
  have h:=AI s r x;rw[q]at h;simp[execOp,l,h,SV.c,Instr.fieldAt,yU p,k,Instr.sureAddr,fieldPlace,m,Bd]
theorem DK{m:TypeId}{x e:Operand}{g a n l:Nat}{j:TypeId}{k:IntKind}{i:Int}(u:o.op=.indexAddr m x e)(d:AQ ops o s)(C:AE s x=.v (.pointer (some ⟨g,a,none⟩)))(t:AE s e=.v (.int k i))
 (z:P.underlying m=some (.array n j))(y:∀w,(Go.sizeOf j).run P w=.ok l w)(q:0<=i)(r:i<n):Ev P ops w0 o s ⟨.v (.pointer (some ⟨g,a+i.toNat*l,none⟩)),[],[],[],[]⟩:=
 Ev.run _ _ d λp S w G E=>by
  have f:=AI s p x;rw[C]at f;have h:=AI s p e;rw[t]at h;simp[execOp,u,f,h,SV.c,Instr.indexAt,asIntOf,yU z,Instr.sureAddr,y,q,r,Bd]
theorem IS{x:Operand}{id a:Nat}(f:o.op=.nilCheck x)(d:AQ ops o s)(g:AE s x=.p id a):Ev P ops w0 o s ⟨.p id a,[],[],[],[]⟩:=
 Ev.run _ _ d λh S w j i=>by
  have e:=AI s h x;rw[g]at e;simp[execOp,f,e,SV.c]
theorem IR{x:Operand}{a:Addr}(f:o.op=.nilCheck x)(d:AQ ops o s)(g:AE s x=.v (.pointer (some a))):Ev P ops w0 o s ⟨.v (.pointer (some a)),[],[],[],[]⟩:=
 Ev.run _ _ d λh S w j i=>by
  have e:=AI s h x;rw[g]at e;simp[execOp,f,e,SV.c]
theorem G8{a:Array Operand}{e:List Value}(g:unV (a.toList.map (AE s))=some e)(d:Nat->Nm):a.map (s.act d).eval=e.toArray:=by
 have h:=Eb g
 have f:a.toList.map (s.act d).eval=e:=by
  have:a.toList.map (s.act d).eval=(a.toList.map (AE s)).map (SV.c d):=by
   rw[KK];exact uB4 λx _=>AI s d x
  rw[this,h,KK];simp[uB0,SV.c]
 rw[<-Array.toList_map]at f;rw[<-f,Array.toArray_toList]
theorem NV{h:TypeId}{x:Operand}{id d a e n:Nat}{i:TypeId}(k:o.op=.sliceToArrayPointer h x)(f:AQ ops o s)(m:AE s x=.s id d a e)
 (l:P.underlying h=some (.array n i))(u:n<=a):Ev P ops w0 o s ⟨.p id d,[],[],[],[]⟩:=
 Ev.run _ _ f λq S w t r=>by
  have g:=AI s q x;rw[m]at g;have j: ¬a<n:=by omega
  simp[execOp,k,g,SV.c,Instr.arrayAt,yU l,j]
theorem BM{l r:TypeId}{x y:Operand}{a b:Int}{p:Bool}(h:o.op=.binOp .lss l x y r)(d:AQ ops o s)(j:AE s x=.v (.int .i64 a))(k:AE s y=.v (.int .i64 b))(i:decide (a<b)=p):
 Ev P ops w0 o s ⟨.v (.bool p),[],[],[],[]⟩:=
 Ev.run _ _ d λg S w n m=>by
  have e:=AI s g x;rw[j]at e;have f:=AI s g y;rw[k]at f;simp only[execOp,h,e,f,SV.c];subst i
  go_simp
theorem B4{l r:TypeId}{x y:Operand}{a b:Int}{p:Bool}(h:o.op=.binOp .geq l x y r)(d:AQ ops o s)(j:AE s x=.v (.int .i64 a))(k:AE s y=.v (.int .i64 b))(i:decide (b<=a)=p):
 Ev P ops w0 o s ⟨.v (.bool p),[],[],[],[]⟩:=
 Ev.run _ _ d λg S w n m=>by
  have e:=AI s g x;rw[j]at e;have f:=AI s g y;rw[k]at f;simp only[execOp,h,e,f,SV.c];subst i
  go_simp
theorem Ag{n r:TypeId}{k:IntKind}{x y:Operand}{a b:Int}{p:Bool}(i:o.op=.binOp .eql n x y r)(d:AQ ops o s)(l:AE s x=.v (.int k a))(m:AE s y=.v (.int k b))(j:decide (a=b)=p):
 Ev P ops w0 o s ⟨.v (.bool p),[],[],[],[]⟩:=
 Ev.run _ _ d λg S w t q=>by
  have e:=AI s g x;rw[l]at e;have f:=AI s g y;rw[m]at f;simp only[execOp,i,e,f,SV.c];subst j
  go_simp
  by_cases h:a=b<;>simp[h]
theorem BE{m r:TypeId}{k:IntKind}{x y:Operand}{a b c:Int}(h:o.op=.binOp .add m x y r)(d:AQ ops o s)(j:AE s x=.v (.int k a))(l:AE s y=.v (.int k b))(i:k.wrap (a+b)=c):
 Ev P ops w0 o s ⟨.v (.int k c),[],[],[],[]⟩:=
 Ev.run _ _ d λg S w p n=>by
  have e:=AI s g x;rw[j]at e;have f:=AI s g y;rw[l]at f;simp only[execOp,h,e,f,SV.c];subst i
  go_simp
theorem Bu{m r:TypeId}{k:IntKind}{x y:Operand}{a b c:Int}(h:o.op=.binOp .sub m x y r)(d:AQ ops o s)(j:AE s x=.v (.int k a))(l:AE s y=.v (.int k b))(i:k.wrap (a-b)=c):
 Ev P ops w0 o s ⟨.v (.int k c),[],[],[],[]⟩:=
 Ev.run _ _ d λg S w p n=>by
  have e:=AI s g x;rw[j]at e;have f:=AI s g y;rw[l]at f;simp only[execOp,h,e,f,SV.c];subst i
  go_simp
theorem Tt{l:TypeId}{x g:Operand}{h:Array Value}{k n:Nat}{a:TypeId}{d:TypeDesc}{v:Value}(u:o.op=.index l x g)(e:AQ ops o s)(E:AE s x=.v (.agg h))(r:AE s g=.v (.int .i64 (k:Nat)))
 (z:P.underlying l=some (.array n a))(y:∀w,(Go.sizeOf a).run P w=.ok 1 w)(f:P.underlying a=some d)(q:Ba d=false)(t:k<n)(C:h.toList[k]? =some v):Ev P ops w0 o s ⟨.v v,[],[],[],[]⟩:=
 Ev.run _ _ e λm S w I G=>by
  have i:=AI s m x;rw[E]at i;have j:=AI s m g;rw[r]at j;have p:h[k]? =some v:=by simpa using C
  simp[execOp,u,i,j,SV.c,Instr.index,yU z,asIntOf,y,t,part,Bp f,q,p]
theorem G7(d:Array Operand)(a:Nat->Nm):d.map (s.act a).eval=((d.toList.map (AE s)).map (SV.c a)).toArray:=by
 rw[<-Array.toList_inj];simp only[Array.toList_map,KK];exact uB4 λx _=>AI s a x
theorem AM{f:FuncId}{xs:Array Operand}{ats:Array TypeId}{a:List Value}{v:Value}(h:o.op=.call {callee:=.value (.func f),args:=xs,argTypes:=ats})(g:AQ ops o s)
 (p:unV (xs.toList.map (AE s))=some a)(n:∀args w,(callFunc f args).run P w=.ok (.enter f args) w)(m:∀w,Bw w0 w->Calls P f a.toArray w λe r=>e=.returned v/\Gw w r):Ev P ops w0 o s ⟨.v v,[],[],[],[]⟩:=
 Ev.call f (λ_=>a.toArray) (.v v) [] g (λt w=>by
  obtain⟨j,u,i,q,d,guard⟩:=o;simp only at h;subst h;rw[DH,G8 p];simpa using n a.toArray w) λt _ w l _=>(m w l).mono λ_ _ ⟨k,h2⟩=>⟨by rw[k];simp[SV.c],h2.b⟩
theorem Ad{f:FuncId}{xs:Array Operand}{ats:Array TypeId}{a:List Value}{v:Value}(h:o.op=.call {callee:=.value (.func f),args:=xs,argTypes:=ats})(g:AQ ops o s)
 (p:unV (xs.toList.map (AE s))=some a)(n:∀args w,(callFunc f args).run P w=.ok (.enter f args) w)(m:∀w,Bw w0 w->Calls P f a.toArray w λe r=>e=.returned v/\Bw w r):Ev P ops w0 o s ⟨.v v,[],[],[],[]⟩:=
 Ev.call f (λ_=>a.toArray) (.v v) [] g (λt w=>by
  obtain⟨j,u,i,q,d,guard⟩:=o;simp only at h;subst h;rw[DH,G8 p];simpa using n a.toArray w) λt _ w l _=>(m w l).mono λ_ _ ⟨k,h2⟩=>⟨by rw[k];simp[SV.c],h2⟩
theorem Aj{f:FuncId}{xs:Array Operand}{ats:Array TypeId}{d:List SV}{v:Value}(i:List Nat)(j:o.op=.call {callee:=.value (.func f),args:=xs,argTypes:=ats})(h:AQ ops o s)
 (t:xs.toList.map (AE s)=d)(r:∀args w,(callFunc f args).run P w=.ok (.enter f args) w)
 (q:∀a S w,Bw w0 w->RelOn w0.heap.size a S w (restr i s.mem)->Calls P f (SV.cs a d).toArray w λe x=>e=.returned v/\Bw w x):Ev P ops w0 o s ⟨.v v,[],[],[],i⟩:=
 Ev.call f (λa=>(SV.cs a d).toArray) (.v v) i h (λa w=>by
  obtain⟨l,y,k,u,g,guard⟩:=o;simp only at j;subst j;rw[DH,G7,t,<-A8];simpa using r (SV.cs a d).toArray w) λa S w p n=>(q a S w p n).mono λ_ _ ⟨m,h2⟩=>⟨by rw[m];simp[SV.c],h2⟩
def BN(w d:World)(v:Value)(n a:Nat)(c:TypeId)(l:List Value):Prop:= ∃g,EC d w.heap.size ⟨g,v⟩ n a c l
theorem H6{base:Nat}{t:Mem}{ρ:Nat->Nm}{S:Nat->Nat->Prop}{w w':World}{val:SV}{rd:List Nat}{id n size:Nat}{ty:TypeId}{l:List Value}{v:Value}{g:Nat}
 (r:base<=w.heap.size)(h:Bw w w')(x:l.length=n*size)(a:EC w' w.heap.size ⟨g,v⟩ n size ty l):
 Out base t ρ S w ⟨val,[(id,.row n size ty (.exact l))],[],[id],rd⟩ (val.c λk=>if k=id then⟨g,v⟩else ρ k) (λk=>if k=id then⟨g,v⟩else ρ k) (λ_ _=>False) w':=
 Cj h.os h.tape h.output h.size (λk u _=>h.block k u) (λz q _=>⟨l,x,rfl,by
  rw[q];rcases a with a|⟨f,d,e,p,j,i,m⟩
  .exact .inl a
  .exact .inr ⟨f,d,e,p,j,uA9 r i,m⟩⟩) (λ_ h=>h.elim) (λy=>.inr ⟨by
   rcases a with⟨a,_⟩|⟨f,d,e,p,j,i,m⟩
   .exact absurd a y
   .exact i,λh=>h⟩)
theorem Cs{f:FuncId}{xs:Array Operand}{ats:Array TypeId}{a:List SV}{id n size:Nat}{p:TypeId}{l:List Value}(rd:List Nat)(_hd:o.dst=some id)(m:o.op=.call {callee:=.value (.func f),args:=xs,argTypes:=ats})(i:AQ ops o s)
 (C:xs.toList.map (AE s)=a)(y:∀args w,(callFunc f args).run P w=.ok (.enter f args) w)(z:l.length=n*size)
 (x:∀ρ S w,Bw w0 w->RelOn w0.heap.size ρ S w (restr rd s.mem)->Calls P f (SV.cs ρ a).toArray w λe j=> ∃v,e=.returned v/\BN w j v n size p l/\Bw w j):Ev P ops w0 o s ⟨.d id,[(id,.row n size p (.exact l))],[],[id],rd⟩:=
 ⟨by simp[Eff.ok],.inr ⟨i,λρ S w k u=>.inr (.inr ⟨f,(SV.cs ρ a).toArray,by
  obtain⟨r,G,q,E,h,guard⟩:=o;simp only at m;subst m;rw[DH,G7,C,<-A8]
  simpa using y (SV.cs ρ a).toArray w,(x ρ S w k u).mono λe j ⟨v,h1,⟨g,h2⟩,h3⟩=>⟨v,h1,_,_,by
   have:=H6 (t:=s.mem) (ρ:=ρ) (S:=S) (val:=.d id) (rd:=rd) (id:=id) k.size h3 z h2;simpa[SV.c] using this⟩⟩)⟩⟩
theorem IU{f:FuncId}{xs:Array Operand}{ats:Array TypeId}{a:List SV}{id n size:Nat}{ty:TypeId}{l:List Value}{y:Value}(rd:List Nat)(_hd:o.dst=some id)(m:o.op=.call {callee:=.value (.func f),args:=xs,argTypes:=ats})(i:AQ ops o s)
 (C:xs.toList.map (AE s)=a)(x:∀args w,(callFunc f args).run P w=.ok (.enter f args) w)(z:l.length=n*size)
 (u:∀ρ S w,Bw w0 w->RelOn w0.heap.size ρ S w (restr rd s.mem)->Calls P f (SV.cs ρ a).toArray w λe j=> ∃v,e=.returned (.tuple #[v,y])/\BN w j v n size ty l/\Bw w j):Ev P ops w0 o s ⟨.tup [.d id,.v y],[(id,.row n size ty (.exact l))],[],[id],rd⟩:=
 ⟨by simp[Eff.ok],.inr ⟨i,λρ S w k r=>.inr (.inr ⟨f,(SV.cs ρ a).toArray,by
  obtain⟨q,G,p,E,h,guard⟩:=o;simp only at m;subst m;rw[DH,G7,C,<-A8]
  simpa using x (SV.cs ρ a).toArray w,(u ρ S w k r).mono λe j ⟨v,h1,⟨g,h2⟩,h3⟩=>⟨_,h1,_,_,by
   have:=H6 (t:=s.mem) (ρ:=ρ) (S:=S) (val:=.tup [.d id,.v y]) (rd:=rd) (id:=id) k.size h3 z h2;simpa[SV.c,SV.cs] using this⟩⟩)⟩⟩
theorem Cy{x:Operand}{i:Nat}{e:Array Value}{v:Value}(h:o.op=.extract x i)(a:AQ ops o s)(j:AE s x=.v (.tuple e))(d:e.toList[i]? =some v):Ev P ops w0 o s ⟨.v v,[],[],[],[]⟩:=
 Ev.run _ _ a λk S w m l=>by
  have f:=AI s k x;rw[j]at f;have g:e[i]? =some v:=by simpa using d
  simp[execOp,h,f,SV.c,Instr.extract,g]
theorem C8{x:Operand}{i:Nat}{e:List SV}{v:SV}(j:o.op=.extract x i)(a:AQ ops o s)(k:AE s x=.tup e)(d:e[i]? =some v):Ev P ops w0 o s ⟨v,[],[],[],[]⟩:=
 Ev.run _ _ a λf S w m l=>by
  have g:=AI s f x;rw[k]at g;have h:(SV.cs f e).toArray[i]? =some (v.c f):=by simp[A8,d]
  simp[execOp,j,g,SV.c,Instr.extract,h]
theorem AK{e:BinOp}{f r:TypeId}{x y:Operand}{a b c:Value}(k:o.op=.binOp e f x y r)(d:AQ ops o s)(l:AE s x=.v a)(m:AE s y=.v b)
 (h:∀w,(do eqGuard e f x y a b;binOp e f a b:Sem Value).run P w=.ok c w):Ev P ops w0 o s ⟨.v c,[],[],[],[]⟩:=
 Ev.run _ _ d λj S w p n=>by
  have g:=AI s j x;rw[l]at g;have i:=AI s j y;rw[m]at i;simp only[execOp,k,g,i,SV.c];rw[Sem.run_bind,h w];rfl
theorem B1{g e:TypeId}{x:Operand}{a c:Value}(i:o.op=.convert g e x)(d:AQ ops o s)(j:AE s x=.v a)(h:∀w,(convert g e a).run P w=.ok c w):Ev P ops w0 o s ⟨.v c,[],[],[],[]⟩:=
 Ev.run _ _ d λk S w m l=>by
  have f:=AI s k x;rw[j]at f;simp only[execOp,i,f,SV.c];rw[Sem.run_bind,h w];rfl
theorem T3{f:FuncId}{e:Func}{c:Code}(i:P.funcs[f]? =some e)(d:(e.name== "runtime.NumGoroutine")=false)(h:e.body=some c):∀(a:Array Value) (w:World),(callFunc f a).run P w=.ok (.enter f a) w:=by
 intro a w;have g:e.name≠ "runtime.NumGoroutine" :=by simpa using d
 simp[callFunc,i,g,h,mark]
theorem eo{f:FuncId}{d:Func}{c:Code}(g:P.funcs[f]? =some d)(h:(d.name== "runtime.NumGoroutine")=false:=by kernel_rfl)(e:d.body=some c:=by rfl):∀(a:Array Value)(w:World),(callFunc f a).run P w=.ok (.enter f a) w:=T3 g h e
def bn(b:Bool):Nat:=if b then 1 else 0
theorem NR{f:UnOp}{j:TypeId}{x:Operand}{a c:Value}(g:o.op=.unOp f j x)(d:AQ ops o s)(i:AE s x=.v a)(h:∀w,(Op.unary f a).run P w=.ok c w):Ev P ops w0 o s ⟨.v c,[],[],[],[]⟩:=
 Ev.run _ _ d λk S w m l=>by
  have e:=AI s k x;rw[i]at e;simp only[execOp,g,e,SV.c];rw[Sem.run_bind,h w];rfl
def CG:List (Nat×SV)->Option (List (Nat×Value))
 | []=>some []
 |(i,.v x)::l=>match CG l with|some r=>some ((i,x)::r)|none=>none
 |_::_=>none
theorem Il:∀{l:List (Nat×SV)} {r:List (Nat×Value)},CG l=some r-> ∀e,l.map (λx=>(x.1,x.2.c e))=r
 | [],r,h,_=>by simp[CG]at h;subst h;rfl
 |(i,.v x)::l,r,h,e=>by
  simp only[CG]at h;cases a:CG l with
  |none=>rw[a]at h;cases h
  |some q=>
   rw[a]at h;simp only[yT]at h;subst h;have:=Il a e;simp only[List.map_cons,this,SV.c]
 |(_,.p _ _)::_,_,h,_=>by simp[CG]at h
 |(_,.s _ _ _ _)::_,_,h,_=>by simp[CG]at h
 |(_,.d _)::_,_,h,_=>by simp[CG]at h
 |(_,.fn _ _)::_,_,h,_=>by simp[CG]at h
 |(_,.agg _)::_,_,h,_=>by simp[CG]at h
 |(_,.tup _)::_,_,h,_=>by simp[CG]at h
theorem A6{f:TypeId}{a:Array (Nat×Operand)}{pl:List (Nat×Value)}{cells:Array Value}(k:o.op=.build f a)(e:AQ ops o s)
 (l:CG (a.toList.map λx=>(x.1,AE s x.2))=some pl)(d:P.built f pl=some cells):Ev P ops w0 o s ⟨.v (.agg cells),[],[],[],[]⟩:=
 Ev.run _ _ e λg S w n m=>by
  have h:(a.map fun(i,x)=>(i,(s.act g).eval x)).toList=pl:=by
   rw[<-Il l g];simp only[Array.toList_map,KK];exact uB4 λx _=>by simp only[Function.comp_apply,AI]
  have j:=run_build w f (a.map fun(i,x)=>(i,(s.act g).eval x)) cells (by rw[h];exact d);simp only[execOp,k,SV.c];rw[Sem.run_bind,j];rfl
theorem CY{c a b:Operand}{v:Value}(j:o.op=.pick c a b)(d:AQ ops o s)(i:AE s c=.v (.bool true))(h:AE s a=.v v):Ev P ops w0 o s ⟨.v v,[],[],[],[]⟩:=
 Ev.run _ _ d λg S w l k=>by
  have e:=AI s g c;rw[i]at e;have f:=AI s g a;rw[h]at f;simp[execOp,j,e,f,SV.c,asBool]
theorem Ca{c a b:Operand}{v:Value}(j:o.op=.pick c a b)(e:AQ ops o s)(i:AE s c=.v (.bool false))(d:AE s b=.v v):Ev P ops w0 o s ⟨.v v,[],[],[],[]⟩:=
 Ev.run _ _ e λh S w l k=>by
  have f:=AI s h c;rw[i]at f;have g:=AI s h b;rw[d]at g;simp[execOp,j,f,g,SV.c,asBool]
theorem D7{e:TypeId}{x:Operand}{p:Bool}(c:o.op=.unOp .not e x)(a:AQ ops o s)(d:AE s x=.v (.bool p)):Ev P ops w0 o s ⟨.v (.bool (!p)),[],[],[],[]⟩:=
 NR c a d λw=>by simp[Op.unary]
theorem Rx{h:List Nat}{i:Nat->Nm}{S:Nat->Nat->Prop}{w:World}{d:Nat}{m:Mem}{id:Nat}{b:List SV}{x:TypeId}(n:RelOn d i S w (restr h m))(f:id∈h)(t:m id=some (.cells b x))(a:Nat)(l:List Value)(r:unV ((b.drop a).take l.length)=some l):
 ∀(j:Nat) (v:Value),l[j]? =some v->w.cell? ⟨(i id).g,a+j,none⟩=some v:=by
 intro j v q;have p:=(w4 n t f).2;have u:=Eb r;have e:((b.drop a).take l.length)[j]? =some (.v v):=by rw[u];simp[q]
 have k:b[a+j]? =some (.v v):=by
  rw[zP]at e;split at e
  .rwa [zQ]at e
  .cases e
 have:=GK p k;simpa[SV.c] using this
theorem QE{f:FuncId}{xs:Array Operand}{ats:Array TypeId}{a:List Value}{id:Nat}(_hd:o.dst=some id)(r:o.op=.call {callee:=.value (.func f),args:=xs,argTypes:=ats})(j:AQ ops o s)
 (E:unV (xs.toList.map (AE s))=some a)(z:∀args w,(callFunc f args).run P w=.ok (.enter f args) w)(i:List Value)(l:TypeId)
 (y:∀w,Bw w0 w->Calls P f a.toArray w λe w'=> ∃g,w.heap.size<=g/\e=.returned (.agg #[.pointer (some ⟨g,0,none⟩)])/\w'.heap[g]? =some (.cells i.toArray l (0,0))/\Gw w w'):
 Ev P ops w0 o s ⟨.agg [.p id 0],[(id,.cells (i.map .v) l)],[],[id],[]⟩:=
 ⟨by simp[Eff.ok],.inr ⟨j,λρ S w q J=>.inr (.inr ⟨f,a.toArray,by
  obtain⟨x,K,u,G,d,guard⟩:=o;simp only at r;subst r;rw[DH,G8 E]
  simpa using z a.toArray w,(y w q).mono λe w' ⟨g,h0,h1,h2,h3⟩=>⟨_,h1,_,_,by
   have:=Cj (base:=w0.heap.size) (t:=s.mem) (ρ:=ρ) (S:=S) (w:=w) (w':=w') (val:=.agg [.p id 0]) (rd:=[]) (up:=[]) (id:=id) (b:=.cells (i.map .v) l) (m:=⟨g,undef⟩) (S1:=λ_=>False)
    h3.b.os h3.b.tape h3.b.output h3.b.size (λk C _=>h3.b.block k C) (λI n _=>by
     refine⟨by rw[n];exact uA9 q.size h0,?_⟩;rw[n];simp only[CP,LK];exact h2) (λ_ h=>h.elim) (λ_=>.inr ⟨h0,λh=>h⟩)
   simpa[SV.c,SV.cs] using this⟩⟩)⟩⟩
theorem Gy(t:Nat)(a:Nat->Nm):(s.act a).tmps.getD t undef=(AE s (.tmp t)).c a:=AI s a (.tmp t)
def DW(tmps:Array Value):ResultVar->Sem Value
 | .tmp t=>pure (tmps.getD t undef)
 | .cell p t=>do loadVar t (<-asAddr (tmps.getD p undef))
def RV(P:Program)(w0:World)(s:VS)(r:ResultVar)(x:SV):Prop:=
 ∀(a:Nat->Nm) (w:World),Rel w0 a s w->(DW (s.act a).tmps r).run P w=Result.ok (x.c a) w
theorem L2{a:Nat->Nm}{w:World}{id:Nat}{b:Blk}(e:Rel w0 a s w)(d:s.mem id=some b):∃S,CR w0.heap.size a id b w S:=by
 obtain⟨_,S,c⟩:=e;exact⟨_,c.good id b d⟩
theorem AF{t:Nat}{x:SV}(h:AE s (.tmp t)=x):RV P w0 s (.tmp t) x:=λa w _=>by
 simp only[DW,Gy,h];rfl
theorem Ac{p m id a n:Nat}{l:List SV}{q:TypeId}{d:TypeDesc}{e:List Value}(h:AE s (.tmp p)=.p id a)(z:s.mem id=some (.cells l q))(E:P.underlying m=some d)(u:Ba d=true)(C:∀w,(Go.sizeOf m).run P w=.ok n w)
 (k:unV ((l.drop a).take n)=some e)(y:e.length=n):RV P w0 s (.cell p m) (.v (.agg e.toArray)):=λJ w I=>by
 obtain⟨_,_,t⟩:=L2 I z;have G:=Eb k
 have f:(loadCells ⟨(J id).g,a,none⟩ e.length).run P w=.ok e.toArray w:=OR w _ e λj v x=>by
  rw[Bd];have i:((l.drop a).take n)[j]? =some (.v v):=by rw[G];simp[x]
  have r:l[a+j]? =some (.v v):=by
   rw[zP]at i;split at i
   .rwa [zQ]at i
   .cases i
  have:=GK t r;simpa[SV.c] using this
 rw[y]at f;simp only[DW,Gy,h,SV.c];simp[asAddr,loadVar,Bp E,u,C,f]
theorem Ht(c:Func)(a:Array Value):results c a=(do let vs<-c.results.mapM (DW a);pure (if h:vs.size=1 then vs[0]else .tuple vs)):=by
 unfold results;congr 1
abbrev Res(P:Program)(w0:World)(s:VS)(d:Func)(x:SV):Prop:= ∀a w,Rel w0 a s w->(results d (s.act a).tmps).run P w=.ok (x.c a) w
theorem AH{a:Func}{r:ResultVar}{x:SV}(d:a.results=#[r])(h:RV P w0 s r x):Res P w0 s a x:=λf w e=>by
 have c:=h f w e;rw[Ht,d];simp[c]
theorem Av{a:Func}{r e:ResultVar}{x f:SV}(l:a.results=#[r,e])(h:RV P w0 s r x)(i:RV P w0 s e f):Res P w0 s a (.tup [x,f]):=λg w d=>by
 have j:=h g w d;have k:=i g w d;rw[Ht,l];simp[j,k,SV.c,SV.cs]
theorem BX{e:Func}{r f g:ResultVar}{x i j:SV}(q:e.results=#[r,f,g])(h:RV P w0 s r x)(n:RV P w0 s f i)(p:RV P w0 s g j):Res P w0 s e (.tup [x,i,j]):=λd w a=>by
 have k:=h d w a;have l:=n d w a;have m:=p d w a;rw[Ht,q];simp[k,l,m,SV.c,SV.cs]
theorem WJ{a:Func}(d:a.results=#[]):Res P w0 s a (.v (.tuple #[])):=λ_ _ _=>by simp only[SV.c];exact results_none d _ _ _
theorem AD{d:Func}{R:Ending->World->Prop}{x:SV}(g:Res P w0 s d x)(f:∀a w,Rel w0 a s w->R (.returned (x.c a)) w):
 ∀a w,Rel w0 a s w->bodyPost P d R .ret (s.act a) w:=λa w e=>⟨rfl,_,g a w e,f a w e⟩
theorem Xj{d:Func}{R:Ending->World->Prop}{x:SV}(g:Res P w0 s d x)(f:∀a w,Rel w0 a s w->R (.returned (x.c a)) w):
 ∀a w,Rel w0 a s w->bodyPost P d R .normal (s.act a) w:=λa w e=>⟨rfl,_,g a w e,f a w e⟩
def Rdg(w0:World)(m:Mem)(f:List Nat)(x:SV)(n a:Nat)(l:List Value):Prop:=
 ∀d S w,Bw w0 w->RelOn w0.heap.size d S w (restr f m)-> ∃e,AO w (x.c d) n a l e
theorem AW{m:Mem}{v:Value}{n d:Nat}{l:List Value}{S:Nat->Prop}(h:AO w0 v n d l S):Rdg w0 m [] (.v v) n d l:=λu _ w r _=>by
 obtain⟨f,e,j,k,p,q⟩:=h;refine⟨S,f,e,by simp only[SV.c];exact j,k,p,q.imp id λ⟨g,a,b,c⟩=>⟨g,a,b,λi x t=>r.cell (c i x t)⟩⟩
theorem DX{w:World}{d:Nat}{a:Nm}{n c:Nat}{y:TypeId}{l:List Value}(h:EC w d a n c y l)(m:l.length=n*c):AO w a.val n c l (λk=>k=a.g):=by
 rcases h with⟨j,q⟩|⟨p,f,r,z,j,q,t,_,u,C,E,v⟩
 .subst q
  refine⟨none,0,j,yD _,m,.inl (zJ (by simpa using m))⟩
 .refine⟨_,f,j,u,m,.inr ⟨⟨a.g,p,none⟩,rfl,rfl,λi x e=> ?_⟩⟩
  rw[Bd];rw[<-v,zP]at e;split at e
  .rw[zQ]at e
   simp only[World.cell?,t];simpa using e
  .cases e
theorem BI{m:Mem}{id n a:Nat}{j:TypeId}{l:List Value}(h:m id=some (.row n a j (.exact l))):Rdg w0 m [id] (.d id) n a l:=λp S w _ i=>by
 obtain⟨k,e,f,g⟩:=w4 i h (by simp);have c:k=l:=f;subst c;exact⟨_,DX g e⟩
theorem Hw{m:Mem}{id e a f d:Nat}{b:List SV}{u:TypeId}{l:List Value}(h:m id=some (.cells b u))(r:unV ((b.drop e).take (a*d))=some l)(j:l.length=a*d)(q:a<=f):Rdg w0 m [id] (.s id e a f) a d l:=λn S w _ p=>by
 refine⟨λk=>k=(n id).g,_,f,by simp only[SV.c],q,j,.inr ⟨⟨(n id).g,e,none⟩,rfl,rfl,?_⟩⟩;intro i x t;rw[Bd];exact Rx p (by simp) h e l (by rw[j];exact r) i x t
def Ay(lo hi size:Nat):Value->Value
 | .slice a _ cap=>.slice (if cap=lo then a else a.map (·.add (lo*size))) (hi-lo) (cap-lo)
 |v=>v
theorem Iw{w:World}{v:Value}{n d lo hi:Nat}{l:List Value}{S:Nat->Prop}(h:AO w v n d l S)(p:lo<=hi)(q:hi<=n):AO w (Ay lo hi d v) (hi-lo) d ((l.drop (lo*d)).take ((hi-lo)*d)) S:=by
 obtain⟨m,f,rfl,r,t,j⟩:=h;have u:(hi-lo)*d+lo*d<=n*d:=by rw[<-PJ];exact uC5 _ (by omega)
 refine⟨_,_,rfl,by omega,by simp;omega,?_⟩;by_cases k:f=lo
 .left
  have:hi-lo=0:=by omega
  rw[this];simp
 .rw[x8 k]
  refine j.imp (λh=>by rw[h];simp) λ⟨g,a,b,c⟩=>⟨g.add (lo*d),?_,by rw[cc];exact b,λi x e=> ?_⟩
  .rw[a];rfl
  .rw[zP]at e
   split at e
   .rw[zQ]at e
    rw[Uf];exact c _ _ e
   .cases e
theorem I2{m:Mem}{d:List Nat}{x:SV}{n a lo hi:Nat}{l:List Value}(h:Rdg w0 m d x n a l)(f:lo<=hi)(g:hi<=n):Rdg w0 m d (.fn (Ay lo hi a) x) (hi-lo) a ((l.drop (lo*a)).take ((hi-lo)*a)):=λk S w j i=>by
 obtain⟨e,h⟩:=h k S w j i;exact⟨e,by simp only[SV.c];exact Iw h f g⟩
theorem BU{t:TypeId}{x:Operand}{e:TypeId}{n a:Nat}{l:List Value}{y:SV}{g:List Nat}(p:o.op=.call {callee:=.builtin .len,args:=#[x],argTypes:=#[t]})(f:AQ ops o s)(u:AE s x=y)
 (r:P.underlying t=some (.slice e))(q:Rdg w0 s.mem g y n a l):Ev P ops w0 o s ⟨.v (.int .i64 (n:Nat)),[],[],[],g⟩:=
 Ev.run _ _ f λh S w m k=>by
  have d:=AI s h x;rw[u]at d;obtain⟨_,z,i,j,_⟩:=q h S w m k;rw[j]at d;simp[execOp,p,resolve,invoke,builtin,d,Builtin.len_,yU r,SV.c,goInt]
theorem T9{L e:TypeId}{x:Operand}{q r:Option Operand}{a b n g:Nat}{l:List Value}{y:SV}{K:List Nat}(R:o.op=.slice L x q r none)(X:AE s x=y)
 (V:P.underlying L=some (.slice e))(U:∀w,(Go.sizeOf e).run P w=.ok g w)(T:Rdg w0 s.mem K y n g l)
 (f:(match q with|none=>SV.v (.int .i64 (0:Nat))|some z=>AE s z)=.v (.int .i64 (a:Nat)))(d:(match r with|none=>SV.v (.int .i64 (n:Nat))|some z=>AE s z)=.v (.int .i64 (b:Nat)))(I:a<=b)(Z:b<=n):
 ∀h S w,Bw w0 w->RelOn w0.heap.size h S w (restr K s.mem)->(execOp (s.act h).eval o).run P w=.ok (.value ((SV.fn (Ay a b g) y).c h)) w:=λh S w O N=>by
 have t:=AI s h x;rw[X]at t;obtain⟨_,Y,i,J,h4,_⟩:=T h S w O N;rw[J]at t
 have j:∀(k m:Nat) (c:BoundsCode),k<=m->(Instr.sliceBound (.int .i64 (k:Nat)) m c).run P w=.ok k w:=by
  intro k m c hk;unfold Instr.sliceBound;rw[Sem.run_bind];simp only[asIntOf,Sem.run_pure,Result.andThen_ok];rw[x9 ⟨by omega,by omega⟩];rfl
 have C:∀z,q=some z->(s.act h).eval z=.int .i64 (a:Nat):=λz p=>by rw[AI];rw[p]at f;simp only at f;rw[f];simp[SV.c]
 have E:∀z,r=some z->(s.act h).eval z=.int .i64 (b:Nat):=λz p=>by rw[AI];rw[p]at d;simp only at d;rw[d];simp[SV.c]
 have G:q=none->a=0:=λp=>by
  rw[p]at f;simp only[SV.v.injEq,uE1,true_and]at f;omega
 have M:r=none->b=n:=λp=>by
  rw[p]at d;simp only[SV.v.injEq,uE1,true_and]at d;omega
 have u:(Instr.sliceBounds true n i (q.map (s.act h).eval) (r.map (s.act h).eval) none).run P w=.ok (a,b,i) w:=by
  unfold Instr.sliceBounds;cases r with
  |none=>
   have:=M rfl;subst this;cases q with
   |none=>have:=G rfl;subst this;simp
   |some z=>simp[C z rfl,j a b _ I]
  |some y'=>
   cases q with
   |none=>have:=G rfl;subst this;simp[E y' rfl,j b i _ (by omega)]
   |some z=>simp[C z rfl,E y' rfl,j a b _ I,j b i _ (by omega)]
 simp[execOp,R,t,Instr.sliceAt,Instr.slice,yU V,U,u,SV.c,J,Ay]
theorem Jh{j e:TypeId}{x:Operand}{h g:Option Operand}{a b n size:Nat}{l:List Value}{y:SV}{i:List Nat}(p:o.op=.slice j x h g none)(c:AQ ops o s)(u:AE s x=y)
 (t:P.underlying j=some (.slice e))(r:∀w,(Go.sizeOf e).run P w=.ok size w)(q:Rdg w0 s.mem i y n size l)
 (f:(match h with|none=>SV.v (.int .i64 (0:Nat))|some z=>AE s z)=.v (.int .i64 (a:Nat)))(d:(match g with|none=>SV.v (.int .i64 (n:Nat))|some z=>AE s z)=.v (.int .i64 (b:Nat)))(k:a<=b)(m:b<=n):
 Ev P ops w0 o s ⟨.fn (Ay a b size) y,[],[],[],i⟩:=
 Ev.run _ _ c (T9 p u t r q f d k m)
def FK(off:Nat):Value->Value
 | .slice (some a) _ _=>.pointer (some (a.add off))
 |v=>v
theorem Bc{u e:TypeId}{x j:Operand}{k n a:Nat}{O:IntKind}{l:List Value}{y:SV}{t:List Nat}(J:o.op=.indexAddr u x j)(h:AQ ops o s)(N:AE s x=y)(G:AE s j=.v (.int O (k:Nat)))
 (M:P.underlying u=some (.slice e))(L:∀w,(Go.sizeOf e).run P w=.ok a w)(K:Rdg w0 s.mem t y n a l)(I:k<n)(i:0<a):Ev P ops w0 o s ⟨.fn (FK (k*a)) y,[],[],[],t⟩:=
 Ev.run _ _ h λm S w E C=>by
  have d:=AI s m x;rw[N]at d;have p:=AI s m j;rw[G]at p;obtain⟨_,R,z,q,T,r,f⟩:=K m S w E C;rw[q]at d;rcases f with f|⟨g,rfl,_⟩
  .exfalso
   rw[f]at r;have:0<n*a:=Nat.mul_pos (by omega) i;simp at r;omega
  .simp[execOp,J,d,p,SV.c,Instr.indexAt,asIntOf,yU M,L,q,FK,I]
theorem Cb{m:TypeId}{x:Operand}{e n f:Nat}{l:List Value}{y:SV}{k:List Nat}{d:TypeDesc}{v:Value}(E:o.op=.load m x)(h:AQ ops o s)(J:AE s x=.fn (FK e) y)
 (I:P.underlying m=some d)(C:Ba d=false)(G:Rdg w0 s.mem k y n f l)(i:l[e]? =some v):Ev P ops w0 o s ⟨.v v,[],[],[],k⟩:=
 Ev.run _ _ h λp S w u t=>by
  have j:=AI s p x;rw[J]at j;obtain⟨_,K,q,r,L,M,a⟩:=G p S w u t;rcases a with a|⟨g,rfl,_,a⟩
  .rw[a]at i;cases i
  .have z:=a _ _ i
   simp[execOp,E,j,SV.c,r,FK,Instr.loadAt,Instr.sureAddr,loadVar,Bp I,C,z]
def Qd:Value->Value
 | .slice a _ _=>.pointer a
 |v=>v
theorem LJ{g j:TypeId}{x:Operand}{k n a:Nat}{l:List Value}{y:SV}{f:List Nat}(t:o.op=.sliceToArrayPointer g x)(d:AQ ops o s)(z:AE s x=y)
 (v:P.underlying g=some (.array k j))(u:Rdg w0 s.mem f y n a l)(E:k<=n):Ev P ops w0 o s ⟨.fn Qd y,[],[],[],f⟩:=
 Ev.run _ _ d λh S w r q=>by
  have e:=AI s h x;rw[z]at e;obtain⟨_,C,i,p,_⟩:=u h S w r q;have m: ¬n<k:=by omega
  simp[execOp,t,e,SV.c,Instr.arrayAt,yU v,p,m,Qd]
theorem P8{p:TypeId}{x:Operand}{n k:Nat}{l vs:List Value}{y:SV}{r:List Nat}{d:TypeDesc}(I:o.op=.load p x)(i:AQ ops o s)(M:AE s x=.fn Qd y)
 (L:P.underlying p=some d)(G:Ba d=true)(K:∀w,(Go.sizeOf p).run P w=.ok k w)(J:Rdg w0 s.mem r y n 1 l)(h:l.take k=vs)(m:vs.length=k)(T:0<k):Ev P ops w0 o s ⟨.v (.agg vs.toArray),[],[],[],r⟩:=
 Ev.run _ _ i λt S w E C=>by
  have q:=AI s t x;rw[M]at q;obtain⟨_,N,u,z,O,R,a⟩:=J t S w E C;rcases a with a|⟨g,rfl,_,a⟩
  .rw[a]at h;simp at h;rw[h]at m;simp at m;omega
  .have e:(loadCells g vs.length).run P w=.ok vs.toArray w:=OR w _ vs λj v f=>by
    refine a j v ?_;rw[<-h,zP]at f;split at f
    .exact f
    .cases f
   rw[m]at e;simp[execOp,I,q,SV.c,z,Qd,Instr.loadAt,Instr.sureAddr,loadVar,Bp L,G,K,e]
theorem NS{g:TypeId}{x:Operand}{id a n l:Nat}{f:TypeId}(h:o.op=.slice g x none none none)(d:AQ ops o s)(k:AE s x=.p id a)
 (j:P.underlying g=some (.array n f))(i:∀w,(Go.sizeOf f).run P w=.ok l w):Ev P ops w0 o s ⟨.s id a n n,[],[],[],[]⟩:=
 Ev.run _ _ d λm S w r q=>by
  have e:=AI s m x;rw[k]at e;simp[execOp,h,e,SV.c,Instr.sliceAt,yU j,Instr.sureAddr,Instr.sliceBounds,i,Bd]
theorem BL{ty e:TypeId}{a:Nat}{f:Array (Nat×Operand)}{m:List (Nat×Value)}{l:List Value}{id:Nat}(_hd:o.dst=some id)(z:o.op=.buildSlice ty a f)(j:AQ ops o s)
 (C:CG (f.toList.map λx=>(x.1,AE s x.2))=some m)(p:l.length=a)(y:a<=maxLen)
 (r:∀w,(Instr.buildSlice ty a m.toArray).run P w=.ok (.slice (some ⟨w.heap.size,0,none⟩) a a) (w.alloc (.cells l.toArray e))):Ev P ops w0 o s ⟨.d id,[(id,.row a 1 e (.exact l))],[],[id],[]⟩:=
 ⟨by simp[Eff.ok],.inr ⟨j,λρ S w h E=>.inl ⟨.slice (some ⟨w.heap.size,0,none⟩) a a,w.alloc (.cells l.toArray e),by
  have q:(f.map fun(i,x)=>(i,(s.act ρ).eval x))=m.toArray:=by
   rw[<-Array.toList_inj,<-Il C ρ];simp only[Array.toList_map,KK];exact uB4 λx _=>by simp only[Function.comp_apply,AI]
  simp only[execOp,z];rw[q,Sem.run_bind,r w];rfl,_,_,by
  have:=H6 (t:=s.mem) (ρ:=ρ) (S:=S) (val:=.d id) (rd:=[]) (id:=id) (n:=a) (size:=1) (ty:=e) (l:=l) (w:=w) (w':=w.alloc (.cells l.toArray e)) (v:=.slice (some ⟨w.heap.size,0,none⟩) a a) (g:=w.heap.size) h.size
   ⟨rfl,rfl,rfl,by simp,λk u=>DM w _ u⟩ (by omega) (.inr ⟨0,a,l.toArray,(0,0),rfl,yD _,L7 w _,.inl rfl,yD _,y,by simp[p],by simp[<-p]⟩)
  simpa[SV.c] using this⟩⟩⟩
end
end Go.Vx
namespace Go.Vx
open Go.RowKit Go.Toll
section
variable{P:Program}{w0:World}{ops:Array Oper}{o:Oper}{s:VS}
theorem Lu(g o:Nat)(t:TypeId)(c:Nat×Nat):∀(j:List Value) (i:Nat) (a:Array Value) (w:World),w.heap[g]? =some (.cells a t c)->(∀k,k<a.size-> ¬(c.1<=k/\k<c.2))->o+i+j.length<=a.size->(∀v∈j,v.oneCell'=true)->
 (storeCells ⟨g,o,none⟩ j i).run P w=.ok () (w.setRow g (a.toList.take (o+i)++j++a.toList.drop (o+i+j.length)).toArray)
 | [],i,a,w,hg,_,_,_=>by
   simp only[storeCells,List.append_nil,List.length_nil,Nat.add_zero,uE6,Array.toArray_toList];rw[setRow_self w g a t c hg];rfl
 |v::rest,i,a,w,hg,hz,hl,h1=>by
  have m:o+i<a.size:=by simp at hl;omega
  have d:w.cell? ⟨g,o+i,none⟩=some a[o+i]:=by simp[World.cell?,hg,m]
  have f:w.frozen? ⟨g,o+i,none⟩=false:=by
   obtain⟨q,h⟩:=c;have:=hz (o+i) m;simp only[World.frozen?,hg];simp only[Bool.and_eq_false_iff,uE3];omega
  have l:(store ((⟨g,o,none⟩:Addr).add i) v).run P w=.ok () (w.setRow g (a.setIfInBounds (o+i) v)):=by
   rw[Bd,run_store P w _ v _ (h1 v (by simp)),d];simp[f,setCell_eq_setRow w g (o+i) a t c v hg]
  have p:=Lu g o t c rest (i+1) (a.setIfInBounds (o+i) v) (w.setRow g (a.setIfInBounds (o+i) v)) (ID w g a _ t _ hg) (by simpa using hz) (by simp at hl ⊢; omega) (λx n=>h1 x (by simp[n]));simp only[storeCells,Sem.run_bind,l,Result.andThen_ok,p,setRow_setRow];congr 3
  have e:=list_seg_step a.toList (o+i) v rest (by simp at hl ⊢; omega);simpa[Array.toList_setIfInBounds,Nat.add_assoc] using e
theorem NK{a:Array Value}{c:Nat×Nat}(h:c=(0,0)\/c=(a.size,a.size+1)):∀k,k<a.size-> ¬(c.1<=k/\k<c.2):=by
 rcases h with rfl|rfl<;>intro k d<;>simp<;>omega
theorem Vz{w:World}{G:Nat}(Z:G<=w.heap.size)(t r e:TypeId)(i:TypeInfo)(z:Value)(l J:Nat)(ht:P.underlying t=some (.slice e))(hi:P.info? e=some i)(hz:i.zero=some z)
 (a1:i.size=l)(a7:i.bytes=J)(b4:z.cells.size=l)(b2:0<l)
 {m:Nm}{n k:Nat}{xs a:List Value}(X:EC w G m n l e xs)(hl:xs.length=n*l){x:Value}{S:Nat->Prop}(hx:AO w x k l a S)(h1:∀u∈a,u.oneCell'=true)
 (a2:n+k<=maxLen)(I:(n+k)*J<=140737488355328):
 ∃v' g' w',(Builtin.append_ #[t,t] r #[m.val,x]).run P w=.ok v' w'/\EC w' G ⟨g',v'⟩ (n+k) l e (xs++a)/\w'.os=w.os/\w'.tape=w.tape/\w'.output=w.output/\w.heap.size<=w'.heap.size/\
  (∀j,j<w.heap.size->(m.val≠ .slice none 0 0->m.g≠j)->w'.heap[j]? =w.heap[j]?)/\(v'≠ .slice none 0 0->(m.val≠ .slice none 0 0/\m.g=g')\/w.heap.size<=g'):=by
 subst a1 a7;obtain⟨ao,cp,rfl,b5,q,hx⟩:=hx;have V:(xs++a).length=(n+k)*i.size:=by rw[yM,hl,q,PJ]
 have a6:n+k<=9223372036854775807:=by simp only[maxLen]at a2;omega
 by_cases b0:k=0
 .subst b0;have hn:a=[]:=zJ (by simpa using q);subst hn;rcases X with⟨f,v⟩|⟨c,p,d,fz,f,v,L,M,N,O,R,T⟩
  .subst v
   refine⟨.slice none 0 0,m.g,w,?_,.inl ⟨rfl,rfl⟩,rfl,rfl,rfl,yD _,λ_ _ _=>rfl,λh=>absurd rfl h⟩;rw[f];cases ao<;>simp[Builtin.append_,yU ht,sizeOf,typeInfo,hi,Builtin.lenOf,Builtin.firstCells,loadCells,loadCellsFrom]
  .refine⟨m.val,m.g,w,?_,.inr ⟨c,p,d,fz,f,v,L,M,N,O,R,by rw[List.append_nil];exact T⟩,rfl,rfl,rfl,yD _,λ_ _ _=>rfl,λh=>.inl ⟨h,rfl⟩⟩
   rw[f];cases ao<;>simp[Builtin.append_,yU ht,sizeOf,typeInfo,hi,Builtin.lenOf,Builtin.firstCells,loadCells,loadCellsFrom,N,storeCells]
 .have b1:a≠[]:=λh=>by
   rw[h]at q;have:0<k*i.size:=Nat.mul_pos (by omega) b2;simp at q;omega
  rcases hx with hx|⟨ga,rfl,_,y⟩
  .exact absurd hx b1
  have K:∀(E:Nat),E<n+k->
   EC (w.drew.alloc (.cells (xs.toArray++a.toArray++Builtin.zeroCells z.cells (grownCap w (n+k) E e-(n+k))) e)) G
    ⟨w.heap.size,.slice (some ⟨w.heap.size,0,none⟩) (n+k) (grownCap w (n+k) E e)⟩ (n+k) i.size e (xs++a):=by
   intro E ho;have a9:=grownCap_ge w (n+k) E e;have a8:grownCap w (n+k) E e<=maxLen:=grownCap_le_maxLen w (n+k) E e a2;refine .inr ⟨0,_,_,(0,0),rfl,Z,L7 w.drew _,.inl rfl,a9,a8,?_,?_⟩
   .simp only[Array.size_append,uD1,size_zeroCells,b4,hl,q,<-PJ,zW]
    apply Nat.le_of_eq;congr 1
    omega
   .simp only[Array.toList_append,z7,List.drop_zero]
    rw[<-z7,<-V];exact List.take_left
  rcases X with⟨f,v⟩|⟨c,p,d,fz,f,v,L,M,N,O,R,T⟩
  .subst v
   have b3:xs=[]:=zJ (by simpa using hl);subst b3;have hr:=run_append_nil (P:=P) w t r e i z ht hi hz ga k cp a q y (by omega) (by omega) (by have hb:=I;simp only[zW]at hb;omega);have a4:=K 0 (by omega);simp only[zW,List.nil_append,Array.empty_append]at a4⊢;rw[f];exact⟨_,_,_,hr,a4,rfl,rfl,rfl,by simp,λj U _=>DM w.drew _ U,λ_=>.inr (yD _)⟩
  .by_cases C:n+k<=p
   .have a3:c+n*i.size+a.length<=d.size:=by
     have:(n+k)*i.size<=p*i.size:=uC5 _ C;rw[PJ]at this;rw[q];omega
    have hf:=run_firstCells_some (P:=P) w i.size k ga k cp a q y;have a5:=Lu (P:=P) m.g (c+n*i.size) e fz a 0 d w L (NK M) (by simpa using a3) h1;simp only[Nat.add_zero]at a5;refine⟨.slice (some ⟨m.g,c,none⟩) (n+k) p,m.g,w.setRow m.g (d.toList.take (c+n*i.size)++a++d.toList.drop (c+n*i.size+a.length)).toArray,?_,?_,rfl,rfl,rfl,by simp,λj _ U=>MT w m.g j _ (λe=>U (by rw[f];simp) e.symm),λ_=>.inl ⟨by rw[f];simp,rfl⟩⟩
    .rw[f]
     simp[Builtin.append_,yU ht,sizeOf,typeInfo,hi,Builtin.lenOf,C,hf,Bd,a5]
    .have Y:(d.toList.take (c+n*i.size)++a++d.toList.drop (c+n*i.size+a.length)).toArray.size=d.size:=by
      simp only[uD1,yM,z6,zH,Array.length_toList];omega
     refine .inr ⟨c,p,_,fz,rfl,v,ID w m.g d _ e _ L,by rw[Y];exact M,C,O,by rw[Y];exact R,?_⟩;rw[<-V,<-T];apply uB1;intro j;simp only[zP,zQ,List.getElem?_append,z6,zH,yM,Array.length_toList];have hA:min (c+n*i.size) d.size=c+n*i.size:=by omega
     have hB:min (n*i.size) (d.size-c)=n*i.size:=by omega
     simp only[hA,hB];by_cases j1:j<n*i.size
     .rw[x9 (by omega),x9 (by omega),x9 (by omega),x9 j1,x9 j1]
      rw[x9 (by omega)]
     .by_cases j2:j<n*i.size+a.length
      .rw[x9 j2,x9 (by omega),x8 (by omega),x8 j1]
       congr 1;omega
      .rw[x8 j2,x8 j1]
       symm;apply D0;omega
   .have a0:∀j u,xs[j]? =some u->w.cell? ((⟨m.g,c,none⟩:Addr).add j)=some u:=λj u U=>by
     obtain⟨_,_,e1,_,_,e2⟩:=DX (.inr ⟨c,p,d,fz,f,v,L,M,N,O,R,T⟩) hl;rw[f]at e1;simp only[Value.slice.injEq]at e1;rcases e2 with e2|⟨g2,e2,_,e3⟩
     .rw[e2]at U;cases U
     .have:=e1.1.trans e2
      simp only[yT]at this;rw[this];exact e3 j u U
    have hr:=run_append_grow (P:=P) w t r e i z ht hi hz ⟨m.g,c,none⟩ n p xs hl a0 ga k cp a q y (by omega) (by omega) (growslice_fits (by omega) I);rw[f];exact⟨_,_,_,hr,K p (by omega),rfl,rfl,rfl,by simp,λj U _=>DM w.drew _ U,λ_=>.inr (yD _)⟩
def DT(P:Program)(e:TypeId)(a c:Nat):Prop:=(P.info? e).map (λi=>(i.zero.map λz=>z.cells.size,i.size,i.bytes))=some (some a,a,c)
theorem DT.get{e:TypeId}{c a:Nat}(h:DT P e c a):∃i z,P.info? e=some i/\i.zero=some z/\i.size=c/\i.bytes=a/\z.cells.size=c:=by
 unfold DT at h;cases g:P.info? e with
 |none=>rw[g]at h;cases h
 |some i=>
  rw[g]at h;simp only[AT,yT,RC]at h;obtain⟨d,j,k⟩:=h;cases f:i.zero with
  |none=>rw[f]at d;cases d
  |some z=>rw[f]at d;exact⟨i,z,rfl,f,j,k,by simpa using d⟩
theorem Di{t e:TypeId}{x y:Operand}{id l n k size g:Nat}{v f:List Value}{sv:SV}{rd:List Nat}(_hd:o.dst=some l)(ho:o.op=.call {callee:=.builtin .append,args:=#[x,y],argTypes:=#[t,t]})(L:AQ ops o s)
 (hx:AE s x=.d id)(M:s.mem id=some (.row n size e (.exact v)))(hy:AE s y=sv)(hr:Rdg w0 s.mem rd sv k size f)
 (ht:P.underlying t=some (.slice e))(hI:DT P e size g)(T:0<size)
 (hl:v.length=n*size)(G:f.all (·.oneCell')=true)(I:n+k<=maxLen)(p:(n+k)*g<=140737488355328)(N:f.length=k*size):
 Ev P ops w0 o s ⟨.d l,[(l,.row (n+k) size e (.exact (v++f)))],[id],[l],id::rd⟩:=
 ⟨by simp[Eff.ok],.inr ⟨L,λρ S w hb Z=>by
  obtain⟨i,z,hi,hz,q,K,U⟩:=hI.get;obtain⟨r,g1,g2,g3⟩:=w4 Z M (by simp);have E:r=v:=g2;subst E
  have J:RelOn w0.heap.size ρ S w (restr rd s.mem):=by
   have:=Z.restr rd
   have e:restr rd (restr (id::rd) s.mem)=restr rd s.mem:=by
    funext j;unfold restr
    by_cases h:j∈rd<;>simp[h]
   rwa [e]at this
  obtain⟨S1,R⟩:=hr ρ S w hb J;obtain⟨V,Y,w',r1,r2,r3,r4,r5,r6,r7,r8⟩:=Vz (P:=P) hb.size t o.type e i z size g ht hi hz q K U T g3 hl R (λu hu=>y5.1 G u hu) I p;refine .inl ⟨V,w',?_,λj=>if j=l then⟨Y,V⟩else ρ j,λ_ _=>False,?_⟩
  .have C:=AI s ρ x
   rw[hx]at C;have X:=AI s ρ y;rw[hy]at X;simp only[SV.c]at C;unfold execOp;simp only[ho,resolve,invoke,builtin,Sem.run_bind,Sem.run_pure,Result.andThen_ok,List.map_toArray,List.map_cons,List.map_nil,C,X,r1]
  .have:=Cj (base:=w0.heap.size) (t:=s.mem) (ρ:=ρ) (S:=S) (w:=w) (w':=w') (val:=.d l) (rd:=id::rd) (up:=[id]) (id:=l) (b:=.row (n+k) size e (.exact (r++f))) (m:=⟨Y,V⟩) (S1:=λ_=>False)
    r3 r4 r5 r6 (λj hj hk=>r7 j hj λhv=>hk id (by simp) _ M hv) (λa0 G _=>⟨_,by rw[yM,hl,N,PJ],rfl,by rw[G];exact r2⟩) (λ_ h=>h.elim)
    (λO=>(r8 O).imp (λ⟨a,b⟩=>⟨id,by simp,_,M,a,b⟩) (λa=>⟨a,λh=>h⟩))
   simpa[SV.c] using this⟩⟩
theorem wB{t e:TypeId}{x y:Operand}{p k f l:Nat}{g:List Value}{X:SV}{rd:List Nat}(_hd:o.dst=some p)(ho:o.op=.call {callee:=.builtin .append,args:=#[x,y],argTypes:=#[t,t]})(I:AQ ops o s)
 (hx:AE s x=.v (.slice none 0 0))(hy:AE s y=X)(hr:Rdg w0 s.mem rd X k f g)
 (ht:P.underlying t=some (.slice e))(Z:DT P e f l)(M:0<f)
 (E:g.all (·.oneCell')=true)(Y:k<=maxLen)(q:k*l<=140737488355328)(J:g.length=k*f):
 Ev P ops w0 o s ⟨.d p,[(p,.row k f e (.exact g))],[],[p],rd⟩:=
 ⟨by simp[Eff.ok],.inr ⟨I,λρ S w U hR=>by
  obtain⟨i,z,hi,hz,r,G,N⟩:=Z.get;obtain⟨S1,L⟩:=hr ρ S w U hR;obtain⟨O,T,w',r1,V,r3,r4,r5,r6,r7,r8⟩:=Vz (P:=P) (m:=⟨0,.slice none 0 0⟩) (n:=0) (xs:=[]) U.size t o.type e i z f l ht hi hz r G N M (.inl ⟨rfl,rfl⟩) (by simp) L (λu hu=>y5.1 E u hu) (by omega) (by simpa using q);simp only[zW,List.nil_append]at V;refine .inl ⟨O,w',?_,λj=>if j=p then⟨T,O⟩else ρ j,λ_ _=>False,?_⟩
  .have C:=AI s ρ x
   rw[hx]at C;have R:=AI s ρ y;rw[hy]at R;simp only[SV.c]at C;unfold execOp;simp only[ho,resolve,invoke,builtin,Sem.run_bind,Sem.run_pure,Result.andThen_ok,List.map_toArray,List.map_cons,List.map_nil,C,R,r1]
  .have:=Cj (base:=w0.heap.size) (t:=s.mem) (ρ:=ρ) (S:=S) (w:=w) (w':=w') (val:=.d p) (rd:=rd) (up:=[]) (id:=p) (b:=.row k f e (.exact g)) (m:=⟨T,O⟩) (S1:=λ_=>False)
    r3 r4 r5 r6 (λj hj _=>r7 j hj λhv=>absurd rfl hv) (λa0 E _=>⟨_,J,rfl,by rw[E];exact V⟩) (λ_ h=>h.elim)
    (λK=>.inr ((r8 K).elim (λ⟨a,_⟩=>absurd rfl a) (λa=>⟨a,λh=>h⟩)))
   simpa[SV.c] using this⟩⟩
theorem BB{n r:TypeId}{k:IntKind}{x y:Operand}{a b:Int}{p:Bool}(i:o.op=.binOp .neq n x y r)(d:AQ ops o s)(l:AE s x=.v (.int k a))(m:AE s y=.v (.int k b))(j:decide (a≠b)=p):
 Ev P ops w0 o s ⟨.v (.bool p),[],[],[],[]⟩:=
 Ev.run _ _ d λg S w t q=>by
  have e:=AI s g x;rw[l]at e;have f:=AI s g y;rw[m]at f;simp only[execOp,i,e,f,SV.c];subst j
  go_simp
  by_cases h:a=b<;>simp[h]
theorem BV{m r:TypeId}{k:IntKind}{x y:Operand}{a b:Int}{p:Bool}(h:o.op=.binOp .gtr m x y r)(d:AQ ops o s)(j:AE s x=.v (.int k a))(l:AE s y=.v (.int k b))(i:decide (a>b)=p):
 Ev P ops w0 o s ⟨.v (.bool p),[],[],[],[]⟩:=
 Ev.run _ _ d λg S w q n=>by
  have e:=AI s g x;rw[j]at e;have f:=AI s g y;rw[l]at f;simp only[execOp,h,e,f,SV.c];subst i
  go_simp
theorem LG{m r:TypeId}{k:IntKind}{x y:Operand}{a b:Int}{p:Bool}(h:o.op=.binOp .leq m x y r)(d:AQ ops o s)(j:AE s x=.v (.int k a))(l:AE s y=.v (.int k b))(i:decide (a<=b)=p):
 Ev P ops w0 o s ⟨.v (.bool p),[],[],[],[]⟩:=
 Ev.run _ _ d λg S w q n=>by
  have e:=AI s g x;rw[j]at e;have f:=AI s g y;rw[l]at f;simp only[execOp,h,e,f,SV.c];subst i
  go_simp
theorem D8{m r:TypeId}{k:IntKind}{x y:Operand}{a b:Int}{p:Bool}(h:o.op=.binOp .lss m x y r)(d:AQ ops o s)(j:AE s x=.v (.int k a))(l:AE s y=.v (.int k b))(i:decide (a<b)=p):
 Ev P ops w0 o s ⟨.v (.bool p),[],[],[],[]⟩:=
 Ev.run _ _ d λg S w q n=>by
  have e:=AI s g x;rw[j]at e;have f:=AI s g y;rw[l]at f;simp only[execOp,h,e,f,SV.c];subst i
  go_simp
theorem Ew{m r:TypeId}{k:IntKind}{x y:Operand}{a b:Int}{p:Bool}(h:o.op=.binOp .geq m x y r)(d:AQ ops o s)(j:AE s x=.v (.int k a))(l:AE s y=.v (.int k b))(i:decide (a>=b)=p):
 Ev P ops w0 o s ⟨.v (.bool p),[],[],[],[]⟩:=
 Ev.run _ _ d λg S w q n=>by
  have e:=AI s g x;rw[j]at e;have f:=AI s g y;rw[l]at f;simp only[execOp,h,e,f,SV.c];subst i
  go_simp
theorem oO{j:TypeId}{x:Operand}{i n:Nat}{e:Array Value}{h:Array Field}{a:Field}{d:TypeDesc}{vs:List Value}(q:o.op=.field j x i)(f:AQ ops o s)(y:AE s x=.v (.agg e))
 (t:P.underlying j=some (.struct h))(p:h[i]? =some a)(m:P.underlying a.type=some d)(l:Ba d=true)(r:∀w,(Go.sizeOf a.type).run P w=.ok n w)(u:(e.toList.drop a.offset).take n=vs):Ev P ops w0 o s ⟨.v (.agg vs.toArray),[],[],[],[]⟩:=
 Ev.run _ _ f λz S w E C=>by
  have g:=AI s z x;rw[y]at g
  have k:e.extract a.offset (a.offset+n)=vs.toArray:=by
   rw[<-u,<-Array.toList_inj];simp[Array.toList_extract]
  simp[execOp,q,g,SV.c,Instr.field,yU t,p,asAgg,part,Bp m,l,r,k]
end
end Go.Vx
namespace Go.Vx
open Go.RowKit Go.Toll
theorem MN(a:List SV)(m:Mem)(t:Nat):AE ⟨a,m⟩ (.tmp t)=(a[t]?).getD (.v undef):=rfl
theorem MX(s:VS)(v:Value):AE s (.const v)=.v v:=rfl
theorem MU(s:VS)(g:Nat):AE s (.global g)=.v (.pointer (some ⟨g,0,none⟩)):=rfl
theorem MV(s:VS)(f:FuncId):AE s (.func f)=.v (.func (.func f) #[] #[]):=rfl
theorem MR(id:Nat)(b:Blk):Dp [] id b=[(id,b)]:=rfl
theorem MQ(k:Nat)(c:Blk)(l:List (Nat×Blk))(id:Nat)(b:Blk):Dp ((k,c)::l) id b=if k=id then(id,b)::l else(k,c)::Dp l id b:=rfl
theorem YS(l:List (Nat×Blk)):BQ l []=l:=by
 induction l with
 |nil=>rfl
 |cons x l ih=>obtain⟨k,c⟩:=x;simp only[BQ];rw[ih];rfl
theorem YR(a:List Nat):BQ [] a=[]:=rfl
theorem YQ(k:Nat)(c:Blk)(l:List (Nat×Blk))(i:Nat):BQ ((k,c)::l) [i]=if k=i then BQ l [i]else(k,c)::BQ l [i]:=by
 show(if List.elem k [i]then BQ l [i]else(k,c)::BQ l [i])=_;by_cases h:k=i
 .subst h;rw[x9 rfl,x9 (by simp)]
 .rw[x8 h,x8 (by simpa using h)]
theorem YU(l:List (Nat×Blk)):[]++l=l:=rfl
theorem YT(x:Nat×Blk)(a l:List (Nat×Blk)):(x::a)++l=x::(a++l):=rfl
theorem MZ(a:Array Value):Value.cells (.agg a)=a:=rfl
theorem MS(k:IntKind)(n:Int):Value.cells (.int k n)=#[.int k n]:=rfl
theorem MY(b:Bool):Value.cells (.bool b)=#[.bool b]:=rfl
theorem YP(b:ByteArray):Value.cells (.string b)=#[.string b]:=rfl
theorem MP(a:Option Addr):Value.cells (.pointer a)=#[.pointer a]:=rfl
theorem MO(a:Option Addr)(l c:Nat):Value.cells (.slice a l c)=#[.slice a l c]:=rfl
theorem nm:(type_of%(MJ))/\(type_of%(Xd))/\(type_of%(MI))/\(type_of%(NO))/\(type_of%(NP))/\(type_of%(@List.set_cons_zero SV))/\(type_of%(@List.set_cons_succ SV))/\(type_of%(MN))/\(type_of%(MX))/\(type_of%(MU))/\(type_of%(MV))/\(type_of%(@List.getElem?_cons_zero SV))/\(type_of%(@List.getElem?_cons_succ SV))/\(type_of%(@List.getElem?_cons_zero Value))/\(type_of%(@List.getElem?_cons_succ Value))/\(type_of%(@Option.getD_some SV))/\(type_of%(@List.take_succ_cons SV))/\(type_of%(@List.take_zero SV))/\(type_of%(@List.drop_succ_cons SV))/\(type_of%(@List.drop_zero SV))/\(type_of%(@List.cons_append SV))/\(type_of%(@List.nil_append SV))/\(type_of%(@List.append_nil SV))/\(type_of%(@List.map_cons Value SV))/\(type_of%(@List.map_nil Value SV))/\(type_of%(MR))/\(type_of%(MQ))/\(type_of%(MZ))/\(type_of%(MS))/\(type_of%(MY))/\(type_of%(MP))/\(type_of%(MO))/\(type_of%(@Int.toNat_natCast))/\(type_of%(@Nat.zero_add))/\(type_of%(@Nat.add_zero))/\(type_of%(@Nat.mul_one))/\(type_of%(@Ah))/\(type_of%(YS))/\(type_of%(YR))/\(type_of%(YQ))/\(type_of%(YU))/\(type_of%(YT))/\(type_of%(YP)):=
 ⟨MJ,Xd,MI,NO,NP,@List.set_cons_zero SV,@List.set_cons_succ SV,MN,MX,MU,MV,@List.getElem?_cons_zero SV,@List.getElem?_cons_succ SV,@List.getElem?_cons_zero Value,@List.getElem?_cons_succ Value,@Option.getD_some SV,@List.take_succ_cons SV,@List.take_zero SV,@List.drop_succ_cons SV,@List.drop_zero SV,@List.cons_append SV,@List.nil_append SV,@List.append_nil SV,@List.map_cons Value SV,@List.map_nil Value SV,MR,MQ,MZ,MS,MY,MP,MO,@Int.toNat_natCast,@Nat.zero_add,@Nat.add_zero,@Nat.mul_one,@Ah,YS,YR,YQ,YU,YT,YP⟩
theorem B8{w0 w:World}{s:VS}{d:Nat->Nm}{id n a:Nat}{e:TypeId}{l:List Value}(j:Rel w0 d s w)(i:s.mem id=some (.row n a e (.exact l))):BN w0 w (d id).val n a e l:=by
 obtain⟨S,k,_,f,h⟩:=L2 j i;have c:k=l:=f;subst c;exact⟨(d id).g,h⟩
theorem I1(w0 w:World)(a:Nat)(c:TypeId):BN w0 w (.slice none 0 0) 0 a c []:=⟨0,.inl ⟨rfl,rfl⟩⟩
theorem BN.sl{w0 w:World}{v:Value}{n a:Nat}{d:TypeId}{l:List Value}(h:BN w0 w v n a d l)(c:l.length=n*a):∃S,AO w v n a l S:=by
 obtain⟨g,h⟩:=h;exact⟨_,DX h c⟩
end Go.Vx
namespace Go.Vx
open Go.RowKit Go.Toll
section
variable{P:Program}{w0:World}{ops:Array Oper}{o:Oper}{s:VS}
theorem Ev.wrv(id:Nat)(b u:Blk)(r:SV)(v:List Nat)(J:AQ ops o s)(z:s.mem id=some b)(p:v.contains id=true)
 (h:∀m S w,Bw w0 w->RelOn w0.heap.size m S w (restr v s.mem)->b.owns (m id)/\ ∃t,(execOp (s.act m).eval o).run P w=.ok (.value (r.c m)) t/\Wr w t (m id).g/\CR w0.heap.size m id u t (S id)):Ev P ops w0 o s ⟨r,[(id,u)],[id],[],v⟩:=
 ⟨by simp[Eff.ok];simpa using p,.inr ⟨J,λm S w G E=>by
  obtain⟨n,t,q,a,I⟩:=h m S w G E;have x:id∈v:=by simpa using p
  have f:∀i c,AJ [(id,u)] i=some c->i=id/\c=u:=by
   intro i c h;simp only[AJ]at h;split at h
   .rename_i e;injection h with h;exact⟨e,h.symm⟩
   .cases h
  refine .inl ⟨_,t,q,m,S,⟨rfl,λ_ _=>rfl,a.os,a.tape,a.output,Nat.le_of_eq a.size.symm,?_,?_,?_,?_,?_⟩⟩
  .intro k _ y
   exact a.block k λe=>y id (by simp) b z n e.symm
  .intro i c l
   obtain⟨rfl,rfl⟩:=f i c l;exact I
  .intro i k l y
   obtain⟨c,l⟩:=IF.1 l;obtain⟨rfl,rfl⟩:=f i c l;exact .inl ⟨i,x,by rw[z];rfl,y⟩
  .intro i c l _
   obtain⟨rfl,rfl⟩:=f i c l;exact .inl ⟨i,by simp,b,z,n,rfl⟩
  .intro i c j d l _ C _ _
   exact(f i c l).1.trans (f j d C).1.symm⟩⟩
theorem oC{ty:TypeId}{x y:Operand}{id k n:Nat}{e:TypeId}{l l':List Value}{v:Value}(ho:o.op=.store ty x y)(R:AQ ops o s)(hx:AE s x=.fn (FK k) (.d id))(hm:s.mem id=some (.row n 1 e (.exact l)))(hy:AE s y=.v v)
 (hs:∀w,(Go.sizeOf ty).run P w=.ok 1 w)(hv:v.cells=#[v])(h1:v.oneCell'=true)(hk:k<n)(Z:l.set k v=l'):
 Ev P ops w0 o s ⟨.v undef,[(id,.row n 1 e (.exact l'))],[id],[],[id]⟩:=
 Ev.wr id _ _ _ _ R hm (by simp) (λ_=>by simp[SV.c]) λG S w hb hR=>by
  have V:=AI s G x;rw[hx]at V;have X:=AI s G y;rw[hy]at X;obtain⟨xs,U,T,t⟩:=w4 hR hm (by simp);have C:xs=l:=T;subst C;rcases t with⟨_,h⟩|⟨f,J,a,Y,m,K,p,q,L,M,N,O⟩
  .omega
  .have r:f+k+1<=a.size:=by omega
   have z:=Lu (P:=P) (G id).g (f+k) e Y [v] 0 a w p (NK q) (by simpa using r) (λu hu=>by simp at hu;subst hu;exact h1);simp only[Nat.add_zero,uA8]at z;refine⟨by simp only[Blk.owns];rw[m];simp,w.setRow (G id).g (a.toList.take (f+k)++[v]++a.toList.drop (f+k+1)).toArray,?_,⟨rfl,rfl,rfl,by simp,λj hj=>MT w _ j _ hj⟩,?_⟩
   .simp only[execOp,ho,V,X,SV.c,m,FK,Bd,Instr.storeAt,Instr.sureAddr,storeVar]
    rw[Sem.run_bind,Sem.run_bind,Sem.run_pure,Result.andThen_ok,Sem.run_bind,hs,Result.andThen_ok,x8 (by rw[hv];simp),hv,z];rfl
   .have i:(a.toList.take (f+k)++[v]++a.toList.drop (f+k+1)).toArray.size=a.size:=by
     simp only[uD1,yM,z6,zH,Array.length_toList,uA8];omega
    refine⟨l',by rw[<-Z,List.length_set];exact U,rfl,.inr ⟨f,J,_,Y,m,K,ID w (G id).g a _ e _ p,by rw[i];exact q,L,M,by rw[i];exact N,?_⟩⟩;rw[<-Z,<-O];apply uB1;intro j;simp only[zP,zQ,List.getElem?_append,List.getElem?_set,z6,zH,yM,Array.length_toList,uA8];have hA:min (f+k) a.size=f+k:=by omega
    simp only[hA];by_cases E:j<n*1
    .rw[x9 E]
     by_cases I:k=j
     .subst I
      rw[x9 (by omega),x8 (by omega),x9 rfl,x9 (by omega)];simp
     .rw[x8 I]
      by_cases j3:j<k
      .rw[x9 (by omega),x9 (by omega),x9 (by omega),x9 E]
      .rw[x8 (by omega),x9 E]
       congr 1;omega
    .rw[x8 E]
     by_cases I:k=j
     .omega
     .rw[x8 I,x8 E]
theorem WV{m:Mem}{c:List Nat}{x:SV}{n a lo hi n':Nat}{l l':List Value}(h:Rdg w0 m c x n a l)(d:lo<=hi)(e:hi<=n)(f:(l.drop (lo*a)).take ((hi-lo)*a)=l')(g:hi-lo=n'):Rdg w0 m c (.fn (Ay lo hi a) x) n' a l':=by
 subst f g;exact I2 h d e
theorem aY{dT sT e:TypeId}{x y:Operand}{id f len n k:Nat}{l:List SV}{r:TypeId}{news:List Value}{R:SV}{m:List Nat}(Y:o.op=.call {callee:=.builtin .copy,args:=#[x,y],argTypes:=#[dT,sT]})(G:AQ ops o s)
 (hx:AE s x=.s id f len n)(N:s.mem id=some (.cells l r))(hy:AE s y=R)(Z:Rdg w0 s.mem m R k 1 news)(J:P.underlying dT=some (.slice e))(hs:(P.info? e).map (·.size)=some 1)
 (d:news.length=len)(I:k=len)(L:f+len<=l.length)(U:news.all (·.oneCell')=true)(O:0<len):
 Ev P ops w0 o s ⟨.v (.int .i64 (len:Nat)),[(id,.cells (l.take f++news.map .v++l.drop (f+len)) r)],[id],[],id::m⟩:=
 Ev.wrv id _ _ _ _ G N (by simp) λi S w X K=>by
  have t:=AI s i x;rw[hx]at t;have z:=AI s i y;rw[hy]at z;obtain⟨E,M⟩:=w4 K N (by simp)
  have C:RelOn w0.heap.size i S w (restr m s.mem):=by
   have:=K.restr m
   have e:restr m (restr (id::m) s.mem)=restr m s.mem:=by
    funext j;unfold restr
    by_cases h:j∈m<;>simp[h]
   rwa [e]at this
  obtain⟨S1,ao,T,V,h4,h5,p⟩:=Z i S w X C;rcases p with p|⟨a,rfl,_,p⟩
  .exfalso;rw[p]at d;simp at d;omega
  .rw[V]at z
   simp only[SV.c]at t;have q:=run_copy_row (P:=P) w dT sT o.type e (i id).g f len n a k T (SV.cs i l).toArray r news J hs M (by rw[d,I];simp) p (by rw[d];simp[A8];omega) (λu J=>y5.1 U u J);refine⟨True.intro,w.setRow (i id).g ((SV.cs i l).toArray.toList.take f++news++(SV.cs i l).toArray.toList.drop (f+news.length)).toArray,?_,⟨rfl,rfl,rfl,by simp,λk I=>MT w _ k _ I⟩,E,(ID w (i id).g _ _ _ _ M).trans ?_⟩
   .unfold execOp
    simp only[Y,resolve,invoke,builtin,Sem.run_bind,Sem.run_pure,Result.andThen_ok,List.map_toArray,List.map_cons,List.map_nil,t,z,q,SV.c,goInt,d]
   .simp[CP,A8,d,SV.c,uB0]
theorem Fa{G e:TypeId}{x:Operand}{E C:Option Operand}{a b n d:Nat}{l:List Value}{v v':Value}(M:o.op=.slice G x E C none)(i:AQ ops o s)(U:AE s x=.v v)
 (R:P.underlying G=some (.slice e))(O:∀w,(Go.sizeOf e).run P w=.ok d w)(N:Rdg w0 s.mem [] (.v v) n d l)
 (t:(match E with|none=>SV.v (.int .i64 (0:Nat))|some z=>AE s z)=.v (.int .i64 (a:Nat)))(r:(match C with|none=>SV.v (.int .i64 (n:Nat))|some z=>AE s z)=.v (.int .i64 (b:Nat)))(I:a<=b)(J:b<=n)(T:Ay a b d v=v'):
 Ev P ops w0 o s ⟨.v v',[],[],[],[]⟩:=by
 subst T;obtain⟨V,q⟩:=Jh M i U R O N t r I J;refine⟨rfl,.inr ⟨i,λy S w L K=> ?_⟩⟩;rcases q with⟨h,_⟩|⟨_,q⟩
 .have:=i y;rw[h y]at this;cases this
 .refine Or.imp ?_ (Or.imp ?_ ?_) (q y S w L K)
  .rintro⟨u,p,m,g,j,c⟩
   exact⟨u,p,m,g,j,⟨c.val,c.same,c.os,c.tape,c.output,c.size,c.block,c.good,c.sup,c.own,c.inj⟩⟩
  .rintro⟨p,m,g,j,c⟩
   exact⟨p,m,g,j,⟨c.val,c.same,c.os,c.tape,c.output,c.size,c.block,c.good,c.sup,c.own,c.inj⟩⟩
  .rintro⟨f,k,m,c⟩
   exact⟨f,k,m,c.mono λe p ⟨u,h5,g,j,h6⟩=>⟨u,h5,g,j,⟨h6.val,h6.same,h6.os,h6.tape,h6.output,h6.size,h6.block,h6.good,h6.sup,h6.own,h6.inj⟩⟩⟩
theorem HW{t:Array TypeId}{x y:Operand}{a b c:Nat}(j:o.op=.call {callee:=.builtin .min,args:=#[x,y],argTypes:=t})(f:AQ ops o s)(k:AE s x=.v (.int .i64 (a:Nat)))(l:AE s y=.v (.int .i64 (b:Nat)))(i:min a b=c):
 Ev P ops w0 o s ⟨.v (.int .i64 (c:Nat)),[],[],[],[]⟩:=
 Ev.run _ _ f λg S w n m=>by
  have d:=AI s g x;rw[k]at d;have e:=AI s g y;rw[l]at e;simp only[SV.c]at d e;subst i;unfold execOp;simp only[j,resolve,invoke,builtin,Sem.run_bind,Sem.run_pure,Result.andThen_ok,List.map_toArray,List.map_cons,List.map_nil,d,e,SV.c];by_cases h:a<=b
  .simp[Builtin.min_,Builtin.min2,Nat.min_eq_left h]
   omega
  .simp[Builtin.min_,Builtin.min2,Nat.min_eq_right (Nat.le_of_not_le h),h]
def be:Value->UInt8
 | .int _ z=>UInt8.ofNat z.toNat
 |_=>0
def Iu(l:List Value):ByteArray:=⟨(l.map be).toArray⟩
def P2:Value->Bool
 | .int .u8 _=>true
 |_=>false
theorem QQ{l:List Value}(h:l.all P2=true):∃c:List Int,l=c.map (Value.int .u8):=by
 induction l with
 |nil=>exact⟨[],rfl⟩
 |cons x l ih=>
  simp only[List.all_cons,yW]at h;obtain⟨c,rfl⟩:=ih h.2;have a:=h.1;unfold P2 at a;split at a
  .rename_i z;exact⟨z::c,rfl⟩
  .cases a
theorem aJ:∀(ns:List Int) (r:ByteArray),ns.foldl (λr n=>r.push (UInt8.ofNat n.toNat)) r=⟨r.data++(ns.map λn=>UInt8.ofNat n.toNat).toArray⟩
 | [],r=>by simp
 |n::ns,r=>by
  simp only[List.foldl_cons];rw[aJ ns];simp[ByteArray.push]
theorem ee(a:List Int):Iu (a.map (Value.int .u8))=a.foldl (λr n=>r.push (UInt8.ofNat n.toNat)) ByteArray.empty:=by
 rw[aJ];simp only[Iu,KK];congr 1
 simp[ByteArray.empty,ByteArray.emptyWithCapacity,uB0,be];rfl
theorem oY{i h e:TypeId}{x:Operand}{n:Nat}{l:List Value}{y:SV}{u:List Nat}(O:o.op=.convert i h x)(q:AQ ops o s)(U:AE s x=y)
 (T:P.underlying i=some (.slice e))(L:P.underlying e=some (.int .u8))(K:P.underlying h=some .string)(R:Rdg w0 s.mem u y n 1 l)(p:l.all P2=true):Ev P ops w0 o s ⟨.v (.string (Iu l)),[],[],[],u⟩:=
 Ev.run _ _ q λz S w J I=>by
  have m:=AI s z x;rw[U]at m;obtain⟨g,rfl⟩:=QQ p;obtain⟨_,k,f,C,X,E,d⟩:=R z S w J I;rw[C]at m
  have t:(convert i h (.slice k n f)).run P w=.ok (.string (Iu (g.map (Value.int .u8)))) w:=by
   rw[run_convert_bytes_string w i h e k n f T L K];cases k with
   |none=>
    have r:g=[]:=by
     rcases d with d|⟨a,d,_⟩
     .simpa using d
     .cases d
    subst r;simp[Conv.bytesToString,Iu];rfl
   |some a=>
    have N:(loadCells a n).run P w=.ok (g.map (Value.int .u8)).toArray w:=by
     have r:n=(g.map (Value.int .u8)).length:=by rw[E,yQ]
     rw[r];refine OR w a _ ?_;rcases d with d|⟨V,d,_,G⟩
     .rw[d];intro j v M;cases M
     .simp only[yT]at d;subst d;exact G
    rw[run_bytesToString w a n f g N,ee]
  simp only[execOp,O,m,SV.c];rw[Sem.run_bind,t];rfl
theorem Ev.newr(id:Nat)(l:List Value)(a:TypeId)(g:AQ ops o s)
 (h:∀ρ w,(execOp (s.act ρ).eval o).run P w=.ok (.value (.pointer (some ⟨w.heap.size,0,none⟩))) (w.alloc (.cells l.toArray a))):Ev P ops w0 o s ⟨.p id 0,[(id,.arr l a)],[],[id],[]⟩:=
 ⟨by simp[Eff.ok],.inr ⟨g,λρ S w e _=>.inl ⟨_,_,h ρ w,_,_,by
  have:=Cj (base:=w0.heap.size) (t:=s.mem) (ρ:=ρ) (S:=S) (w:=w) (w':=w.alloc (.cells l.toArray a)) (val:=.p id 0) (rd:=[]) (up:=[]) (id:=id) (b:=.arr l a) (m:=⟨w.heap.size,undef⟩) (S1:=λ_=>False)
   rfl rfl rfl (by simp) (λk f _=>DM w _ f) (λi d j=>by
    refine⟨by rw[d];exact e.size,?_⟩;rw[d];exact L7 w _) (λ_ h=>h.elim) (λ_=>.inr ⟨yD _,λh=>h⟩)
  simpa[SV.c] using this⟩⟩⟩
theorem NW{c:TypeId}{z:Value}{l:List Value}{id:Nat}(_hd:o.dst=some id)(e:o.op=.alloc c)(a:AQ ops o s)(f:∀w,(zeroValue c).run P w=.ok z w)(d:z.cells.toList=l):
 Ev P ops w0 o s ⟨.p id 0,[(id,.arr l c)],[],[id],[]⟩:=
 Ev.newr id _ _ a λg w=>by
  subst d;simp[execOp,e,Instr.alloc,newVar,newRow,newObj,Sem.run_bind,f,Result.andThen];rfl
theorem ae{e:TypeId}{x:Operand}{v:Value}{l:List Value}{id:Nat}(_hd:o.dst=some id)(g:o.op=.box e x)(a:AQ ops o s)(h:AE s x=.v v)(f:v.cells.toList=l):
 Ev P ops w0 o s ⟨.p id 0,[(id,.arr l e)],[],[id],[]⟩:=
 Ev.newr id _ _ a λi w=>by
  subst f;have d:=AI s i x;rw[h]at d;simp[execOp,g,d,Instr.box,newVar,newRow,newObj,Result.andThen,SV.c];rfl
theorem Jl{w:World}{l:List Value}{ty:TypeId}{g:Nat}(h:w.heap[g]? =some (.cells l.toArray ty (0,0))){i:Nat}{x:Value}(a:l[i]? =some x):w.cell? ⟨g,i,none⟩=some x:=by
 simp only[World.cell?,h];simp[a]
theorem aR{i:TypeId}{x:Operand}{id a n:Nat}{l:List Value}{q:TypeId}{d:TypeDesc}{vs:List Value}(C:o.op=.load i x)(h:AQ ops o s)(J:AE s x=.p id a)(z:s.mem id=some (.arr l q))
 (G:P.underlying i=some d)(t:Ba d=true)(E:∀w,(Go.sizeOf i).run P w=.ok n w)(I:(l.drop a).take n=vs)(y:vs.length=n):Ev P ops w0 o s ⟨.v (.agg vs.toArray),[],[],[],[id]⟩:=
 Ev.run _ _ h λm S w K r=>by
  have k:=AI s m x;rw[J]at k;have u:=(w4 r z (by simp)).2
  have e:(loadCells ⟨(m id).g,a,none⟩ vs.length).run P w=.ok vs.toArray w:=OR w _ vs λj v f=>by
   rw[Bd];refine Jl u ?_;rw[<-I,zP]at f;split at f
   .rwa [zQ]at f
   .cases f
  rw[y]at e;simp[execOp,C,k,SV.c,Instr.loadAt,Instr.sureAddr,loadVar,Bp G,t,E,e]
theorem NT{g:TypeId}{x:Operand}{id a:Nat}{l:List Value}{h:TypeId}{d:TypeDesc}{v:Value}(n:o.op=.load g x)(e:AQ ops o s)(t:AE s x=.p id a)(m:s.mem id=some (.arr l h))
 (q:P.underlying g=some d)(k:Ba d=false)(r:l[a]? =some v):Ev P ops w0 o s ⟨.v v,[],[],[],[id]⟩:=
 Ev.run _ _ e λu S w y i=>by
  have f:=AI s u x;rw[t]at f;have j:=Jl (w4 i m (by simp)).2 r;simp[execOp,n,f,SV.c,Instr.loadAt,Instr.sureAddr,loadVar,Bp q,k,j]
theorem Et{C:TypeId}{x y:Operand}{id a n:Nat}{l l':List Value}{e:TypeId}{v:Value}(K:o.op=.store C x y)(i:AQ ops o s)(N:AE s x=.p id a)(t:s.mem id=some (.arr l e))(O:AE s y=.v v)
 (L:∀w,(Go.sizeOf C).run P w=.ok n w)(z:v.cells.size=n)(q:a+n<=l.length)(E:v.cells.toList.all (·.oneCell')=true)(J:l.take a++v.cells.toList++l.drop (a+n)=l'):
 Ev P ops w0 o s ⟨.v undef,[(id,.arr l' e)],[id],[],[id]⟩:=
 Ev.wr id _ _ _ _ i t (by simp) (λ_=>by simp[SV.c]) λd S w R G=>by
  have m:=AI s d x;rw[N]at m;have f:=AI s d y;rw[O]at f;simp only[SV.c]at f;obtain⟨h,r⟩:=w4 G t (by simp);have j:=run_storeCells_at P (d id).g a e v.cells.toList 0 l.toArray w r (by simp;omega) (λu M=>y5.1 E u M);refine⟨True.intro,w.setRow (d id).g (l.toArray.toList.take (a+0)++v.cells.toList++l.toArray.toList.drop (a+0+v.cells.toList.length)).toArray,?_,⟨rfl,rfl,rfl,by simp,λk I=>MT w _ k _ I⟩,h,?_⟩
  .simp only[execOp,K,m,f,SV.c,Instr.storeAt,Instr.sureAddr,storeVar]
   rw[Sem.run_bind,Sem.run_bind,Sem.run_pure,Result.andThen_ok,Sem.run_bind,L,Result.andThen_ok,x8 (by rw[z];simp),j];rfl
  .rw[ID w (d id).g _ _ _ _ r,<-J]
   simp[z]
theorem hU{m:Mem}{id off len cap size:Nat}{b:List Value}{p:TypeId}{l:List Value}(h:m id=some (.arr b p))(j:(b.drop off).take (len*size)=l)(n:l.length=len*size)(f:len<=cap):Rdg w0 m [id] (.s id off len cap) len size l:=λd S w _ e=>by
 refine⟨λk=>k=(d id).g,_,cap,by simp only[SV.c],f,n,.inr ⟨⟨(d id).g,off,none⟩,rfl,rfl,?_⟩⟩;intro i x a;rw[Bd];refine Jl (w4 e h (by simp)).2 ?_;rw[<-j,zP]at a;split at a
 .rwa [zQ]at a
 .cases a
theorem KC{p i id a n:Nat}{l:List Value}{k:TypeId}{d:TypeDesc}{vs:List Value}(h:AE s (.tmp p)=.p id a)(t:s.mem id=some (.arr l k))(x:P.underlying i=some d)(m:Ba d=true)(u:∀w,(Go.sizeOf i).run P w=.ok n w)
 (y:(l.drop a).take n=vs)(r:vs.length=n):RV P w0 s (.cell p i) (.v (.agg vs.toArray)):=λC w z=>by
 obtain⟨_,_,q⟩:=L2 z t
 have e:(loadCells ⟨(C id).g,a,none⟩ vs.length).run P w=.ok vs.toArray w:=OR w _ vs λj v f=>by
  rw[Bd];refine Jl q ?_;rw[<-y,zP]at f;split at f
  .rwa [zQ]at f
  .cases f
 rw[r]at e;simp only[DW,Gy,h,SV.c];simp[asAddr,loadVar,Bp x,m,u,e]
end
def Cm:Nat->Code->Code
 |0,c=>c
 |n+1,.seq _ d=>Cm n d
 |_+1,c=>c
def Ct(f:Func):Code:=f.body.getD .skip
def QB(P:Program)(f:Func)(w:World)(R:Ending->World->Prop):Exit->VS->Prop:=λe a=> ∀d c,Rel w d a c->bodyPost P f R e (a.act d) c
def B0(keep:Nat->Bool)(f:Nat->Value):Nat->List SV->List SV
 |_,[]=>[]
 |i,x::l=>(if keep i then x else .v (f i))::B0 keep f (i+1) l
theorem Je(keep:Nat->Bool)(ρ:Nat->Nm)(f:Nat->Value):∀(l:List SV) (i:Nat),(∀j x,l[j]? =some x->f (i+j)=x.c ρ)->(B0 keep f i l).map (SV.c ρ)=l.map (SV.c ρ)
 | [],_,_=>rfl
 |x::l,i,h=>by
  simp only[B0,List.map_cons];rw[Je keep ρ f l (i+1) (λj y hj=>by have:=h (j+1) y (by simpa using hj);rw[<-this];congr 1;omega)];congr 1
  split
  .rfl
  .simp only[SV.c];exact h 0 x rfl
theorem Jw(g:Nat->Bool)(a:List Nat){P:Program}{w0:World}{c:Code}{p:List SV}{m:List (Nat×Blk)}{Q:Exit->VS->Prop}(h:∀f,VOk P w0 ⟨B0 g f 0 p,AJ (BQ m a)⟩ c Q):VOk P w0 ⟨p,AJ m⟩ c Q:=by
 intro q w R I C;have z:=h (λi=>((p[i]?).getD (.v undef)).c q) q w R ?_ C
 .have e:(⟨B0 g (λi=>((p[i]?).getD (.v undef)).c q) 0 p,AJ (BQ m a)⟩:VS).act q=(⟨p,AJ m⟩:VS).act q:=by
   simp only[VS.act];rw[Je g q _ p 0 (λj x t=>by simp[t])]
  rw[e]at z;exact z
 .obtain⟨E,S,r⟩:=I
  have l:∀id b,AJ (BQ m a) id=some b->AJ m id=some b:=λid b d=>by
   rw[S3]at d;split at d
   .cases d
   .exact d
  have n:∀id,(AJ (BQ m a) id).isSome->(AJ m id).isSome:=λid d=>by
   obtain⟨b,d⟩:=IF.1 d;rw[l id b d];rfl
  exact⟨E,S,⟨λid b d=>r.good id b (l id b d),λid k d=>r.lt id k (n id d),λid k d=>r.fr id k (n id d),λi b j u y t=>r.dis i b j (l i b u) y (n j t),λi b j c u y t G=>r.inj i b j c (l i b u) y (l j c t) G⟩⟩
end Go.Vx
namespace Go.Vx
open Go.RowKit Go.Toll Go.ChangeShapes Go.WideShapes
section
variable{H:Type}{enc:TypeId×Value->H}{P:Program}{W W':World}
theorem ff(h:Bw W W'){p:MemPlace}(c:p.block<W.heap.size):W.sameAt W' p:=by
 cases p with
 |cell b off=>exact World.cell?_of_block (w:=W) (a:=⟨b,off,none⟩) (h.block b c)
 |map b=>exact h.block b c
theorem VK{c:Nat}{j:Nat->Bool}{e:Bool}:∀{k:List TypeId} {l:List Value} {i:List (DataW H)} {g:List MemPlace},DataW.TrodAll enc P W c j e k l i g->(∀p∈g,W.sameAt W' p)->DataW.TrodAll enc P W' c j e k l i g
 | [],_,_,_,h,_=>by
   obtain⟨rfl,rfl,rfl⟩:=trodAll_nil h;exact trodAll_mk0
 |_::_,_,_,_,h,hs=>by
  obtain⟨v,t,d,m,a,b,rfl,rfl,rfl,⟨n,q⟩,r⟩:=trodAll_cons h;exact⟨a,b,⟨n,DataW.trod_carry n _ _ _ q λp f=>hs p (List.mem_append_left _ f)⟩,VK r λp f=>hs p (List.mem_append_right _ f),rfl⟩
structure Plain(P:Program):Prop where
 laid:laidOutB P=true
 maps:mapsRowed P=true
 full:((List.range P.types.size).all λt=>match P.underlying t with|some (.slice e)=>decide (0<P.cellsOf e)|_=>true)=true
theorem rf(a:Plain P){c:List TypeId}{f:List Value}{d:List (DataW H)}{p:List MemPlace}(g:(c.all λt=>decide (t<P.types.size))=true)(h:DataW.TrodAll enc P W 0 (λ_=>true) true c f d p)(i:Bw W W')
 (e:Nat->Bool)(k:∀q∈p,e q.block=true):DataW.TrodAll enc P W' 0 e true c f d p:=
 DataW.TrodAll.respare (kids_rows a.laid a.maps) (slices_full_of P a.full) (λt l=>by have:=y5.1 g t l;simpa using this)
  (VK h λq j=>ff i (h.lt q j)) k
theorem Xi(X:Plain P){f:Func}{s:ChangeSpec}{T u h n:Bool}{g:Array Value}{v:Value}{k z:List (DataW H)}{c:List MemPlace}
 (Y:(f.params.toList.all λt=>decide (t<P.types.size))=true)
 (J:DataW.Whole enc P f.params.toList s.vars T W g.toList k z c)(I:s.vars=[])
 (m:∀(b:Nat) (i:Nat->Bool) (hd:Bool),DataW.TrodAll enc P W' b i hd f.resultTypes.toList (v.resultList f.resultTypes.size) (s.fn H (k++z)).results [])
 (x:(s.fn H (k++z)).args=k)(S:(s.fn H (k++z)).vars=[])(M:Bw W W')
 (R:∀(j:Nat) (t:TypeId) (r:Value),f.resultTypes[j]? =some t->(v.resultList f.resultTypes.size)[j]? =some r->Value.okWide P W' .any 0 t r):
 s.post enc P f T u h n W g v W':=by
 have C:∀p∈c,(λb=>decide (b<W.heap.size)) p.block=true:=λp l=>by simpa using J.lt p l
 have O:=J.lt;have L:=J;obtain⟨p,q,V,U,G,hz,hn⟩:=L
 have K:z=[]/\q=[]:=by
  rw[I]at U;exact trodVars_none U
 obtain⟨rfl,rfl⟩:=K;rw[List.append_nil]at G;subst G
 have d:∀i:Nat->Bool,(∀q∈c,i q.block=true)->DataW.TrodAll enc P W' 0 i true f.params.toList g.toList (s.fn H (k++[])).args c:=λi hs=>by
  rw[x];exact rf X Y V M i hs
 have e:∀i:Nat->Bool,DataW.TrodVars enc P W' i s.vars (s.fn H (k++[])).vars []:=λi=>by
  rw[S,I];exact rfl
 refine⟨k,[],c,[],c,[],J,m _ _ _,d _ C,e _,World.keptBut_mono (λp l=>⟨l,Or.inr (Or.inl l)⟩) (M.frame _),λ_=> ?_⟩;refine⟨R,_,_,([]++c)++[],⟨[]++c,[],trodAll_append (d _ (λ_ _=>rfl)) (m _ _ _),e _,rfl,?_,?_⟩,?_⟩
 .intro b y l
  have E:MemPlace.cell b y∈c:=by simpa using l
  have N:=O _ E;have:=hz b y (by simpa using E);rw[World.frozen?_of_block (w:=W) (a:=⟨b,y,none⟩) (M.block b N)];exact this
 .intro Z
  have:=hn Z;simpa using this
 .intro p l _
  simpa using l
end
end Go.Vx
namespace Go.Vx
open Go.RowKit Go.Toll
section
variable{P:Program}{w0:World}
def DD(w0:World)(s:VS)(B:(Nat->Value)->VS):Prop:= ∀c w,Rel w0 c s w-> ∃f a,Rel w0 a (B f) w/\(B f).act a=s.act c
theorem VOk.weak{s:VS}{B:(Nat->Value)->VS}{c:Code}{Q:Exit->VS->Prop}(j:DD w0 s B)(h:∀f,VOk P w0 (B f) c Q):VOk P w0 s c Q:=λk w R i g=>by
 obtain⟨f,a,d,e⟩:=j k w i;rw[<-e];exact h f a w R d g
theorem VOk.mono{s:VS}{c:Code}{Q f:Exit->VS->Prop}(h:VOk P w0 s c Q)(k:∀e a,Q e a->f e a):VOk P w0 s c f:=λn w R l j=>
 h n w R l λe d a m g i=>j e d a m (k e a g) i
theorem DD.trans{s:VS}{B C:(Nat->Value)->VS}(h:DD w0 s B)(k:∀f,DD w0 (B f) C):DD w0 s C:=λm w l=>by
 obtain⟨f,a,d,e⟩:=h m w l;obtain⟨g,c,i,j⟩:=k f a w d;exact⟨g,c,i,j.trans e⟩
theorem Qv{s:VS}{B:(Nat->Value)->VS}(f:Nat->Value)(h:B f=s):DD w0 s B:=λc w a=>⟨f,c,by rw[h];exact a,by rw[h]⟩
def sV(w0:World){α:Type}(A:α->(Nat->Value)->VS)(μ:α->Nat)(x:α)(Q:Exit->VS->Prop):Exit->VS->Prop
 | .normal,s'=> ∃x',μ x'<μ x/\DD w0 s' (A x')
 |e,s'=>Q e s'
theorem Bo{α:Type}(A:α->(Nat->Value)->VS)(g:α->Nat){c:Code}{Q:Exit->VS->Prop}(a:∀x f,VOk P w0 (A x f) c (sV w0 A g x Q))(x:α){s:VS}(h:DD w0 s (A x)):VOk P w0 s (.loop c) Q:=by
 have l:∀N x s,g x<=N->DD w0 s (A x)->Ia P w0 c Q (N+1) s:=by
  intro N
  induction N with
  |zero=>
   intro x s p i;refine VOk.weak i λf=>(a x f).mono λe m d=> ?_
   cases e with
   |normal=>obtain⟨n,k,_⟩:=d;omega
   |_=>exact d
  |succ N ih=>
   intro x s p i;refine VOk.weak i λf=>(a x f).mono λe m d=> ?_
   cases e with
   |normal=>obtain⟨n,k,j⟩:=d;exact ih n m (by omega) j
   |_=>exact d
 exact Br (g x+1) (l (g x) x s (yD _) h)
theorem Ar(h:Nat->Bool)(d:List Nat){p:List SV}{m:List (Nat×Blk)}:DD w0 ⟨p,AJ m⟩ (λf=>⟨B0 h f 0 p,AJ (BQ m d)⟩):=λt w z=>by
 refine⟨λi=>((p[i]?).getD (.v undef)).c t,t,?_,?_⟩
 .obtain⟨u,S,l⟩:=z
  have e:∀id b,AJ (BQ m d) id=some b->AJ m id=some b:=λid b a=>by
   rw[S3]at a;split at a
   .cases a
   .exact a
  have g:∀id,(AJ (BQ m d) id).isSome->(AJ m id).isSome:=λid a=>by
   obtain⟨b,a⟩:=IF.1 a;rw[e id b a];rfl
  exact⟨u,S,⟨λid b a=>l.good id b (e id b a),λid k a=>l.lt id k (g id a),λid k a=>l.fr id k (g id a),λi b j q r n=>l.dis i b j (e i b q) r (g j n),λi b j c q r n y=>l.inj i b j c (e i b q) r (e j c n) y⟩⟩
 .simp only[VS.act]
  rw[Je h t _ p 0 (λj x n=>by simp[n])]
mutual
def SV.ren(o n:Nat):SV->SV
 | .v x=>.v x
 | .p k off=>.p (if k=o then n else k) off
 | .s k off len cap=>.s (if k=o then n else k) off len cap
 | .d k=>.d (if k=o then n else k)
 | .fn f x=>.fn f (SV.ren o n x)
 | .agg l=>.agg (SV.renL o n l)
 | .tup l=>.tup (SV.renL o n l)
def SV.renL(o n:Nat):List SV->List SV
 | []=>[]
 |x::l=>SV.ren o n x::SV.renL o n l
end
def Blk.ren(o n:Nat):Blk->Blk
 | .cells l ty=>.cells (SV.renL o n l) ty
 | .pin j g=>.pin (if j=o then n else j) g
 |b=>b
mutual
theorem WK{o n:Nat}{g:Nat->Nm}:∀{x:SV},x.has n=false->(x.ren o n).c (λk=>if k=n then g o else g k)=x.c g
 | .v _,_=>by simp[SV.ren,SV.c]
 | .p k _,h=>by
   have a:k≠n:=by simpa[SV.has] using h
   by_cases e:k=o<;>simp[SV.ren,SV.c,e,a]
 | .s k _ _ _,h=>by
   have a:k≠n:=by simpa[SV.has] using h
   by_cases e:k=o<;>simp[SV.ren,SV.c,e,a]
 | .d k,h=>by
   have a:k≠n:=by simpa[SV.has] using h
   by_cases e:k=o<;>simp[SV.ren,SV.c,e,a]
 | .fn f x,h=>by
   simp only[SV.ren,SV.c];rw[WK (x:=x) (by simpa[SV.has] using h)]
 | .agg l,h=>by simp only[SV.ren,SV.c];rw[L1 (x:=l) (by simpa[SV.has] using h)]
 | .tup l,h=>by simp only[SV.ren,SV.c];rw[L1 (x:=l) (by simpa[SV.has] using h)]
theorem L1{o n:Nat}{ρ:Nat->Nm}:∀{x:List SV},SV.hasL n x=false->SV.cs (λk=>if k=n then ρ o else ρ k) (SV.renL o n x)=SV.cs ρ x
 | [],_=>by simp[SV.renL,SV.cs]
 |y::l,h=>by
  simp only[SV.hasL,uC1]at h;simp only[SV.renL,SV.cs];rw[WK (x:=y) h.1,L1 (x:=l) h.2]
end
def Gb(o n:Nat):List (Nat×Blk)->List (Nat×Blk)
 | []=>[]
 |(k,b)::l=>(if k=o then n else k,b.ren o n)::Gb o n l
theorem Yl{o n:Nat}(e:o≠n):∀{l:List (Nat×Blk)},l.all (λx=>x.1 !=n)=true-> ∀k,AJ (Gb o n l) k=if k=n then(AJ l o).map (Blk.ren o n)else if k=o then none else(AJ l k).map (Blk.ren o n)
 | [],_,k=>by simp[Gb,AJ]
 |(j,b)::l,h,k=>by
  simp only[List.all_cons,yW]at h;have i:j≠n:=by simpa using h.1
  have g:=Yl e h.2 k;simp only[Gb,AJ];by_cases d:j=o
  .subst d
   simp only[zG];by_cases a:k=n
   .simp[a]
   .rw[x8 a,g,x8 a,x8 a]
    by_cases c:k=j
    .simp[c]
    .simp[c]
  .simp only[x8 d]
   by_cases a:k=j
   .subst a;simp[d,i]
   .rw[x8 a,g]
    by_cases c:k=n
    .simp only[c,zG]
     rw[x8 (Ne.symm d)]
    .simp only[x8 c]
     by_cases f:k=o
     .simp[f]
     .simp[f,a]
theorem Dk(o n:Nat){O:List SV}{m:List (Nat×Blk)}(N:o≠n)(X:G0 O m n=true):DD w0 ⟨O,AJ m⟩ (λ_=>⟨SV.renL o n O,AJ (Gb o n m)⟩):=λρ w hr=>by
 obtain⟨hn,Y,K⟩:=NM X
 have I:m.all (λx=>x.1 !=n)=true:=by
  simp only[G0,yW]at X;refine y5.2 λx Z=> ?_
  have:=y5.1 X.2 x Z;simp only[yW]at this;exact this.1
 obtain⟨hb,S,G⟩:=hr;have t:=Yl (o:=o) (n:=n) N I
 have f:∀id b,AJ (Gb o n m) id=some b-> ∃d p,AJ m d=some p/\b=p.ren o n/\(if id=n then o else id)=d/\d≠n:=by
  intro id b h;rw[t]at h;split at h
  .rename_i e
   cases q:AJ m o with
   |none=>rw[q]at h;cases h
   |some p=>rw[q]at h;simp only[AT,yT]at h;exact⟨o,p,q,h.symm,by rw[x9 e],N⟩
  .rename_i e
   split at h
   .cases h
   .cases q:AJ m id with
    |none=>rw[q]at h;cases h
    |some p=>rw[q]at h;simp only[AT,yT]at h;exact⟨id,p,q,h.symm,by rw[x8 e],e⟩
 have C:∀id,(if id=n then ρ o else ρ id)=ρ (if id=n then o else id):=λid=>by split<;>rfl
 refine⟨λ_=>undef,λk=>if k=n then ρ o else ρ k,⟨hb,λk=>if k=n then S o else S k,?_⟩,?_⟩
 .have R:∀id,(if id=n then S o else S id)=S (if id=n then o else id):=λid=>by split<;>rfl
  have u:∀(p:Blk) (a:Nm),(p.ren o n).owns a↔p.owns a:=λp a=>by cases p<;>exact Iff.rfl
  refine⟨?_,?_,?_,?_,?_⟩
  .intro id b h
   obtain⟨d,p,q,rfl,e,_⟩:=f id b h;have r:=G.good d p q;simp only[R,e];have v:(if id=n then ρ o else ρ id)=ρ d:=by rw[C,e]
   cases p with
   |cells l ty=>
    simp only[Blk.ren,CR,v]at r⊢;refine⟨r.1,r.2.trans ?_⟩;simp only[CP];rw[L1 (by have:=K d _ q;simpa[Blk.has] using this)]
   |row n' size ty D=>simp only[Blk.ren,CR,v]at r ⊢; exact r
   |dat D=>simp only[Blk.ren,CR,v]at r ⊢; exact r
   |arr l ty=>simp only[Blk.ren,CR,v]at r ⊢; exact r
   |floor k=>exact r
   |pin j g=>
    have z:j≠n:=by
     have:=K d _ q;simpa[Blk.has,SV.hasL,SV.has] using this
    simp only[Blk.ren,CR]at r⊢;by_cases U:j=o
    .rw[x9 U,x9 rfl,<-U];exact r
    .rw[x8 U,x8 z];exact r
  .intro id k h J
   obtain⟨b,h⟩:=IF.1 h;obtain⟨d,p,q,rfl,e,_⟩:=f id b h;simp only[R,e]at J;exact G.lt d k (by show(AJ m _).isSome=true;rw[q];rfl) J
  .intro id k h J
   obtain⟨b,h⟩:=IF.1 h;obtain⟨d,p,q,rfl,e,_⟩:=f id b h;simp only[R,e]at J;exact G.fr d k (by show(AJ m _).isSome=true;rw[q];rfl) J
  .intro i b j T L z
   obtain⟨c,z⟩:=IF.1 z;obtain⟨i0,p,q,rfl,e,_⟩:=f i b T;obtain⟨j0,c0,V,rfl,y,_⟩:=f j c z;simp only[R,C,e,y]at L⊢;exact G.dis i0 p j0 q ((u _ _).1 L) (by show(AJ m _).isSome=true;rw[V];rfl)
  .intro i b j c T L z M r
   obtain⟨i0,p,q,rfl,e,a0⟩:=f i b T;obtain⟨j0,c0,V,rfl,y,a1⟩:=f j c z;simp only[C,e,y]at L M r;have:=G.inj i0 p j0 c0 q ((u _ _).1 L) V ((u _ _).1 M) r;subst this;by_cases E:i=n<;>by_cases v:j=n
   .rw[E,v]
   .rw[x9 E]at e;rw[x8 v]at y
    exfalso;have:=t j;rw[x8 v,x9 (by rw[y,<-e])]at this;rw[show AJ (Gb o n m) j=some _ from z]at this;cases this
   .rw[x8 E]at e;rw[x9 v]at y
    exfalso;have:=t i;rw[x8 E,x9 (by rw[e,<-y])]at this;rw[show AJ (Gb o n m) i=some _ from T]at this;cases this
   .rw[x8 E]at e;rw[x8 v]at y;rw[e,y]
 .simp only[VS.act]
  have:=L1 (o:=o) (n:=n) (ρ:=ρ) (x:=O) (by rw[P4];exact List.any_eq_false.2 λx Z=>by rw[Y x Z];simp);rw[A8,A8]at this;rw[this]
def Bg:Value:=.slice none 0 0
def Blk.sim(ρ:Nat->Nm):Blk->Blk->Prop
 | .cells l t,.cells l' t'=>SV.cs ρ l=SV.cs ρ l'/\t=t'
 |b,b'=>b=b'
def JG(ρ:Nat->Nm):List (Nat×Blk)->List (Nat×Blk)->Prop
 | [],[]=>True
 |(k,b)::l,(k',b')::l'=>k=k'/\Blk.sim ρ b b'/\JG ρ l l'
 |_,_=>False
theorem Yk{f:Nat->Nm}:∀{l d:List (Nat×Blk)},JG f l d-> ∀{k:Nat} {a:Blk},AJ d k=some a-> ∃b,AJ l k=some b/\Blk.sim f b a
 | [],[],_,_,_,h=>by cases h
 |(j,b)::l,(j',a)::d,hs,k,c,h=>by
  obtain⟨rfl,i,m⟩:=hs;simp only[AJ]at h⊢;split at h
  .rename_i e;injection h with h;subst h;exact⟨b,by rw[x9 e],i⟩
  .rename_i e;obtain⟨g,n,p⟩:=Yk m h;exact⟨g,by rw[x8 e];exact n,p⟩
 | [],_::_,hs,_,_,_=>hs.elim
 |_::_,[],hs,_,_,_=>hs.elim
theorem Rl{d:Nat->Nm}{b c:Blk}(h:Blk.sim d b c)(a:Nm):c.owns a↔b.owns a:=by
 cases b<;>cases c<;>simp_all [Blk.sim,Blk.owns]
theorem N1(id:Nat)(q:Nat)(T:TypeId)(D:Dat)(hD:∀w,D.holds [] w λ_=>False){V I:List SV}{m m':List (Nat×Blk)}(hf:G0 V m id=true)(a1:m'.all (λx=>x.1 !=id)=true)
 (Y:∀r:Nat->Nm,(r id).val=Bg->SV.cs r I=SV.cs r V)(a0:∀r:Nat->Nm,(r id).val=Bg->JG r m m'):DD w0 ⟨V,AJ m⟩ (λ_=>⟨I,AJ ((id,.row 0 q T D)::m')⟩):=λr w hr=>by
 obtain⟨hn,X,L⟩:=NM hf;obtain⟨hb,S,K⟩:=hr;obtain⟨ρ',u⟩:∃ρ':Nat->Nm,ρ'=λk=>if k=id then⟨0,Bg⟩else r k:=⟨_,rfl⟩
 have G:(ρ' id).val=Bg:=by rw[u];simp
 have C:∀k,k∉[id]->ρ' k=r k:=λk z=>by rw[u];simp at z;simp[z]
 have O:=a0 ρ' G
 have a:∀k b,AJ ((id,Blk.row 0 q T D)::m') k=some b->(k=id/\b=.row 0 q T D)\/(k≠id/\ ∃f,AJ m k=some f/\Blk.sim ρ' f b):=by
  intro k b h;simp only[AJ]at h;split at h
  .rename_i e;injection h with h;exact .inl ⟨e,h.symm⟩
  .rename_i e;exact .inr ⟨e,Yk O h⟩
 refine⟨λ_=>undef,ρ',⟨hb,λk=>if k=id then λ_=>False else S k,?_⟩,?_⟩
 .refine⟨?_,?_,?_,?_,?_⟩
  .intro k b h
   rcases a k b h with⟨rfl,rfl⟩|⟨e,f,n,E⟩
   .simp only[zG]
    exact⟨[],by simp,hD w,.inl ⟨by rw[G];rfl,rfl⟩⟩
   .simp only[x8 e]
    have R:=(K.good k f n).keep (ρ':=ρ') (C k (by simpa using e)) (λl T y=>GI C λj d=>by
     simp at d;subst d
     have:=L k f n;rw[y]at this;exact this) (λj g y=>C j (by
      simp only[RK];rintro rfl;have:=L k f n;rw[y]at this;simp[Blk.has,SV.hasL,SV.has]at this)) (yD _) (λ_ _=>rfl) (λ_=>rfl)
    cases f<;>cases b<;>simp_all [Blk.sim,CR,CP]
  .intro k j h d
   obtain⟨b,h⟩:=IF.1 h;rcases a k b h with⟨rfl,rfl⟩|⟨e,f,n,E⟩
   .simp at d
   .simp only[x8 e]at d;exact K.lt k j (by show(AJ m _).isSome=true;rw[n];rfl) d
  .intro k j h d
   obtain⟨b,h⟩:=IF.1 h;rcases a k b h with⟨rfl,rfl⟩|⟨e,f,n,E⟩
   .simp at d
   .simp only[x8 e]at d;exact K.fr k j (by show(AJ m _).isSome=true;rw[n];rfl) d
  .intro i b j Z M d z
   obtain⟨c,d⟩:=IF.1 d;rcases a i b Z with⟨rfl,rfl⟩|⟨e,f,n,E⟩
   .exact M G
   .rcases a j c d with⟨rfl,rfl⟩|⟨U,c0,v,J⟩
    .simp at z
    .simp only[x8 U]at z
     have p:=(Rl E _).1 M;rw[C i (by simpa using e)]at p z;exact K.dis i f j n p (by show(AJ m _).isSome=true;rw[v];rfl) z
  .intro i b j c Z M d N R
   rcases a i b Z with⟨rfl,rfl⟩|⟨e,f,n,E⟩
   .exact absurd G M
   .rcases a j c d with⟨rfl,rfl⟩|⟨U,c0,v,J⟩
    .exact absurd G N
    .have p:=(Rl E _).1 M
     have t:=(Rl J _).1 N;rw[C i (by simpa using e)]at p R;rw[C j (by simpa using U)]at t R;exact K.inj i f j c0 n p v t R
 .simp only[VS.act]
  rw[<-A8,<-A8,Y ρ' G]
  rw[GI C λj d=>by
   simp at d;subst d;rw[P4];exact List.any_eq_false.2 λx hx=>by rw[X x hx];simp]
end
end Go.Vx
namespace Go.Vx
open Go.RowKit Go.Toll
section
variable{P:Program}{w0:World}{ops:Array Oper}{o:Oper}{s:VS}
theorem aa{f:FuncId}{cx:Operand}{a d:Array Value}{xs:Array Operand}{ats:Array TypeId}{j:List Value}{v:Value}(q:o.op=.call {callee:=.value cx,args:=xs,argTypes:=ats})(i:AQ ops o s)
 (h:AE s cx=.v (.func (.func f) a d))(r:unV (xs.toList.map (AE s))=some j)(p:∀args w,(callFunc f args).run P w=.ok (.enter f args) w)
 (n:∀w,Bw w0 w->Calls P f (a++j.toArray++d) w λe t=>e=.returned v/\Bw w t):Ev P ops w0 o s ⟨.v v,[],[],[],[]⟩:=
 Ev.call f (λ_=>a++j.toArray++d) (.v v) [] i (λk w=>by
  have g:=AI s k cx;rw[h]at g;simp only[SV.c]at g;unfold execOp;simp only[q,resolve,g,Deferred.ofValue,G8 r,Sem.run_bind,Sem.run_pure,Result.andThen_ok,invoke];exact p _ w) λk _ w m _=>(n w m).mono λ_ _ ⟨l,h2⟩=>⟨by rw[l];simp[SV.c],h2⟩
def Nn(f:FuncId)(v:Value):Value:=.func (.func f) #[] #[v]
theorem oI{f:FuncId}{x:Operand}{y:SV}(e:o.op=.makeFunc (.func f) #[] #[x])(a:AQ ops o s)(g:AE s x=y):Ev P ops w0 o s ⟨.fn (Nn f) y,[],[],[],[]⟩:=
 Ev.run _ _ a λh S w j i=>by
  have d:=AI s h x;rw[g]at d;simp[execOp,e,d,SV.c,Instr.makeFunc,Nn]
theorem LF{t:TypeId}{x:Operand}{a n i k:Nat}{l e:List Value}{y:SV}{z:List Nat}{d:TypeDesc}(L:o.op=.load t x)(q:AQ ops o s)(R:AE s x=.fn (FK a) y)
 (O:P.underlying t=some d)(K:Ba d=true)(N:∀w,(Go.sizeOf t).run P w=.ok k w)(M:Rdg w0 s.mem z y n i l)(p:(l.drop a).take k=e)(r:e.length=k)(X:0<k):Ev P ops w0 o s ⟨.v (.agg e.toArray),[],[],[],z⟩:=
 Ev.run _ _ q λC S w J I=>by
  have u:=AI s C x;rw[R]at u;obtain⟨_,T,E,G,U,V,f⟩:=M C S w J I;rcases f with f|⟨g,rfl,_,f⟩
  .rw[f]at p;simp at p;rw[p]at r;simp at r;omega
  .have h:(loadCells (g.add a) e.length).run P w=.ok e.toArray w:=OR w _ e λj v m=>by
    rw[Uf];refine f _ v ?_;rw[<-p,zP]at m;split at m
    .rwa [zQ]at m
    .cases m
   rw[r]at h;simp[execOp,L,u,SV.c,G,FK,Instr.loadAt,Instr.sureAddr,loadVar,Bp O,K,N,h]
theorem oK{t:TypeId}{x:Operand}{b:ByteArray}(e:o.op=.call {callee:=.builtin .len,args:=#[x],argTypes:=#[t]})(a:AQ ops o s)(g:AE s x=.v (.string b))(f:P.underlying t=some .string):Ev P ops w0 o s ⟨.v (.int .i64 (b.size:Nat)),[],[],[],[]⟩:=
 Ev.run _ _ a λh S w j i=>by
  have d:=AI s h x;rw[g]at d;simp[execOp,e,resolve,invoke,builtin,d,Builtin.len_,yU f,SV.c,goInt]
theorem oN{t:TypeId}{x d:Operand}{b:ByteArray}{k:Nat}{n:IntKind}{c:UInt8}(j:o.op=.index t x d)(a:AQ ops o s)(m:AE s x=.v (.string b))(i:AE s d=.v (.int n (k:Nat)))(l:P.underlying t=some .string)(h:b[k]? =some c):Ev P ops w0 o s ⟨.v (.int .u8 (c.toNat:Nat)),[],[],[],[]⟩:=
 Ev.run _ _ a λg S w q p=>by
  have e:=AI s g x;rw[m]at e;have f:=AI s g d;rw[i]at f;simp[execOp,j,e,f,SV.c,Instr.index,asIntOf,yU l,h]
def Ae(w a:World)(v:Value)(D:Dat):Prop:= ∃S,D.holds [v] a S/\ ∀k,S k->w.heap.size<=k/\k<a.heap.size
theorem Xz{base:Nat}{t:Mem}{ρ:Nat->Nm}{S:Nat->Nat->Prop}{w a:World}{val:SV}{rd:List Nat}{id:Nat}{D:Dat}{v:Value}{d:Nat->Prop}(h:Bw w a)(g:D.holds [v] a d)(i:∀k,d k->w.heap.size<=k/\k<a.heap.size):
 Out base t ρ S w ⟨val,[(id,.dat D)],[],[id],rd⟩ (val.c λk=>if k=id then⟨0,v⟩else ρ k) (λk=>if k=id then⟨0,v⟩else ρ k) (λ_=>d) a:=
 Cj h.os h.tape h.output h.size (λk e _=>h.block k e) (λl f _=>by simp only[CR,f];exact g) (λk e=>.inr (i k e)) (λj=>j.elim)
theorem Al{f:FuncId}{xs:Array Operand}{ats:Array TypeId}{a:List SV}{id:Nat}{D:Dat}(rd:List Nat)(_hd:o.dst=some id)(j:o.op=.call {callee:=.value (.func f),args:=xs,argTypes:=ats})(h:AQ ops o s)
 (r:xs.toList.map (AE s)=a)(q:∀args w,(callFunc f args).run P w=.ok (.enter f args) w)
 (p:∀ρ S w,Bw w0 w->RelOn w0.heap.size ρ S w (restr rd s.mem)->Calls P f (SV.cs ρ a).toArray w λe i=> ∃v,e=.returned v/\Ae w i v D/\Bw w i):Ev P ops w0 o s ⟨.d id,[(id,.dat D)],[],[id],rd⟩:=
 ⟨by simp[Eff.ok],.inr ⟨h,λρ S w n m=>.inr (.inr ⟨f,(SV.cs ρ a).toArray,by
  obtain⟨l,x,k,u,g,guard⟩:=o;simp only at j;subst j;rw[DH,G7,r,<-A8]
  simpa using q (SV.cs ρ a).toArray w,(p ρ S w n m).mono λe i ⟨v,h1,⟨S1,h2,h3⟩,h4⟩=>⟨v,h1,_,_,by
   have:=Xz (base:=w0.heap.size) (t:=s.mem) (ρ:=ρ) (S:=S) (val:=.d id) (rd:=rd) (id:=id) h4 h2 h3;simpa[SV.c] using this⟩⟩)⟩⟩
theorem DL{f:FuncId}{xs:Array Operand}{ats:Array TypeId}{a:List SV}{id:Nat}{D:Dat}{ys:List Value}(rd:List Nat)(_hd:o.dst=some id)(j:o.op=.call {callee:=.value (.func f),args:=xs,argTypes:=ats})(h:AQ ops o s)
 (r:xs.toList.map (AE s)=a)(q:∀args w,(callFunc f args).run P w=.ok (.enter f args) w)
 (p:∀ρ S w,Bw w0 w->RelOn w0.heap.size ρ S w (restr rd s.mem)->Calls P f (SV.cs ρ a).toArray w λe i=> ∃v,e=.returned (.tuple (v::ys).toArray)/\Ae w i v D/\Bw w i):Ev P ops w0 o s ⟨.tup (.d id::ys.map .v),[(id,.dat D)],[],[id],rd⟩:=
 ⟨by simp[Eff.ok],.inr ⟨h,λρ S w n m=>.inr (.inr ⟨f,(SV.cs ρ a).toArray,by
  obtain⟨l,x,k,u,g,guard⟩:=o;simp only at j;subst j;rw[DH,G7,r,<-A8]
  simpa using q (SV.cs ρ a).toArray w,(p ρ S w n m).mono λe i ⟨v,h1,⟨S1,h2,h3⟩,h4⟩=>⟨_,h1,_,_,by
   have:=Xz (base:=w0.heap.size) (t:=s.mem) (ρ:=ρ) (S:=S) (val:=.tup (.d id::ys.map .v)) (rd:=rd) (id:=id) h4 h2 h3;simpa[SV.c,SV.cs,LK] using this⟩⟩)⟩⟩
theorem Gc{d:List Nat}{e:Nat->Nm}{S:Nat->Nat->Prop}{w:World}{a:Nat}{m:Mem}{id:Nat}{D:Dat}(f:RelOn a e S w (restr d m))(c:id∈d)(g:m id=some (.dat D)):D.holds [(e id).val] w (S id):=w4 f g c
def AN(j:Nat)(v:Value):Value:=(v.cells[j]?).getD undef
end
end Go.Vx
namespace Go.Vx
open Go.RowKit Go.Toll
section
variable{P:Program}{w0:World}{ops:Array Oper}{o:Oper}{s:VS}
theorem DD.trans2{s:VS}{B C:(Nat->Value)->VS}(h:DD w0 s B)(k:∀f,DD w0 (B f) (λ_=>C f)):DD w0 s C:=λl w j=>by
 obtain⟨f,a,d,e⟩:=h l w j;obtain⟨_,c,g,i⟩:=k f a w d;exact⟨f,c,g,i.trans e⟩
theorem oS{ty e:TypeId}{x:Operand}{lo hi:Option Operand}{id i b n f:Nat}{l G:List Value}(_hd:o.dst=some i)(ho:o.op=.slice ty x lo hi none)(T:AQ ops o s)(hx:AE s x=.d id)(Y:s.mem id=some (.row n f e (.exact l)))
 (hu:P.underlying ty=some (.slice e))(hs:∀w,(Go.sizeOf e).run P w=.ok f w)
 (X:lo=none)(U:(match hi with|none=>SV.v (.int .i64 (n:Nat))|some z=>AE s z)=.v (.int .i64 (b:Nat)))(h2:b<=n)(hl:l.take (b*f)=G)(V:l.length=n*f):
 Ev P ops w0 o s ⟨.d i,[(i,.row b f e (.exact G))],[id],[i],[id]⟩:=by
 refine⟨by simp[Eff.ok],.inr ⟨T,λρ S w hb hR=> ?_⟩⟩;have E:=T9 (a:=0) ho hx hu hs (BI Y) (by rw[X]) U (y6 _) h2 ρ S w hb hR;obtain⟨xs,g1,g2,g3⟩:=w4 hR Y (by simp);have J:xs=l:=g2;subst J;have a0:=uC5 f h2
 have C:EC w w0.heap.size ⟨(ρ id).g,Ay 0 b f (ρ id).val⟩ b f e G:=by
  rcases g3 with⟨K,q⟩|⟨I,r,u,fz,p,q,L,M,a1,N,O,R⟩
  .left;subst q;refine⟨?_,by omega⟩;rw[K];simp[Ay];omega
  .right
   refine⟨I,r,u,fz,?_,q,L,M,by omega,N,O,?_⟩
   .rw[p];simp only[Ay,Nat.zero_mul,Nat.sub_zero]
    split<;>simp[Addr.add]
   .rw[<-hl,<-R,List.take_take];congr 1;omega
 have y:Ay 0 b f (ρ id).val≠ .slice none 0 0->(ρ id).val≠ .slice none 0 0:=λh c=>by
  rcases g3 with⟨_,h0⟩|⟨I,r,u,fz,p,_⟩
  .apply h;rw[c];simp[Ay];omega
  .rw[p]at c;cases c
 refine .inl ⟨_,w,E,λj=>if j=i then⟨(ρ id).g,Ay 0 b f (ρ id).val⟩else ρ j,λ_ _=>False,?_⟩
 have:=Cj (base:=w0.heap.size) (t:=s.mem) (ρ:=ρ) (S:=S) (w:=w) (w':=w) (val:=.d i) (rd:=[id]) (up:=[id]) (id:=i) (b:=.row b f e (.exact G)) (m:=⟨(ρ id).g,Ay 0 b f (ρ id).val⟩) (S1:=λ_=>False)
  rfl rfl rfl (yD _) (λk hk _=>rfl) (λa2 K _=>⟨G,by rw[<-hl,z6,V];omega,rfl,by rw[K];exact C⟩) (λ_ h=>h.elim)
  (λZ=>.inl ⟨id,by simp,_,Y,y Z,rfl⟩)
 simpa[SV.c] using this
theorem ou{t ti e:TypeId}{x y:Operand}{a k:Nat}{z:Value}(_hd:o.dst=some a)(ho:o.op=.call {callee:=.builtin .append,args:=#[x,y],argTypes:=#[t,ti]})(K:AQ ops o s)
 (hx:AE s x=.v (.slice none 0 0))(hy:AE s y=.v (.int .i64 (k:Nat)))(ht:P.underlying t=some (.slice e))(N:P.underlying ti=some (.int .i64))(V:DT P e 1 1)(hz:∀w,(zeroValue e).run P w=.ok z w)(O:z.cells=#[z])(hk:0<k)(Y:k<=140737488355328):
 Ev P ops w0 o s ⟨.d a,[(a,.row k 1 e (.exact (List.replicate k z)))],[],[a],[]⟩:=
 ⟨by simp[Eff.ok],.inr ⟨K,λρ S w X hR=>by
  obtain⟨i,z',U,r,f,q,a0⟩:=V.get;have u:=AI s ρ x;rw[hx]at u;have C:=AI s ρ y;rw[hy]at C;simp only[SV.c]at u C;have G:IntKind.i64.wrap (k:Int)=(k:Int):=Ah (by omega) (by omega);have L:=grownCap_ge w k 0 e;have J:grownCap w k 0 e<=maxLen:=grownCap_le_maxLen w k 0 e (by simp only[maxLen];omega)
  have T:z=z':=by
   have:=hz w;simp[zeroValue,typeInfo,U,r]at this;exact this.symm
  subst T
  have R:∀m,Builtin.zeroCells #[z] m=(List.replicate m z).toArray:=λm=>by
   apply Array.ext
   .simp[Builtin.zeroCells]
   .intro j h1 h2;simp[Builtin.zeroCells,Nat.mod_one]
  have hr:(Builtin.append_ #[t,ti] o.type #[.slice none 0 0,.int .i64 (k:Nat)]).run P w=.ok (.slice (some ⟨w.heap.size,0,none⟩) k (grownCap w k 0 e)) (w.drew.alloc (.cells (List.replicate k z++List.replicate (grownCap w k 0 e-k) z).toArray e)):=by
   have hn: ¬((k:Int)<0):=by omega
   have E: ¬((281474976710656:Int)<(k:Int)*(i.bytes:Int)):=by rw[q];omega
   have h: ¬(281474976710656<Builtin.nextslicecap k 0*i.bytes):=by rw[nextslicecap_zero hk,q];omega
   have M:k≠0:=by omega
   have p: ¬(9223372036854775807<(k:Int)):=by omega
   simp[Builtin.append_,yU ht,yU N,sizeOf,typeInfo,zeroValue,U,r,f,asInt,asIntOf,G,hn,E,h,M,p,Question.forced,run_firstCells_none,newRow,grownCap,O,R]
  refine .inl ⟨.slice (some ⟨w.heap.size,0,none⟩) k (grownCap w k 0 e),w.drew.alloc (.cells (List.replicate k z++List.replicate (grownCap w k 0 e-k) z).toArray e),?_,λj=>if j=a then⟨w.heap.size,.slice (some ⟨w.heap.size,0,none⟩) k (grownCap w k 0 e)⟩else ρ j,λ_ _=>False,?_⟩
  .unfold execOp
   simp only[ho,resolve,invoke,builtin,Sem.run_bind,Sem.run_pure,Result.andThen_ok,List.map_toArray,List.map_cons,List.map_nil,u,C,hr]
  .have I:w.heap.size<=(w.drew.alloc (.cells (List.replicate k z++List.replicate (grownCap w k 0 e-k) z).toArray e)).heap.size:=by simp
   have:=H6 (t:=s.mem) (ρ:=ρ) (S:=S) (val:=.d a) (rd:=[]) (id:=a) (n:=k) (size:=1) (ty:=e) (l:=List.replicate k z) (w:=w) (w':=w.drew.alloc (.cells (List.replicate k z++List.replicate (grownCap w k 0 e-k) z).toArray e)) (v:=.slice (some ⟨w.heap.size,0,none⟩) k (grownCap w k 0 e)) (g:=w.heap.size) X.size
    ⟨rfl,rfl,rfl,I,λj Z=>DM w.drew _ Z⟩ (by simp) (.inr ⟨0,_,_,(0,0),rfl,yD _,L7 w.drew _,.inl rfl,L,J,by simp;omega,by simp⟩)
   simpa[SV.c] using this⟩⟩
theorem R1{m:Mem}{d a:List Nat}{x:SV}{n c:Nat}{l:List Value}(h:Rdg w0 m d x n c l)(q:d.all (λi=>a.contains i)=true):Rdg w0 m a x n c l:=λr S w p k=>by
 refine h r S w p ?_;have:=k.restr d
 have e:restr d (restr a m)=restr d m:=by
  funext j;unfold restr
  by_cases f:j∈d
  .have g:j∈a:=by have:=y5.1 q j f;simpa using this
   simp[f,g]
  .simp[f]
 rwa [e]at this
theorem R0{m:Mem}{e:List Nat}{x:SV}{n a:Nat}{l:List Value}(h:Rdg w0 m e x n a l){d:Nat->Nm}{S:Nat->Nat->Prop}{w:World}(j:Bw w0 w)(i:RelOn w0.heap.size d S w (restr e m)):(x.c d).cells=#[x.c d]:=by
 obtain⟨_,k,f,g,_⟩:=h d S w j i;rw[g];rfl
theorem oe{K e:TypeId}{y z C:Operand}{d f g:SV}{Z n1 n2:Nat}{V X Y:List Value}{id:Nat}(rd:List Nat)(_hd:o.dst=some id)(U:o.op=.buildSlice K 3 #[(0,y),(1,z),(2,C)])(v:AQ ops o s)
 (M:AE s y=d)(N:AE s z=f)(O:AE s C=g)(r0:Rdg w0 s.mem rd d Z 1 V)(r1:Rdg w0 s.mem rd f n1 1 X)(r2:Rdg w0 s.mem rd g n2 1 Y)(x:SV.hasL id [d,f,g]=false)
 (R:∀p q r w,p.cells=#[p]->q.cells=#[q]->r.cells=#[r]->(Instr.buildSlice K 3 #[(0,p),(1,q),(2,r)]).run P w=.ok (.slice (some ⟨w.heap.size,0,none⟩) 3 3) (w.alloc (.cells #[p,q,r] e))):Ev P ops w0 o s ⟨.s id 0 3 3,[(id,.cells [d,f,g] e)],[],[id],rd⟩:=
 ⟨by simp[Eff.ok],.inr ⟨v,λρ S w a u=>by
  have E:=AI s ρ y;have G:=AI s ρ z;have I:=AI s ρ C;rw[M]at E;rw[N]at G;rw[O]at I;have l:=R _ _ _ w (R0 r0 a u) (R0 r1 a u) (R0 r2 a u);refine .inl ⟨.slice (some ⟨w.heap.size,0,none⟩) 3 3,w.alloc (.cells #[d.c ρ,f.c ρ,g.c ρ] e),?_,λj=>if j=id then⟨w.heap.size,undef⟩else ρ j,λ_ _=>False,?_⟩
  .simp only[execOp,U,List.map_toArray,List.map_cons,List.map_nil,E,G,I]
   rw[Sem.run_bind,l];rfl
  .have:=Cj (base:=w0.heap.size) (t:=s.mem) (ρ:=ρ) (S:=S) (w:=w) (w':=w.alloc (.cells #[d.c ρ,f.c ρ,g.c ρ] e)) (val:=.s id 0 3 3) (rd:=rd) (up:=[]) (id:=id) (b:=.cells [d,f,g] e) (m:=⟨w.heap.size,undef⟩) (S1:=λ_=>False)
    rfl rfl rfl (by simp) (λk T _=>DM w _ T) (λa0 J L=>by
     refine⟨by rw[J];exact a.size,?_⟩;rw[J];simp only[CP];rw[GI (nw:=[id]) (λi n=>L i (by simpa using n)) (λi n=>by simp at n;rw[n];exact x)];exact L7 w _) (λ_ h=>h.elim) (λ_=>.inr ⟨yD _,λh=>h⟩)
   simpa[SV.c] using this⟩⟩
end
end Go.Vx
namespace Go.Vx
open Go.RowKit Go.Toll
section
variable{P:Program}{w0:World}{ops:Array Oper}{o:Oper}{s:VS}
abbrev C1:=Go.Lib.strCells
theorem RY(b:ByteArray):(C1 b).length=b.size:=Go.Lib.strCells_length b
theorem oW{r f e:TypeId}{x:Operand}{id:Nat}{b:ByteArray}(_hd:o.dst=some id)(J:o.op=.convert r f x)(p:AQ ops o s)(L:AE s x=.v (.string b))
 (K:P.underlying r=some .string)(z:P.underlying f=some (.slice e))(E:P.underlying e=some (.int .u8))(I:b.size<=maxLen):Ev P ops w0 o s ⟨.d id,[(id,.row b.size 1 e (.exact (C1 b)))],[],[id],[]⟩:=
 ⟨by simp[Eff.ok],.inr ⟨p,λρ S w y M=>by
  have h:=AI s ρ x;rw[L]at h;simp only[SV.c]at h;have u:=run_bytes_of_string (P:=P) w r f e b K z E;obtain⟨C,i⟩:∃C,C=bytesRow b (grownCap w b.size 0 e):=⟨_,rfl⟩
  rw[<-i]at u;refine .inl ⟨.slice (some ⟨w.heap.size,0,none⟩) b.size (grownCap w b.size 0 e),w.drew.alloc (.cells C e (C.size,C.size+1)),?_,λj=>if j=id then⟨w.heap.size,.slice (some ⟨w.heap.size,0,none⟩) b.size (grownCap w b.size 0 e)⟩else ρ j,λ_ _=>False,?_⟩
  .simp only[execOp,J,h]
   rw[Sem.run_bind,u];rfl
  .have q:=grownCap_ge w b.size 0 e
   have m:=grownCap_le_maxLen w b.size 0 e I;have a:=RY b;have k:w.heap.size<=(w.drew.alloc (.cells C e (C.size,C.size+1))).heap.size:=by rw[World.size_alloc];exact Nat.le_succ _
   have:=H6 (t:=s.mem) (ρ:=ρ) (S:=S) (val:=.d id) (rd:=[]) (id:=id) (n:=b.size) (size:=1) (ty:=e) (l:=C1 b) (w:=w) (w':=w.drew.alloc (.cells C e (C.size,C.size+1))) (v:=.slice (some ⟨w.heap.size,0,none⟩) b.size (grownCap w b.size 0 e)) (g:=w.heap.size) y.size
    ⟨rfl,rfl,rfl,k,λj G=>DM w.drew _ G⟩ (by rw[a,yQ]) (.inr ⟨0,_,_,_,rfl,yD _,L7 w.drew _,.inr rfl,q,m,by have:b.data.size=b.size:=rfl;rw[i];simp only[bytesRow,Array.size_append,Array.size_map,Array.size_replicate];omega,by
     rw[i,yQ,List.drop_zero];simp only[bytesRow,Array.toList_append,Array.toList_map];rw[<-a];exact List.take_left⟩)
   simpa[SV.c] using this⟩⟩
theorem fh{w:World}{p:Nat}(R:p<=w.heap.size)(t u r e:TypeId)(i:TypeInfo)(z:Value)(ht:P.underlying t=some (.slice e))(hu:P.underlying u=some .string)(hi:P.info? e=some i)(hz:i.zero=some z)
 (f:i.size=1)(a0:i.bytes=1)(b0:z.cells.size=1){m:Nm}{n:Nat}{I:List Value}(a4:EC w p m n 1 e I)(hl:I.length=n)(b:ByteArray)(b1:n+b.size<=140737488355328):
 ∃v' g' T,(Builtin.append_ #[t,u] r #[m.val,.string b]).run P w=.ok v' T/\EC T p ⟨g',v'⟩ (n+b.size) 1 e (I++C1 b)/\T.os=w.os/\T.tape=w.tape/\T.output=w.output/\w.heap.size<=T.heap.size/\
  (∀j,j<w.heap.size->(m.val≠ .slice none 0 0->m.g≠j)->T.heap[j]? =w.heap[j]?)/\(v'≠ .slice none 0 0->(m.val≠ .slice none 0 0/\m.g=g')\/w.heap.size<=g'):=by
 have G:=RY b;have J:(I++C1 b).length=n+b.size:=by rw[yM,hl,G]
 obtain⟨k,x⟩:∃k,b.size=k:=⟨_,rfl⟩
 have a3:n+k<=maxLen:=by simp only[maxLen];omega
 have v:∀(l:Nat),l<n+k->
  EC (w.drew.alloc (.cells (I.toArray++(C1 b).toArray++Builtin.zeroCells z.cells (grownCap w (n+k) l e-(n+k))) e)) p
   ⟨w.heap.size,.slice (some ⟨w.heap.size,0,none⟩) (n+k) (grownCap w (n+k) l e)⟩ (n+k) 1 e (I++C1 b):=by
  intro l ho;have a8:=grownCap_ge w (n+k) l e;have a7:grownCap w (n+k) l e<=maxLen:=grownCap_le_maxLen w (n+k) l e a3;refine .inr ⟨0,_,_,(0,0),rfl,R,L7 w.drew _,.inl rfl,a8,a7,?_,?_⟩
  .simp only[Array.size_append,uD1,size_zeroCells,b0,hl,G,x]
   omega
  .simp only[Array.toList_append,z7,List.drop_zero,yQ]
   rw[<-z7,<-x,<-J];exact List.take_left
 rcases a4 with⟨d,C⟩|⟨a,q,c,fz,d,C,L,M,a6,Y,Z,N⟩
 .subst C
  have a9:I=[]:=zJ hl;subst a9;rw[d];by_cases O:k=0
  .have hn:C1 b=[]:=zJ (by rw[G,x];exact O)
   refine⟨.slice none 0 0,m.g,w,?_,.inl ⟨rfl,by omega⟩,rfl,rfl,rfl,yD _,λ_ _ _=>rfl,λh=>absurd rfl h⟩;have hf:=Go.Lib.run_firstCells_string (P:=P) w 1 b;rw[x,O]at hf;simp[Builtin.append_,yU ht,yU hu,sizeOf,typeInfo,hi,f,Builtin.lenOf,x,O,hf]
  .have V:=run_append_nil_string (P:=P) w t u r e i z ht hu hi hz b (by omega) (by omega) (by rw[a0];omega)
   have a2:=v 0 (by omega)
   have U:(b.data.map λb=>Value.int .u8 b.toNat)=(C1 b).toArray:=by
    apply Array.ext';simp[Go.Lib.strCells]
   rw[U]at V;rw[x]at V⊢;simp only[zW,List.nil_append,Array.empty_append]at a2⊢;exact⟨_,_,_,V,a2,rfl,rfl,rfl,by rw[World.size_alloc];exact Nat.le_succ _,λj E _=>DM w.drew _ E,λ_=>.inr (yD _)⟩
 .by_cases y:n+k<=q
  .have a1:a+n+(C1 b).length<=c.size:=by rw[G];omega
   have hf:=Go.Lib.run_firstCells_string (P:=P) w 1 b;have a5:=Lu (P:=P) m.g (a+n) e fz (C1 b) 0 c w L (NK M) (by simpa using a1) (Go.Lib.strCells_oneCell b);simp only[Nat.add_zero]at a5;have U:a+n*1=a+n:=by omega
   refine⟨.slice (some ⟨m.g,a,none⟩) (n+b.size) q,m.g,w.setRow m.g (c.toList.take (a+n)++C1 b++c.toList.drop (a+n+(C1 b).length)).toArray,?_,?_,rfl,rfl,rfl,by simp,λj _ E=>MT w m.g j _ (λe=>E (by rw[d];simp) e.symm),λ_=>.inl ⟨by rw[d];simp,rfl⟩⟩
   .rw[d]
    rw[x]at hf;simp[Builtin.append_,yU ht,yU hu,sizeOf,typeInfo,hi,f,Builtin.lenOf,x,y,hf,Bd,a5]
   .have K:(c.toList.take (a+n)++C1 b++c.toList.drop (a+n+(C1 b).length)).toArray.size=c.size:=by
     simp only[uD1,yM,z6,zH,Array.length_toList];omega
    rw[x];refine .inr ⟨a,q,_,fz,rfl,C,ID w m.g c _ e _ L,by rw[K];exact M,y,Y,by rw[K];exact Z,?_⟩;rw[yQ]at N;rw[yQ,<-x,<-J,<-N];apply uB1;intro j;simp only[zP,zQ,List.getElem?_append,z6,zH,yM,Array.length_toList];have hA:min (a+n) c.size=a+n:=by omega
    have hB:min n (c.size-a)=n:=by omega
    simp only[hA,hB];by_cases j1:j<n
    .rw[x9 (by omega),x9 (by omega),x9 (by omega),x9 j1,x9 j1]
     rw[x9 (by omega)]
    .by_cases j2:j<n+(C1 b).length
     .rw[x9 j2,x9 (by omega),x8 (by omega),x8 j1]
      congr 1;omega
     .rw[x8 j2,x8 j1]
      symm;apply D0;omega
  .have S:∀j u,I[j]? =some u->w.cell? ((⟨m.g,a,none⟩:Addr).add j)=some u:=λj u E=>by
    obtain⟨_,_,U,_,_,X⟩:=DX (.inr ⟨a,q,c,fz,d,C,L,M,a6,Y,Z,N⟩) (by rw[hl,yQ]);rw[d]at U;simp only[Value.slice.injEq]at U;rcases X with X|⟨g2,X,_,e3⟩
    .rw[X]at E;cases E
    .have:=U.1.trans X
     simp only[yT]at this;rw[this];exact e3 j u E
   have V:=Go.Lib.run_append_grow_string (P:=P) w t u r e i z ht hu hi hz ⟨m.g,a,none⟩ n q I (by rw[f,yQ];exact hl) S b (by omega) (by omega) (by rw[a0];exact growslice_fits (by omega) (by omega));rw[d];rw[x]at V⊢;exact⟨_,_,_,V,v q (by omega),rfl,rfl,rfl,by rw[World.size_alloc];exact Nat.le_succ _,λj E _=>DM w.drew _ E,λ_=>.inr (yD _)⟩
theorem ot{t u e:TypeId}{x y:Operand}{id f n:Nat}{l:List Value}{b:ByteArray}(_hd:o.dst=some f)(ho:o.op=.call {callee:=.builtin .append,args:=#[x,y],argTypes:=#[t,u]})(G:AQ ops o s)
 (hx:AE s x=.d id)(I:s.mem id=some (.row n 1 e (.exact l)))(hy:AE s y=.v (.string b))
 (ht:P.underlying t=some (.slice e))(hu:P.underlying u=some .string)(U:DT P e 1 1)(N:l.length=n)(C:n+b.size<=140737488355328):
 Ev P ops w0 o s ⟨.d f,[(f,.row (n+b.size) 1 e (.exact (l++C1 b)))],[id],[f],[id]⟩:=
 ⟨by simp[Eff.ok],.inr ⟨G,λρ S w X V=>by
  obtain⟨i,z,Y,hz,g,E,K⟩:=U.get;obtain⟨k,g1,O,R⟩:=w4 V I (by simp);have r:k=l:=O;subst r;obtain⟨L,M,w',r1,r2,r3,r4,r5,r6,r7,r8⟩:=fh (P:=P) X.size t u o.type e i z ht hu Y hz g E K R N b C;refine .inl ⟨L,w',?_,λj=>if j=f then⟨M,L⟩else ρ j,λ_ _=>False,?_⟩
  .have p:=AI s ρ x
   rw[hx]at p;have q:=AI s ρ y;rw[hy]at q;simp only[SV.c]at p q;unfold execOp;simp only[ho,resolve,invoke,builtin,Sem.run_bind,Sem.run_pure,Result.andThen_ok,List.map_toArray,List.map_cons,List.map_nil,p,q,r1]
  .have:=Cj (base:=w0.heap.size) (t:=s.mem) (ρ:=ρ) (S:=S) (w:=w) (w':=w') (val:=.d f) (rd:=[id]) (up:=[id]) (id:=f) (b:=.row (n+b.size) 1 e (.exact (k++C1 b))) (m:=⟨M,L⟩) (S1:=λ_=>False)
    r3 r4 r5 r6 (λj Z hk=>r7 j Z λhv=>hk id (by simp) _ I hv) (λa0 T _=>⟨_,by rw[yM,N,RY,yQ],rfl,by rw[T];exact r2⟩) (λ_ h=>h.elim)
    (λJ=>(r8 J).imp (λ⟨a,b⟩=>⟨id,by simp,_,I,a,b⟩) (λa=>⟨a,λh=>h⟩))
   simpa[SV.c] using this⟩⟩
theorem Ty{G e:TypeId}{x:Operand}{n id:Nat}{p:SV}{l:List SV}(rd:List Nat)(_hd:o.dst=some id)(O:o.op=.buildSlice G 1 #[(0,x)])(r:AQ ops o s)
 (R:AE s x=p)(L:∀ρ S w,RelOn w0.heap.size ρ S w (restr rd s.mem)->(p.c ρ).cells.toList=SV.cs ρ l)(N:l.length=n)(u:SV.hasL id l=false)
 (K:∀v w,v.cells.size=n->(Instr.buildSlice G 1 #[(0,v)]).run P w=.ok (.slice (some ⟨w.heap.size,0,none⟩) 1 1) (w.alloc (.cells v.cells e))):Ev P ops w0 o s ⟨.s id 0 1 1,[(id,.cells l e)],[],[id],rd⟩:=
 ⟨by simp[Eff.ok],.inr ⟨r,λρ S w q J=>by
  have C:=AI s ρ x;rw[R]at C;have f:=L ρ S w J;have y:(SV.cs ρ l).length=n:=by rw[A8,DE];exact N
  have z:(p.c ρ).cells.size=n:=by rw[<-Array.length_toList,f,y]
  have a:(p.c ρ).cells=(SV.cs ρ l).toArray:=by apply Array.ext';rw[f]
  have d:=K _ w z;rw[a]at d;refine .inl ⟨.slice (some ⟨w.heap.size,0,none⟩) 1 1,w.alloc (.cells (SV.cs ρ l).toArray e),?_,λj=>if j=id then⟨w.heap.size,undef⟩else ρ j,λ_ _=>False,?_⟩
  .simp only[execOp,O,List.map_toArray,List.map_cons,List.map_nil,C]
   rw[Sem.run_bind,d];rfl
  .have:=Cj (base:=w0.heap.size) (t:=s.mem) (ρ:=ρ) (S:=S) (w:=w) (w':=w.alloc (.cells (SV.cs ρ l).toArray e)) (val:=.s id 0 1 1) (rd:=rd) (up:=[]) (id:=id) (b:=.cells l e) (m:=⟨w.heap.size,undef⟩) (S1:=λ_=>False)
    rfl rfl rfl (by simp) (λk M _=>DM w _ M) (λT E I=>by
     refine⟨by rw[E];exact q.size,?_⟩;rw[E];simp only[CP];rw[GI (nw:=[id]) (λi g=>I i (by simpa using g)) (λi g=>by simp at g;rw[g];exact u)];exact L7 w _) (λ_ h=>h.elim) (λ_=>.inr ⟨yD _,λh=>h⟩)
   simpa[SV.c] using this⟩⟩
theorem af{t e:TypeId}{x y:Operand}{id p ys n k k' size f:Nat}{l:List SV}{bt:TypeId}{D:Dat}(L:Dat)(rd:List Nat)(_hd:o.dst=some p)(ho:o.op=.call {callee:=.builtin .append,args:=#[x,y],argTypes:=#[t,t]})(a1:AQ ops o s)
 (C:AE s x=.d id)(R:s.mem id=some (.row n size e D))(hy:AE s y=.s ys 0 k k')(a3:s.mem ys=some (.cells l bt))(hl:l.length=k*size)(a2:k<=k')
 (ht:P.underlying t=some (.slice e))(hI:DT P e size f)(a6:0<size)(V:n+k<=maxLen)(r:(n+k)*f<=140737488355328)(E:id∈rd)(a7:ys∈rd)
 (M:∀ρ S w,RelOn w0.heap.size ρ S w (restr rd s.mem)->(SV.cs ρ l).all (·.oneCell')=true)
 (hD:∀ρ S w O,Bw w0 w->RelOn w0.heap.size ρ S w (restr rd s.mem)->D.holds O w (S id)->L.holds (O++SV.cs ρ l) w (λk=> ∃j∈rd,(s.mem j).isSome/\S j k)):
 Ev P ops w0 o s ⟨.d p,[(p,.row (n+k) size e L)],[id],[p],rd⟩:=
 ⟨by simp[Eff.ok,E],.inr ⟨a1,λρ S w hb J=>by
  obtain⟨i,z,hi,hz,I,Z,a8⟩:=hI.get;obtain⟨O,g1,g2,g3⟩:=w4 J R E;have a0:=(w4 J a3 a7).2;have v:(SV.cs ρ l).length=k*size:=by rw[A8,DE];exact hl
  have a5:AO w (.slice (some ⟨(ρ ys).g,0,none⟩) k k') k size (SV.cs ρ l) (λj=>j=(ρ ys).g):=by
   refine⟨_,_,rfl,a2,v,.inr ⟨_,rfl,rfl,λi x C=> ?_⟩⟩;rw[A8,zC]at C;cases h:l[i]? with
   |none=>rw[h]at C;cases C
   |some y=>rw[h]at C;simp only[AT,yT]at C;rw[<-C,Bd,zW];exact GK a0 h
  obtain⟨v',g',w',r1,r2,r3,r4,r5,r6,r7,r8⟩:=Vz (P:=P) hb.size t o.type e i z size f ht hi hz I Z a8 a6 g3 g1 a5 (λu hu=>y5.1 (M ρ S w J) u hu) V r;have G:∀j,j∈rd->restr rd s.mem j=s.mem j:=λj K=>by unfold restr;rw[x9 K]
  have N:∀j,(∃q∈rd,(s.mem q).isSome/\S q j)->j<w.heap.size:=λj ⟨q,M,h2,h3⟩=>J.lt q j (by rw[G q M];exact h2) h3
  have X:=hD ρ S w O hb J g2
  have Y:L.holds (O++SV.cs ρ l) w' (λk=> ∃j∈rd,(s.mem j).isSome/\S j k):=L.keep X λj K=>r7 j (N j K) λhv eg=>by
   obtain⟨q,q1,q2,q3⟩:=K;exact J.dis id (.row n size e D) q (by rw[G id E];exact R) hv (by rw[G q q1];exact q2) (eg▸q3)
  refine .inl ⟨v',w',?_,λj=>if j=p then⟨g',v'⟩else ρ j,λ_ k=> ∃j∈rd,(s.mem j).isSome/\S j k,?_⟩
  .have T:=AI s ρ x
   rw[C]at T;have U:=AI s ρ y;rw[hy]at U;simp only[SV.c]at T U;unfold execOp;simp only[ho,resolve,invoke,builtin,Sem.run_bind,Sem.run_pure,Result.andThen_ok,List.map_toArray,List.map_cons,List.map_nil,T,U,r1]
  .have:=Cj (base:=w0.heap.size) (t:=s.mem) (ρ:=ρ) (S:=S) (w:=w) (w':=w') (val:=.d p) (rd:=rd) (up:=[id]) (id:=p) (b:=.row (n+k) size e L) (m:=⟨g',v'⟩) (S1:=λk=> ∃j∈rd,(s.mem j).isSome/\S j k)
    r3 r4 r5 r6 (λj K hk=>r7 j K λhv=>hk id (by simp) _ R hv) (λa9 M _=>⟨_,by rw[yM,g1,v,PJ],Y,by rw[M];exact r2⟩) (λ_ h=>.inl h)
    (λa4=>(r8 a4).imp (λ⟨a,b⟩=>⟨id,by simp,_,R,a,b⟩) (λa=>⟨a,λh=>Nat.lt_irrefl _ (yK (N _ h) a)⟩))
   simpa[SV.c] using this⟩⟩
theorem Ji{i:TypeId}{x y:Operand}{a c:Value}{h:SV}{n size:Nat}{l:List Value}{t:List Nat}(E:o.op=.build i #[(0,x),(1,y)])(g:AQ ops o s)
 (I:AE s x=.v a)(J:AE s y=h)(G:Rdg w0 s.mem t h n size l)(C:∀p m q,P.built i [(0,a),(1,.slice p m q)]=some #[a,.slice p m q,c]):Ev P ops w0 o s ⟨.agg [.v a,h,.v c],[],[],[],t⟩:=
 Ev.run _ _ g λj S w f z=>by
  have k:=AI s j x;rw[I]at k;have e:=AI s j y;rw[J]at e;obtain⟨_,u,d,r,_⟩:=G j S w f z;rw[r]at e;simp only[execOp,E,List.map_toArray,List.map_cons,List.map_nil,k,e,SV.c];rw[Sem.run_bind,run_build w i _ #[a,.slice u n d,c] (C _ _ _)];simp[SV.c,SV.cs,r]
theorem Am{p q id a n:Nat}{l:List SV}{r:TypeId}{d:TypeDesc}(h:AE s (.tmp p)=.p id a)(C:s.mem id=some (.cells l r))(G:P.underlying q=some d)(x:Ba d=true)(E:∀w,(Go.sizeOf q).run P w=.ok n w)
 (z:((l.drop a).take n).length=n):RV P w0 s (.cell p q) (.agg ((l.drop a).take n)):=λk w I=>by
 obtain⟨_,_,u⟩:=L2 I C
 have i:(loadCells ⟨(k id).g,a,none⟩ (SV.cs k ((l.drop a).take n)).length).run P w=.ok (SV.cs k ((l.drop a).take n)).toArray w:=OR w _ _ λj v f=>by
  rw[Bd];rw[A8,zC]at f;cases e:((l.drop a).take n)[j]? with
  |none=>rw[e]at f;cases f
  |some y=>
   rw[e]at f;simp only[AT,yT]at f;subst f
   have t:l[a+j]? =some y:=by
    rw[zP]at e;split at e
    .rwa [zQ]at e
    .cases e
   exact GK u t
 have m:(SV.cs k ((l.drop a).take n)).length=n:=by rw[A8,DE];exact z
 rw[m]at i;simp only[DW,Gy,h,SV.c];simp[asAddr,loadVar,Bp G,x,E,i]
theorem pq{a:Nat->Nm}{id n:Nat}(h:((a id).val).cells.size=n):((a id).val).cells.toList=SV.cs a ((List.range n).map λj=>SV.fn (AN j) (.d id)):=by
 rw[A8,KK];apply uB1;intro j;rw[zC];by_cases f:j<n
 .rw[List.getElem?_range f]
  simp only[AT,Function.comp,SV.c,AN];have e:j<((a id).val).cells.size:=by omega
  rw[Array.getElem?_toList,Array.getElem?_eq_getElem e];rfl
 .rw[D0 (by simp;omega),D0 (by simp;omega)]
  rfl
theorem Bh{N:TypeId}{x y:Operand}{id d n:Nat}{l vl:List SV}{j:TypeId}{v:SV}(i:List Nat)(U:o.op=.store N x y)(r:AQ ops o s)(Y:AE s x=.p id d)(L:s.mem id=some (.cells l j))(Z:AE s y=v)
 (V:∀w,(Go.sizeOf N).run P w=.ok n w)(h:i.contains id=true)(R:∀a S w,Bw w0 w->RelOn w0.heap.size a S w (restr i s.mem)->(v.c a).cells.toList=SV.cs a vl/\(SV.cs a vl).all (·.oneCell')=true)(M:vl.length=n)(J:d+n<=l.length):
 Ev P ops w0 o s ⟨.v undef,[(id,.cells (l.take d++vl++l.drop (d+n)) j)],[id],[],i⟩:=
 Ev.wr id _ _ _ _ r L h (λ_=>by simp[SV.c]) λa S w O I=>by
  have E:=AI s a x;rw[Y]at E;have G:=AI s a y;rw[Z]at G;have t:id∈i:=by simpa using h
  obtain⟨q,K⟩:=w4 I L t;obtain⟨f,m⟩:=R a S w O I;have e:(SV.cs a vl).length=n:=by rw[A8,DE];exact M
  have z:=run_storeCells_at P (a id).g d j (SV.cs a vl) 0 (SV.cs a l).toArray w K (by rw[e];simp[A8];omega) (λu X=>y5.1 m u X);have C:(v.c a).cells.size=n:=by rw[<-Array.length_toList,f,e]
  refine⟨True.intro,w.setRow (a id).g ((SV.cs a l).toArray.toList.take (d+0)++SV.cs a vl++(SV.cs a l).toArray.toList.drop (d+0+(SV.cs a vl).length)).toArray,?_,⟨rfl,rfl,rfl,by simp,λk T=>MT w _ k _ T⟩,q,?_⟩
  .simp only[execOp,U,E,G,SV.c,Instr.storeAt,Instr.sureAddr,storeVar]
   rw[Sem.run_bind,Sem.run_bind,Sem.run_pure,Result.andThen_ok,Sem.run_bind,V,Result.andThen_ok,x8 (by rw[C];simp),f,z];rfl
  .rw[ID w (a id).g _ _ _ _ K]
   simp[CP,A8,M]
theorem Lc{d:List SV}{a b:Nat×Blk}{m:List (Nat×Blk)}(h:a.1≠b.1):DD w0 ⟨d,AJ (a::b::m)⟩ (λ_=>⟨d,AJ (b::a::m)⟩):=
 Qv (λ_=>undef) (by
  congr 1
  funext k
  simp only[AJ];by_cases c:k=a.1
  .rw[x9 c,x8 (by rw[c];exact h),x9 c]
  .rw[x8 c,x8 c])
theorem Cf{w:World}{a:Nat}{d:Nat->Nm}{S:Nat->Nat->Prop}{m:Mem}{f:List Nat}{id n c:Nat}{p:TypeId}{D:Dat}(j:RelOn a d S w (restr f m))(e:id∈f)(k:m id=some (.row n c p D)):((d id).val).cells.toList=[(d id).val]/\((d id).val).oneCell'=true:=by
 obtain⟨r,_,_,h⟩:=w4 j k e;rcases h with⟨h,_⟩|⟨l,g,i,q,h,_⟩
 .rw[h];exact⟨rfl,rfl⟩
 .rw[h];exact⟨rfl,rfl⟩
end
def fv(f:Nat->Value):Nat->Nat->List SV->List SV
 |0,_,l=>l
 |n+1,k,l=>.v (f k)::fv f n (k+1) l
def zs:Nat->List SV
 |0=>[]
 |n+1=>.v (.int .u8 0)::zs n
end Go.Vx
end
namespace Go.Proofs.YtafbhakmkbehiaaGreatDoor
open Go.RowKit Go.Vx
variable{ops:Array Oper}{id:Nat}{o:Oper}{P:Program}{A B Q:Prop}{w0:World}
abbrev CBy(k:FuncId)(a:Array Value)(w:World)(v:Value):Prop:=Calls prog k a w λe c=>e=.returned v/\Bw w c
abbrev CDy(k:FuncId)(a:Array Value)(w:World)(D:Dat):Prop:=Calls prog k a w λe c=>∃v,e=.returned v/\Ae w c v D/\Bw w c
abbrev CRy(k:FuncId)(a:Array Value)(w:World)(n:Nat)(l:List Value):Prop:=Calls prog k a w λe c=>∃v,e=.returned v/\BN w c v n 1 5 l/\Bw w c
abbrev dsc{t:TypeId}{d:TypeDesc}(_:prog.underlying t=some d):TypeDesc:=d
class UndT (t:TypeId) (d:outParam TypeDesc):Prop where
 h:prog.underlying t=some d
class SizT (t:TypeId) (n:outParam Nat):Prop where
 h:∀w,(Go.sizeOf t).run prog w=.ok n w
instance:UndT 3 (dsc uA7):=⟨uA7⟩
instance:UndT 4 (dsc uD7):=⟨uD7⟩
instance:UndT 5 (dsc yL):=⟨yL⟩
instance:UndT 9 (dsc yF):=⟨yF⟩
instance:UndT 22 (dsc y9):=⟨y9⟩
instance:UndT 23 (dsc x7):=⟨x7⟩
instance:UndT 34 (dsc zB):=⟨zB⟩
instance:UndT 38 (dsc zY):=⟨zY⟩
instance:UndT 43 (dsc yX):=⟨yX⟩
instance:UndT 46 (dsc underlying46):=⟨underlying46⟩
instance:UndT 59 (dsc yO):=⟨yO⟩
instance:UndT 61 (dsc yZ):=⟨yZ⟩
instance:UndT 64 (dsc yY):=⟨yY⟩
instance:UndT 69 (dsc yV):=⟨yV⟩
instance:UndT 71 (dsc yS):=⟨yS⟩
instance:UndT 95 (dsc underlying95):=⟨underlying95⟩
instance:UndT 141 (dsc DQ):=⟨DQ⟩
instance:UndT 147 (dsc y8):=⟨y8⟩
instance:UndT 247 (dsc uA5):=⟨uA5⟩
instance:UndT 248 (dsc uA4):=⟨uA4⟩
instance:UndT 250 (dsc underlying250):=⟨underlying250⟩
instance:SizT 3 1:=⟨DS⟩
instance:SizT 4 1:=⟨sizeOf4⟩
instance:SizT 5 1:=⟨yG⟩
instance:SizT 9 1:=⟨CD⟩
instance:SizT 22 64:=⟨zI⟩
instance:SizT 23 1:=⟨y7⟩
instance:SizT 34 9:=⟨yN⟩
instance:SizT 38 9:=⟨z9⟩
instance:SizT 43 1:=⟨sizeOf43⟩
instance:SizT 59 1:=⟨sizeOf59⟩
instance:SizT 61 3:=⟨yH⟩
instance:SizT 64 32:=⟨yR⟩
instance:SizT 69 1:=⟨sizeOf69⟩
instance:SizT 71 3:=⟨yI⟩
instance:SizT 95 4:=⟨sizeOf95⟩
instance:SizT 141 64:=⟨uA3⟩
instance:SizT 147 4:=⟨zD⟩
instance:SizT 248 8:=⟨sizeOf248⟩
def k_K(P:Program)(ops:Array Oper)(w0:World)(l:List Oper)(s:VS)(R:List Eff->VS->Prop):Prop:= ∃E a,VE P ops w0 l E s a/\R E a
theorem k_n{s:VS}{R:List Eff->VS->Prop}(h:R [] s):k_K P ops w0 [] s R:=⟨[],s,.nil s,h⟩
theorem k_c{l:List Oper}{s c:VS}{e:Eff}{R:List Eff->VS->Prop}(h:Ev P ops w0 o s e)(g:s.put o.dst e=c)(r:k_K P ops w0 l c (λE a=>R (e::E) a)):k_K P ops w0 (o::l) s R:=by
 subst g;obtain⟨E,a,d,f⟩:=r;exact⟨_,_,.cons h d,f⟩
theorem k_p{l:List Oper}{a:List SV}{m:List (Nat×Blk)}{Q:Exit->VS->Prop}(h:k_K P l.toArray w0 l ⟨a,AJ m⟩ λE c=>(l.all (λo=> !Dv o.op) && plainB E && Es a m E)=true/\Q .normal c):VOk P w0 ⟨a,AJ m⟩ (.region id l.toArray false) Q:=by
 obtain⟨E,c,d,e,f⟩:=h;exact vrp d e f
theorem k_d{l:List Oper}{a:List SV}{m:List (Nat×Blk)}{Q:Exit->VS->Prop}(g:P.follows .mixedOrders=true)(h:k_K P l.toArray w0 l ⟨a,AJ m⟩ λE c=>(veB l.toArray l E && Es a m E)=true/\Q .normal c):VOk P w0 ⟨a,AJ m⟩ (.region id l.toArray true) Q:=by
 obtain⟨E,c,d,e,f⟩:=h;exact vrd g d e f
theorem iD{l:List Oper}{s a:VS}{e:Eff}{R:List Eff->VS->Prop}(h:Ev P ops w0 o s e)(r:k_K P ops w0 l a (λE d=>R (e::E) d))(c:s.put o.dst e=a:=by first|(simp only[nm,seval];exact rfl)|exact rfl):k_K P ops w0 (o::l) s R:=k_c h c r
theorem iF{l:List Oper}{s a:VS}{e:Eff}{R:List Eff->VS->Prop}(h:Ev P ops w0 o s e)(c:B->k_K P ops w0 l a (λE f=>R (e::E) f))(d:s.put o.dst e=a:=by first|(simp only[nm,seval];exact rfl)|exact rfl):B->k_K P ops w0 (o::l) s R:=λb=>k_c h d (c b)
theorem AX{l:List Oper}{s a:VS}{e:Eff}{R:List Eff->VS->Prop}(h:Ev P ops w0 o s e)(r:k_K P ops w0 l a (λE d=>R (e::E) d))(c:s.put o.dst e=a:=by first|(simp only[nmx,seval];exact rfl)|exact rfl):k_K P ops w0 (o::l) s R:=k_c h c r
theorem A3{l:List Oper}{s a:VS}{e:Eff}{R:List Eff->VS->Prop}(h:Ev P ops w0 o s e)(c:B->k_K P ops w0 l a (λE f=>R (e::E) f))(d:s.put o.dst e=a:=by first|(simp only[nmx,seval];exact rfl)|exact rfl):B->k_K P ops w0 (o::l) s R:=λb=>k_c h d (c b)
section
variable(b:B)
include b
theorem k_1(c:B->A:=by exact A3 (by first|exact LI (a:=1) (k:=1) (p:=λd=>d.take 1=List.replicate 1 (Value.int .u8 1)) (q:=λd=>d.take 2=List.replicate 2 (Value.int .u8 1)) (news:=List.replicate 1 (.int .u8 1)) rfl gg rfl (.inr rfl) rfl rfl (L4 rfl (λd h _=>by rw[List.drop_zero];exact h) (by decide) (by decide) rfl) x7 Er (by decide) (by decide) (by decide) (λd h e=>NQ (by omega) h)|exact LI (a:=2) (k:=2) (p:=λd=>d.take 2=List.replicate 2 (Value.int .u8 1)) (q:=λd=>d.take 4=List.replicate 4 (Value.int .u8 1)) (news:=List.replicate 2 (.int .u8 1)) rfl gg rfl (.inr rfl) rfl rfl (L4 rfl (λd h _=>by rw[List.drop_zero];exact h) (by decide) (by decide) rfl) x7 Er (by decide) (by decide) (by decide) (λd h e=>NQ (by omega) h)|exact LI (a:=4) (k:=4) (p:=λd=>d.take 4=List.replicate 4 (Value.int .u8 1)) (q:=λd=>d.take 8=List.replicate 8 (Value.int .u8 1)) (news:=List.replicate 4 (.int .u8 1)) rfl gg rfl (.inr rfl) rfl rfl (L4 rfl (λd h _=>by rw[List.drop_zero];exact h) (by decide) (by decide) rfl) x7 Er (by decide) (by decide) (by decide) (λd h e=>NQ (by omega) h)|exact LI (a:=8) (k:=8) (p:=λd=>d.take 8=List.replicate 8 (Value.int .u8 1)) (q:=λd=>d.take 16=List.replicate 16 (Value.int .u8 1)) (news:=List.replicate 8 (.int .u8 1)) rfl gg rfl (.inr rfl) rfl rfl (L4 rfl (λd h _=>by rw[List.drop_zero];exact h) (by decide) (by decide) rfl) x7 Er (by decide) (by decide) (by decide) (λd h e=>NQ (by omega) h)|exact LI (a:=16) (k:=16) (p:=λd=>d.take 16=List.replicate 16 (Value.int .u8 1)) (q:=λd=>d.take 32=List.replicate 32 (Value.int .u8 1)) (news:=List.replicate 16 (.int .u8 1)) rfl gg rfl (.inr rfl) rfl rfl (L4 rfl (λd h _=>by rw[List.drop_zero];exact h) (by decide) (by decide) rfl) x7 Er (by decide) (by decide) (by decide) (λd h e=>NQ (by omega) h)) id):A:=c b
theorem k_3(c:B->A:=by exact iF (by first|exact Ev.skip (λ_=>rfl)|refine D6 (λ_=>rfl) (λa w=>by simp only[VS.act,SV.c,List.map_cons,List.map_nil];go_simp;exact rfl) (λ_ _=>rfl)) id):A:=c b
theorem k_4(c:B->A:=by exact iF (by first|exact BA rfl gg rfl rfl rfl yI rfl (by simp) rfl|exact Bh (vl:=[.fn (AN 0) (.d 15),.fn (AN 1) (.d 15),.fn (AN 2) (.d 15)]) [4,15] rfl gg rfl rfl rfl yI rfl (λf S e _ a=>by obtain⟨c,h1,h2⟩:=C9 (id:=15) a (by simp) rfl;have hf:=fn3 h1 (Cu h2);exact⟨hf.1,hf.2▸Ib h2⟩) rfl (by simp)|exact Bh (vl:=[.fn (AN 0) (.d 15),.fn (AN 1) (.d 15),.fn (AN 2) (.d 15)]) [2,15] rfl gg rfl rfl rfl yI rfl (λf S e _ a=>by obtain⟨c,h1,h2⟩:=C9 (id:=15) a (by simp) rfl;have hf:=fn3 h1 (Cu h2);exact⟨DC _,hf.2▸Ib h2⟩) rfl (by simp)) id):A:=c b
theorem k_6(c:B->A:=by exact iF (by first|exact Et (l':=OL (F++[(X>>>24).toNat %256])) rfl gg rfl rfl rfl yG rfl (by rw[Fi (by first|omega|(simp;omega))];omega) rfl (Qn _ (by first|omega|(simp;omega)) (by first|omega|(simp;omega)))|exact Et (l':=OL (F++[(X>>>24).toNat %256]++[(X>>>16).toNat %256])) rfl gg rfl rfl rfl yG rfl (by rw[Fi (by first|omega|(simp;omega))];omega) rfl (Qn _ (by first|omega|(simp;omega)) (by first|omega|(simp;omega)))|exact Et (l':=OL (F++[(X>>>24).toNat %256]++[(X>>>16).toNat %256]++[(X>>>8).toNat %256])) rfl gg rfl rfl rfl yG rfl (by rw[Fi (by first|omega|(simp;omega))];omega) rfl (Qn _ (by first|omega|(simp;omega)) (by first|omega|(simp;omega)))|exact Et (l':=OL (F++[(X>>>24).toNat %256]++[(X>>>16).toNat %256]++[(X>>>8).toNat %256]++[X.toNat %256])) rfl gg rfl rfl rfl yG rfl (by rw[Fi (by first|omega|(simp;omega))];omega) rfl (Qn _ (by first|omega|(simp;omega)) (by first|omega|(simp;omega)))) id):A:=c b
theorem k_8(c:B->A:=by exact iF (by first|exact BA rfl gg rfl rfl rfl yH rfl (by simp) rfl|exact Bh (vl:=[.fn (AN 0) (.d 13),.fn (AN 1) (.d 13),.fn (AN 2) (.d 13)]) [4,13] rfl gg rfl rfl rfl yH rfl (λf S e _ a=>by obtain⟨c,h1,h2⟩:=Cd (id:=13) a (by simp) rfl;have hf:=fn3 h1 (CS h2);exact⟨hf.1,hf.2▸HB h2⟩) rfl (by simp)|exact Bh (vl:=[.fn (AN 0) (.d 13),.fn (AN 1) (.d 13),.fn (AN 2) (.d 13)]) [2,13] rfl gg rfl rfl rfl yH rfl (λf S e _ a=>by obtain⟨c,h1,h2⟩:=Cd (id:=13) a (by simp) rfl;have hf:=fn3 h1 (CS h2);exact⟨DC _,hf.2▸HB h2⟩) rfl (by simp)) id):A:=c b
theorem k_9(c:B->A:=by exact A3 (by refine D6 gg (λa w=>by simp only[VS.act,SV.c,List.map_cons,List.map_nil];go_simp;exact rfl) (λ_ _=>rfl)) id):A:=c b
theorem mq(c:B->A:=by exact A3 (by first|exact G2 (a:=1) (b:=32) rfl gg rfl rfl x7 yG (by decide) rfl rfl (by decide) (by decide)|exact G2 (a:=2) (b:=32) rfl gg rfl rfl x7 yG (by decide) rfl rfl (by decide) (by decide)|exact G2 (a:=4) (b:=32) rfl gg rfl rfl x7 yG (by decide) rfl rfl (by decide) (by decide)|exact G2 (a:=8) (b:=32) rfl gg rfl rfl x7 yG (by decide) rfl rfl (by decide) (by decide)|exact G2 (a:=16) (b:=32) rfl gg rfl rfl x7 yG (by decide) rfl rfl (by decide) (by decide)) id):A:=c b
theorem NE(c:B->A:=by exact A3 (by first|exact G2 (a:=0) (b:=1) rfl gg rfl rfl x7 yG (by decide) rfl rfl (by decide) (by decide)|exact G2 (a:=0) (b:=2) rfl gg rfl rfl x7 yG (by decide) rfl rfl (by decide) (by decide)|exact G2 (a:=0) (b:=4) rfl gg rfl rfl x7 yG (by decide) rfl rfl (by decide) (by decide)|exact G2 (a:=0) (b:=8) rfl gg rfl rfl x7 yG (by decide) rfl rfl (by decide) (by decide)|exact G2 (a:=0) (b:=16) rfl gg rfl rfl x7 yG (by decide) rfl rfl (by decide) (by decide)) id):A:=c b
theorem Du(c:B->A:=by exact iF (by first|exact C7 rfl gg rfl rfl uA4 RW (by decide) (by decide)|exact DK rfl gg rfl rfl uA4 RW (by decide) (by decide)) id):A:=c b
theorem Pq(c:B->A:=by exact iF (by first|exact BA rfl gg rfl rfl rfl yH rfl (by simp) rfl|exact Bh (vl:=[.fn (AN 0) (.d 67),.fn (AN 1) (.d 67),.fn (AN 2) (.d 67)]) [13,67] rfl gg rfl rfl rfl yH rfl (λf S e _ a=>by obtain⟨c,h1,h2⟩:=Cd (id:=67) a (by simp) rfl;have hf:=fn3 h1 (CS h2);exact⟨hf.1,hf.2▸HB h2⟩) rfl (by simp)|exact Bh (vl:=[.v (.int .i64 (tg:Nat)),.v (.slice none 0 0),.d 900]) [4,900] rfl gg rfl rfl rfl yH rfl (λf S e _ a=>⟨DC _,by have hh:=Cf (id:=900) a (by simp) rfl;simp only[SV.cs,SV.c,List.all_cons,List.all_nil,hh.2];rfl⟩) rfl (by simp)) id):A:=c b
theorem FX(c:B->A:=by exact A3 (by first|exact Ev.skip (λ_=>rfl)|refine D6 (λ_=>rfl) (λa w=>by simp only[VS.act,SV.c,List.map_cons,List.map_nil];go_simp;exact rfl) (λ_ _=>rfl)) id):A:=c b
theorem DJ(c:B->A:=by exact iF (by first|exact BK rfl gg rfl rfl uA7 rfl rfl|exact BR rfl gg rfl uA7 rfl (by assumption)) id):A:=c b
theorem Dt(c:B->A:=by exact iF (by first|exact BK rfl gg rfl rfl uA5 rfl rfl|exact BR rfl gg rfl uA5 rfl (by assumption)) id):A:=c b
theorem TH(c:B->A:=by exact iF (by first|exact BA rfl gg rfl rfl rfl yI rfl (by simp) rfl|exact Bh (vl:=[.fn (AN 0) (.d 96),.fn (AN 1) (.d 96),.fn (AN 2) (.d 96)]) [13,96] rfl gg rfl rfl rfl yI rfl (λf S e _ a=>by obtain⟨c,h1,h2⟩:=C9 (id:=96) a (by simp) rfl;have hf:=fn3 h1 (Cu h2);exact⟨hf.1,hf.2▸Ib h2⟩) rfl (by simp)|exact Bh (vl:=[.v (.int .i64 (tg:Nat)),.v (.string (ByteArray.mk #[])),.d 900]) [4,900] rfl gg rfl rfl rfl yI rfl (λf S e _ a=>⟨DC _,by have hh:=Cf (id:=900) a (by simp) rfl;simp only[SV.cs,SV.c,List.all_cons,List.all_nil,hh.2];rfl⟩) rfl (by simp)) id):A:=c b
theorem mg(c:B->A:=by exact A3 (by first|exact BE (a:=1) (b:=1) (c:=2) rfl gg rfl rfl (by decide)|exact BE (a:=2) (b:=2) (c:=4) rfl gg rfl rfl (by decide)|exact BE (a:=4) (b:=4) (c:=8) rfl gg rfl rfl (by decide)|exact BE (a:=8) (b:=8) (c:=16) rfl gg rfl rfl (by decide)|exact BE (a:=16) (b:=16) (c:=32) rfl gg rfl rfl (by decide)) id):A:=c b
theorem mf(c:B->A:=by exact A3 (by first|exact HW (a:=1) (b:=32) (c:=1) rfl gg rfl rfl rfl|exact HW (a:=2) (b:=32) (c:=2) rfl gg rfl rfl rfl|exact HW (a:=4) (b:=32) (c:=4) rfl gg rfl rfl rfl|exact HW (a:=8) (b:=32) (c:=8) rfl gg rfl rfl rfl|exact HW (a:=16) (b:=32) (c:=16) rfl gg rfl rfl rfl) id):A:=c b
theorem ZO(c:B->A:=by exact iF (by first|exact Et (l':=(sha ([I].flatten++ls.flatten)).map b8) rfl gg rfl rfl rfl yR (by simp[Value.cells,sha_len]) (by rw[Fi (by simp)];decide) (by show((sha ([I].flatten++ls.flatten)).map b8).toArray.toList.all _=true;exact DR _) (by rw[List.take_zero,List.nil_append,DB (by rw[Fi (by simp)];decide),List.append_nil];simp[Value.cells])|exact Et (l':=(sha [O,sha ([I].flatten++ls.flatten)].flatten).map b8) rfl gg rfl rfl rfl yR (by simp[Value.cells,sha_len]) (by rw[Fi (by simp)];decide) (by show((sha [O,sha ([I].flatten++ls.flatten)].flatten).map b8).toArray.toList.all _=true;exact DR _) (by rw[List.take_zero,List.nil_append,DB (by rw[Fi (by simp)];decide),List.append_nil];simp[Value.cells])) id):A:=c b
theorem ES(c:B->A:=by exact iF (by first|exact Ev.skip (λ_=>rfl)|exact BV (p:=false) rfl (λ_=>rfl) rfl rfl (yB (by omega))) id):A:=c b
theorem Dd(c:B->A:=by exact iF (by exact HX rfl gg rfl yF) id):A:=c b
theorem ER(c:B->A:=by exact iF (by exact BE (c:=((i+1:Nat):Int)) rfl gg rfl rfl (by rw[Ah (by omega) (by omega)];omega)) id):A:=c b
theorem CU(c:B->A:=by exact iF (by exact BU rfl gg rfl x7 (AW hv)) id):A:=c b
theorem FW(c:B->A:=by exact iF (by exact A6 (cells:=#[.int .i64 0,.string (ByteArray.mk #[]),.slice none 0 0]) rfl gg rfl UR) id):A:=c b
theorem TG(c:B->A:=by exact A3 (by exact NU (ys:=[.s 9 0 32 32]) (size:=1) (l:=[.s 9 0 32 32]) (ls:=[[.s 9 0 32 32]]) [] rfl rfl gg rfl rfl rfl (λi S h f e j y g d a=>by rcases j with _|j<;>simp only[List.getElem?_cons_zero,List.getElem?_cons_succ,List.getElem?_nil,yT,reduceCtorEq]at d a<;>(subst d a;first|exact X5)) (by simp) rfl rfl yX (by kernel_rfl) (by kernel_rfl) (by decide) (by decide)) id):A:=c b
theorem HQ(c:B->A:=by exact iF (by first|exact BK rfl gg rfl rfl x7 rfl rfl|exact BR rfl gg rfl x7 rfl (by assumption)) id):A:=c b
theorem ZN(c:B->A:=by exact A3 (by exact NU (ys:=[.s 9 0 32 32,.d 32,.s 2 0 32 32,.s 7 0 32 32]) (size:=1) (l:=[.s 9 0 32 32,.d 32,.s 2 0 32 32,.s 7 0 32 32]) (ls:=[[.s 9 0 32 32],[.d 32],[.s 2 0 32 32],[.s 7 0 32 32]]) [32] rfl rfl gg rfl rfl rfl (λk S i g f j y h e a=>by have h32:=Cf (id:=32) f (by simp) rfl;rcases j with _|_|_|_|j<;>simp only[List.getElem?_cons_zero,List.getElem?_cons_succ,List.getElem?_nil,yT,reduceCtorEq]at e a<;>(subst e a;first|exact X5|exact h32.1)) (by simp) rfl rfl yX (by kernel_rfl) (by kernel_rfl) (by decide) (by decide)) id):A:=c b
theorem FU(c:B->A:=by exact iF (by exact BM (p:=false) rfl gg rfl rfl (yB (by simp only[List.length_cons];omega))) id):A:=c b
theorem me(c:B->A:=by exact iF (by exact Ad (v:=.tuple #[.int .i64 (tg:Nat),.int .i64 (n:Nat),.int .i64 (k:Nat)]) rfl gg rfl (eo func99) (λd a=>by have:=nL d (A5 hv a) h8 hbl;rw[hh]at this;exact this)) id):A:=c b
theorem ZM(c:B->A:=by exact iF (by first|exact Ev.skip (λ_=>rfl)|exact BU rfl (λ_=>rfl) rfl x7 (AW hv)) id):A:=c b
theorem F9(c:B->A:=by exact A3 (by exact NS rfl gg rfl yY yG) id):A:=c b
theorem M2(c:B->A:=by exact A3 (by first|exact BM (p:=true) rfl gg rfl rfl (by decide)|exact BM (p:=false) rfl gg rfl rfl (by decide)) id):A:=c b
theorem M1(c:B->A:=by exact iF (by first|exact Ev.skip (λ_=>rfl)|exact Ad rfl (λ_=>rfl) rfl (eo func55) (λd a=>by have:=Od _ hok 1 _ d _ (by decide) (G9 a hx);rw[h_q2]at this;exact this)) id):A:=c b
theorem ZL(c:B->A:=by exact iF (by exact Cs [32,27,30,900] rfl rfl gg rfl (eo func95) (n:=1+(Ao acc.length).length+acc.length) (size:=1) (l:=[b8 (tb t)]++(Ao acc.length).map b8++acc.map b8) (by simp;omega) (λg S d e a=>by obtain⟨_,s0⟩:=Lx (id:=27) a (by simp) rfl;obtain⟨_,s1⟩:=Lx (id:=30) a (by simp) rfl;obtain⟨_,s2⟩:=Lx (id:=900) a (by simp) rfl;exact pW d (fD (id:=32) a (by simp) rfl) s0 s1 s2 rfl (DR _) (DR _) (by have:=QJ acc.length;omega))) id):A:=c b
theorem mc(c:B->A:=by exact iF (by exact Ag (p:=false) rfl gg rfl rfl (by decide)) id):A:=c b
theorem ZK(c:B->A:=by exact iF (by first|exact Cs [16] rfl rfl gg rfl (eo func63) (n:=(0::AY bs).length) (size:=1) (l:=(0::AY bs).map b8) (by simp) (λg S a e d=>by obtain⟨_,s0⟩:=Lx (id:=16) d (by simp) rfl;rw[Nat.add_comm]at s0;exact Nl (bs:=0::AY bs) a s0 (by simp;omega))|exact Cs [] rfl rfl gg rfl (eo func63) (n:=(AY bs).length) (size:=1) (l:=(AY bs).map b8) (by simp) (λg S a e d=>Nl a (A5 htv e) (by omega))) id):A:=c b
theorem F8(c:B->A:=by exact iF (by exact AK rfl gg rfl rfl (λw=>sA _ _ _ _ w)) id):A:=c b
theorem mb(c:B->A:=by exact A3 (by exact DL (D:=HY nn) (ys:=[N nn]) [] rfl rfl gg rfl (eo func80) (λg S d a e=>kb d (hL.bw a))) id):A:=c b
theorem JY(c:B->A:=by exact iF (by first|exact BG rfl gg rfl underlying250 rfl y7|exact BF rfl gg rfl underlying250 rfl y7) id):A:=c b
theorem JW(c:B->A:=by exact iF (by exact Cb rfl gg rfl yL rfl (AW hv) (rfl)) id):A:=c b
theorem FS(c:B->A:=by exact iF (by exact BV (p:=false) rfl gg rfl rfl (yB (by omega))) id):A:=c b
theorem Pb(c:B->A:=by exact iF (by exact DL (D:=AU t) (ys:=[.string (AB r),.bool true]) [] rfl rfl gg rfl (eo func54) (λe S a d _=>by have:=Sc 8 _ 1 a rfl h8 hbl;rw[hz]at this;exact this)) id):A:=c b
theorem ZJ(c:B->A:=by exact iF (by first|exact Bh (vl:=[.d 29]) [801,29] rfl gg rfl rfl rfl y7 rfl (λf S e _ a=>by have hh:=Cf (id:=29) a (by simp) rfl;exact⟨hh.1,by simp[SV.cs,SV.c,hh.2]⟩) rfl (by simp)|exact Bh (vl:=[.d 56]) [801,56] rfl gg rfl rfl rfl y7 rfl (λf S e _ a=>by have hh:=Cf (id:=56) a (by simp) rfl;exact⟨hh.1,by simp[SV.cs,SV.c,hh.2]⟩) rfl (by simp)) id):A:=c b
theorem IP(c:B->A:=by exact iF (by exact BE (c:=((k+n:Nat):Int)) rfl gg rfl rfl (by rw[Ah (by omega) (by omega)];omega)) id):A:=c b
theorem El(c:B->A:=by exact iF (by exact BU rfl gg rfl x7 (BI rfl)) id):A:=c b
theorem TC(c:B->A:=by exact iF (by first|exact BD rfl gg rfl rfl uA4 rfl sizeOf248 rfl rfl|exact A2 rfl gg rfl uA4 rfl sizeOf248 (by assumption) rfl|exact Bi rfl gg rfl rfl uA4 rfl sizeOf248 rfl) id):A:=c b
theorem Kt(c:B->A:=by exact A3 (by exact LD (a:=32) (b:=64) rfl gg rfl y9 yG rfl rfl (by decide) (by decide) (by decide)) id):A:=c b
theorem Mx(c:B->A:=by exact iF (by first|exact Ev.skip (λ_=>rfl)|exact Bu (c:=((b.length:Int)-(k:Int))) rfl (λ_=>rfl) rfl rfl (by rw[Ah (by omega) (by omega)])) id):A:=c b
theorem Ks(c:B->A:=by exact A3 (by exact LD (a:=0) (b:=32) rfl gg rfl y9 yG rfl rfl (by decide) (by decide) (by decide)) id):A:=c b
theorem ZI(c:B->A:=by exact iF (by first|exact BA rfl gg rfl rfl rfl yH rfl (by simp) rfl|exact Bh (vl:=[.v (.int .i64 (tg:Nat)),.d 53,.v (.slice none 0 0)]) [4,53] rfl gg rfl rfl rfl yH rfl (λf S e _ a=>⟨DC _,by have hh:=Cf (id:=53) a (by simp) rfl;simp only[SV.cs,SV.c,List.all_cons,List.all_nil,hh.2];rfl⟩) rfl (by simp)) id):A:=c b
theorem ma(c:B->A:=by exact iF (by exact Bc (k:=1) rfl gg rfl rfl x7 yG (AW hv) (by simp) (by decide)) id):A:=c b
theorem Kr(c:B->A:=by exact iF (by exact A6 (cells:=#[.int .i64 (t:Nat),.string (ByteArray.mk #[]),.slice none 0 0]) rfl gg rfl (qk _)) id):A:=c b
theorem JV(c:B->A:=by exact iF (by exact A6 (cells:=#[.int .i64 0,.slice none 0 0,.slice none 0 0]) rfl gg rfl qj) id):A:=c b
theorem Kq(c:B->A:=by exact iF (by first|exact Ev.skip (λ_=>rfl)|exact BV (p:=true) rfl (λ_=>rfl) rfl rfl (yE (by omega))) id):A:=c b
theorem IM(c:B->A:=by exact A3 (by exact BB (p:=false) rfl gg rfl rfl (by decide)) id):A:=c b
theorem FR(c:B->A:=by exact iF (by exact Ag (p:=true) rfl gg rfl rfl (by decide)) id):A:=c b
theorem mZ(c:B->A:=by exact A3 (by exact Ad (v:=.tuple #[PT x y,.int .i64 0]) rfl gg rfl (eo func78) (λd a=>hrd d a)) id):A:=c b
theorem HP(c:B->A:=by exact iF (by exact BM (p:=false) rfl gg rfl rfl (yB (by omega))) id):A:=c b
theorem ZH(c:B->A:=by exact iF (by first|exact Et (l':=WL (Fv b (i+1))) rfl gg rfl rfl rfl RW rfl (by rw[ci (by rw[Oe];omega)];omega) rfl (hs1 i (by omega))|exact Et (l':=WL (M++[_])) rfl gg rfl rfl rfl RW rfl (by rw[ci (by omega)];omega) rfl (by rw[<-hMl];exact cg _ (by omega))) id):A:=c b
theorem TB(c:B->A:=by exact iF (by first|exact Ev.skip (λ_=>rfl)|exact Ad rfl (λ_=>rfl) rfl (eo func48) (λd a=>by have:=Oh _ hok 1 _ d _ (by decide) (ED a hx);rw[h_q2]at this;exact this)) id):A:=c b
theorem PX(c:B->A:=by exact A3 (by exact Ad (v:=.bool true) rfl gg rfl (eo func79) (λe d=>by have a:=LC hr e (hL.bw d);rw[sr]at a;exact a)) id):A:=c b
theorem JU(c:B->A:=by exact iF (by exact Bu (c:=((c:Int)-128)) rfl gg rfl rfl (by rw[Ah (by omega) (by omega)])) id):A:=c b
theorem IL(c:B->A:=by exact iF (by exact B1 rfl gg rfl (λw=>Nc hc w)) id):A:=c b
theorem TA(c:B->A:=by exact A3 (by first|exact Ev.skip (λ_=>rfl)|exact Ad (v:=.bool true) rfl (λ_=>rfl) rfl (eo func79) (λe d=>by have a:=LC ht e (hL.bw d);rw[st]at a;exact a)) id):A:=c b
theorem Kp(c:B->A:=by exact iF (by exact Bc (k:=i) rfl gg rfl rfl x7 yG (BI rfl) (hlt) (by decide)) id):A:=c b
theorem Ko(c:B->A:=by exact iF (by first|exact Ev.skip (λ_=>rfl)|exact BV (p:=false) rfl (λ_=>rfl) rfl rfl (by decide)) id):A:=c b
theorem ZG(c:B->A:=by exact iF (by first|exact Ji (n:=(0::AY bs).length) (size:=1) (l:=(0::AY bs).map b8) rfl gg rfl rfl (BI rfl) (λp m q=>Jm 2 p m q)|exact Ji (n:=(AY bs).length) (size:=1) (l:=(AY bs).map b8) rfl gg rfl rfl (BI rfl) (λp m q=>Jm 2 p m q)) id):A:=c b
theorem Gu(c:B->A:=by exact iF (by exact AK rfl gg rfl rfl (λw=>dJ _ _ _ _ w)) id):A:=c b
theorem FQ(c:B->A:=by exact iF (by exact B1 rfl gg rfl (λw=>pF _ w)) id):A:=c b
theorem PW(c:B->A:=by exact iF (by first|exact Ev.skip (λ_=>rfl)|exact BM (p:=false) rfl (λ_=>rfl) rfl rfl (yB (by simp only[List.length_cons];omega))) id):A:=c b
theorem JR(c:B->A:=by exact iF (by first|exact Ev.skip (λ_=>rfl)|exact Ew rfl (λ_=>rfl) rfl rfl h_q3') id):A:=c b
theorem Tg(c:B->A:=by exact iF (by exact Aj (v:=.tuple #[.string (AB (wrT t).1),.int .i64 (wrT t).2]) [15] rfl gg rfl (eo func31) (λg S e d a=>qA 15 hok hwt a (by simp) rfl)) id):A:=c b
theorem Gx(c:B->A:=by exact A3 (by exact NV rfl gg rfl yY (by decide)) id):A:=c b
theorem Tf(c:B->A:=by exact iF (by first|exact Ev.skip (λ_=>rfl)|exact AK (c:=.bool false) rfl (λ_=>rfl) rfl rfl (λw=>Hp (b:=[]) (yB (λh=>h hr0)) hr8 (λx a=>by cases a) _ _ w)) id):A:=c b
theorem NG(c:B->A:=by exact iF (by first|exact Ev.skip (λ_=>rfl)|exact CF (k:=0) rfl (λ_=>rfl) rfl rfl yF (hg0) (hh8)) id):A:=c b
theorem Gv(c:B->A:=by exact iF (by exact BM (p:=false) rfl gg rfl rfl (by decide)) id):A:=c b
theorem Zq(c:B->A:=by exact iF (by exact Bh (vl:=[.v (.int .i64 2),.d 18,.v (.slice none 0 0)]) [2,18] rfl gg rfl rfl rfl yH rfl (λf S e _ a=>⟨DC _,by have hh:=Cf (id:=18) a (by simp) rfl;simp only[SV.cs,SV.c,List.all_cons,List.all_nil,hh.2];rfl⟩) rfl (by simp)) id):A:=c b
theorem Pz(c:B->A:=by exact A3 (by exact QE rfl rfl gg rfl (eo func122) (Ck pp) 199 (λd a=>Sk d (hL.bw a))) id):A:=c b
theorem ND(c:B->A:=by exact iF (by exact Bc (k:=0) rfl gg rfl rfl x7 yG (AW hv) (by simp) (by decide)) id):A:=c b
theorem NC(c:B->A:=by exact A3 (by exact AM rfl gg rfl (eo func87) (λd a=>rP d (hL.bw a))) id):A:=c b
theorem Td(c:B->A:=by exact A3 (by exact Aj (v:=.tuple #[N i,.int .i64 0]) [40] rfl gg rfl (eo func81) (λg S e d a=>bM (id:=40) a (by simp) rfl ht hi hv)) id):A:=c b
theorem Zo(c:B->A:=by exact iF (by first|exact A6 (cells:=#[.int .i64 2,.string (AB (0::x)),.slice none 0 0]) rfl gg rfl (LP 2 (AB (0::x)))|exact A6 (cells:=#[.int .i64 2,.string (AB x),.slice none 0 0]) rfl gg rfl (LP 2 (AB x))) id):A:=c b
theorem Tc(c:B->A:=by exact A3 (by exact Aj (v:=N (i*h %nn)) [40] rfl gg rfl (eo zO) (λg S e d a=>QP (id:=40) a (by simp) rfl (PR hi) hh)) id):A:=c b
theorem Tb(c:B->A:=by exact A3 (by exact Aj (v:=N (i*r %nn)) [40] rfl gg rfl (eo zO) (λg S e d a=>QP (id:=40) a (by simp) rfl (PR hi) hr)) id):A:=c b
theorem NB(c:B->A:=by exact A3 (by exact AM rfl gg rfl (eo zZ) (λd a=>ofN h hh d)) id):A:=c b
theorem Zn(c:B->A:=by exact iF (by exact IU [] rfl rfl gg rfl (eo func53) (n:=8) (size:=1) (ty:=5) (l:=l.map b8) (y:=.int .i64 0) (by simp[hll]) (λg S d a e=>VC (sz:=8) d hok (ED a hx) (by decide) h)) id):A:=c b
theorem Ta(c:B->A:=by exact iF (by exact Bu (c:=((sz-(AY b).length:Nat):Int)) rfl gg rfl rfl (by have:=yC h_q4;rw[Ah (by omega) (by omega)];omega)) id):A:=c b
theorem Py(c:B->A:=by exact iF (by first|exact Ev.skip (λ_=>rfl)|exact Cb rfl (λ_=>rfl) rfl yL rfl (AW hv) (rfl)) id):A:=c b
theorem Zm(c:B->A:=by exact iF (by exact DL (D:=AR t) (ys:=[rdV 8 v b,.bool true]) [] rfl rfl gg rfl (eo func52) (λe S d a _=>by have:=Ry 8 _ _ _ 1 d rfl (A5 hv a) h8 hbl;rw[hz]at this;exact this)) id):A:=c b
theorem HS(c:B->A:=by exact iF (by exact B1 rfl gg rfl (λw=>Nc ht w)) id):A:=c b
theorem TZ(c:B->A:=by exact iF (by first|exact BG rfl gg rfl underlying250 rfl sizeOf248|exact BF rfl gg rfl underlying250 rfl sizeOf248) id):A:=c b
theorem TY(c:B->A:=by exact A3 (by first|exact Ev.skip (λ_=>rfl)|exact Bc rfl (λ_=>rfl) rfl rfl x7 yG (AW hv) (by decide) (by decide)) id):A:=c b
theorem TX(c:B->A:=by exact iF (by first|exact BG rfl gg rfl underlying250 rfl DS|exact BF rfl gg rfl underlying250 rfl DS) id):A:=c b
theorem K8(c:B->A:=by exact iF (by exact BM (p:=true) rfl gg rfl rfl (yE (by omega))) id):A:=c b
theorem K7(c:B->A:=by exact iF (by exact Cb rfl gg rfl x7 rfl (AW hv) (rfl)) id):A:=c b
theorem Zl(c:B->A:=by exact iF (by exact Cs [] rfl rfl gg rfl (eo func96) (n:=(Ao acc.length).length) (l:=(Ao acc.length).map b8) (by simp) (λe S a d _=>pM acc.length (by omega) a)) id):A:=c b
theorem K6(c:B->A:=by exact iF (by exact CF (k:=0) rfl gg rfl rfl yF (rfl) (ht)) id):A:=c b
theorem K5(c:B->A:=by exact iF (by exact CF (k:=1) rfl gg rfl rfl yF (rfl) (hc)) id):A:=c b
theorem Px(c:B->A:=by exact iF (by exact BE (c:=((d+1:Nat):Int)) rfl gg rfl rfl (by rw[Ah (by omega) (by omega)];omega)) id):A:=c b
theorem Zk(c:B->A:=by exact A3 (by first|exact Ev.skip (λ_=>rfl)|exact Aj (v:=N (xv X %nn)) [40] rfl (λ_=>rfl) rfl (eo func88) (λg S e d a=>bI (id:=40) a (by simp) rfl (Hd X))) id):A:=c b
theorem TW(c:B->A:=by exact A3 (by exact AM rfl gg rfl (eo func85) (λd a=>Ui (IB _) hA TollEc.base_on d (hL.bw a))) id):A:=c b
theorem Pw(c:B->A:=by exact iF (by exact BE (c:=((3:Nat):Int)) rfl gg rfl rfl (by rw[Ah (by omega) (by omega)];omega)) id):A:=c b
theorem Pv(c:B->A:=by exact iF (by exact BE (c:=((1:Nat):Int)) rfl gg rfl rfl (by rw[Ah (by omega) (by omega)];omega)) id):A:=c b
theorem Pu(c:B->A:=by exact iF (by exact BE (c:=((2:Nat):Int)) rfl gg rfl rfl (by rw[Ah (by omega) (by omega)];omega)) id):A:=c b
theorem Zj(c:B->A:=by exact iF (by exact Cs [] rfl rfl gg rfl (eo func49) (n:=(CK t).length) (l:=(CK t).map b8) (by simp) (λe S d a _=>U0 t hok _ d _ (ED a hx) hwt)) id):A:=c b
theorem Zi(c:B->A:=by exact iF (by exact Di rfl rfl gg rfl rfl rfl (AW htv) x7 el5 (by decide) (by simp) (DR _) (by have:=hle h_q4;simp only[maxLen];omega) (by have:=hle h_q4;omega) (by simp)) id):A:=c b
theorem TV(c:B->A:=by exact iF (by first|exact Ev.skip (λ_=>rfl)|exact CF (k:=0) rfl (λ_=>rfl) rfl rfl yF (rfl) (h8 _ (by simp))) id):A:=c b
theorem Ps(c:B->A:=by exact iF (by exact aP rfl rfl gg rfl rfl x7 el5 zeroValue5 rfl (by omega)) id):A:=c b
theorem TU(c:B->A:=by exact A3 (by exact AM rfl gg rfl (eo func85) (λd a=>cj (IB _) hx hy hB d (hL.bw a))) id):A:=c b
theorem NA(c:B->A:=by exact iF (by exact Ag (p:=false) rfl gg rfl rfl (yB (by omega))) id):A:=c b
theorem Zg(c:B->A:=by exact iF (by first|exact Ev.skip (λ_=>rfl)|exact Bc (k:=0) rfl (λ_=>rfl) rfl rfl x7 yG (AW hv) (by have:=yA h_p1;omega) (by decide)) id):A:=c b
theorem M9(c:B->A:=by exact iF (by exact BM rfl gg rfl rfl h_q) id):A:=c b
theorem Pr(c:B->A:=by exact iF (by exact Cb rfl gg rfl yL rfl (AW (Nf hv hb (by omega))) (rfl)) id):A:=c b
theorem Pp(c:B->A:=by exact iF (by exact AK rfl gg rfl rfl (λw=>Rp (v:=0) (u:=0) (by decide) rfl _ _ w)) id):A:=c b
theorem K4(c:B->A:=by exact A3 (by exact BU rfl gg rfl x7 (AW hv)) id):A:=c b
theorem K3(c:B->A:=by exact iF (by exact AK rfl gg rfl rfl (λw=>kf _ _ _ _ w)) id):A:=c b
theorem Zd(c:B->A:=by exact iF (by exact oC (l':=(Eh (FO key) x (i+1)).map b8) rfl gg rfl rfl rfl yG (rZ _) rfl hlt (by rw[<-kR (by rw[hKl];exact hlt),List.map_set])) id):A:=c b
theorem mo(c:B->A:=by exact iF (by exact D8 (p:=true) rfl gg rfl rfl (by decide)) id):A:=c b
theorem Zc(c:B->A:=by exact iF (by exact Fa (a:=k+n) (b:=b.length) (v':=Ay (k+n) (b.length) 1 v) rfl gg rfl x7 yG (AW hv) rfl rfl (by omega) (by omega) rfl) id):A:=c b
theorem TT(c:B->A:=by exact A3 (by exact AM rfl gg rfl (eo func84) (λd a=>s9 hX oA oB d (hL.bw a))) id):A:=c b
theorem Zb(c:B->A:=by exact A3 (by exact P8 (vs:=l32 y) rfl gg rfl yY rfl yR (I2 (lo:=33) (hi:=65) (AW hv) (by decide) (by decide)) rfl rfl (by decide)) id):A:=c b
theorem Za(c:B->A:=by exact iF (by exact Di rfl rfl gg rfl rfl rfl (BI rfl) x7 el5 (by decide) (by simp[CW];omega) rfl (by simp only[maxLen];omega) (by omega) (by simp)) id):A:=c b
theorem TS(c:B->A:=by exact A3 (by first|exact Ev.skip (λ_=>rfl)|exact Cb rfl (λ_=>rfl) rfl yL rfl (AW hv) rfl) id):A:=c b
theorem ZZ(c:B->A:=by exact A3 (by exact P8 (vs:=l32 x) rfl gg rfl yY rfl yR (I2 (lo:=1) (hi:=33) (AW hv) (by decide) (by decide)) rfl rfl (by decide)) id):A:=c b
theorem K0(c:B->A:=by exact iF (by exact BM (p:=true) rfl gg rfl rfl (by decide)) id):A:=c b
theorem ZY(c:B->A:=by exact iF (by exact Di rfl rfl gg rfl rfl rfl (BI rfl) x7 el5 (by decide) (by simp;try omega) rfl (by simp only[maxLen];omega) (by omega) (by simp)) id):A:=c b
theorem Po(c:B->A:=by exact iF (by first|exact Ev.skip (λ_=>rfl)|exact Ag rfl (λ_=>rfl) rfl rfl h_q2') id):A:=c b
theorem M7(c:B->A:=by exact iF (by exact NW (l:=OL []) rfl rfl gg zeroValue64 rfl) id):A:=c b
theorem TR(c:B->A:=by exact A3 (by exact AM rfl gg rfl (eo func86) (λd a=>LO (i*h %nn) d)) id):A:=c b
theorem TQ(c:B->A:=by exact A3 (by exact AM rfl gg rfl (eo func86) (λd a=>LO (i*r %nn) d)) id):A:=c b
theorem TP(c:B->A:=by exact iF (by exact BL rfl rfl gg rfl (e:=5) (l:=[b8 (tb t)]) rfl (by decide) (λ_=>by kernel_rfl)) id):A:=c b
theorem ZX(c:B->A:=by exact A3 (by first|exact Ev.skip (λ_=>rfl)|exact AM rfl (λ_=>rfl) rfl (eo func124) (λe d=>S7 a nn ha (by decide) e)) id):A:=c b
theorem TO(c:B->A:=by exact iF (by exact Bu (c:=((b.length:Int)-(k:Int))) rfl gg rfl rfl (by rw[Ah (by omega) (by omega)])) id):A:=c b
theorem ZW(c:B->A:=by exact iF (by exact Ad (v:=.bool true) rfl gg rfl (eo func48) (λd a=>hr0▸Oh t hok 1 _ d _ (by omega) (ED a hx))) id):A:=c b
theorem ZU(c:B->A:=by exact iF (by first|exact Ev.skip (λ_=>rfl)|exact Bc (k:=0) rfl (λ_=>rfl) rfl rfl x7 yG (AW hv) (hpos h_q1 h_q2) (by decide)) id):A:=c b
theorem ZT(c:B->A:=by exact iF (by exact Fa (a:=k) (b:=k+n) (v':=Ay (k) (k+n) 1 v) rfl gg rfl x7 yG (AW hv) rfl rfl (by omega) (by omega) rfl) id):A:=c b
theorem TN(c:B->A:=by exact iF (by first|exact Ev.skip (λ_=>rfl)|exact BU rfl (λ_=>rfl) rfl x7 (AW hrs)) id):A:=c b
theorem ZS(c:B->A:=by exact A3 (by first|exact BE (a:=0) (b:=1) (c:=1) rfl gg rfl rfl (by decide)|exact BE (a:=1) (b:=1) (c:=2) rfl gg rfl rfl (by decide)) id):A:=c b
theorem ZR(c:B->A:=by exact A3 (by first|exact Ev.skip (λ_=>rfl)|exact AM rfl (λ_=>rfl) rfl (eo zZ) (λd a=>ofN (xv X) (Hd X) d)) id):A:=c b
theorem ZQ(c:B->A:=by exact iF (by exact oe [27,30,900] rfl rfl gg rfl rfl rfl (R1 (BI rfl) rfl) (R1 (BI rfl) rfl) (R1 (BI rfl) rfl) rfl bs3) id):A:=c b
theorem ZP(c:B->A:=by exact iF (by first|exact Ev.skip (λ_=>rfl)|exact Bc (k:=1) rfl (λ_=>rfl) rfl rfl x7 yG (AW hv) (by omega) (by decide)) id):A:=c b
theorem TM(c:B->A:=by exact iF (by exact BE (c:=((4:Nat):Int)) rfl gg rfl rfl (by rw[Ah (by omega) (by omega)];omega)) id):A:=c b
theorem M6(c:B->A:=by exact iF (by exact BU rfl gg rfl x7 (AW htv)) id):A:=c b
theorem Pn(c:B->A:=by exact iF (by exact D8 (p:=false) rfl gg rfl rfl (yB (by omega))) id):A:=c b
theorem Pm(c:B->A:=by exact iF (by exact AK rfl gg rfl rfl (λw=>Sr (n:=z) (by omega) _ _ w)) id):A:=c b
theorem TL(c:B->A:=by exact A3 (by exact AM rfl gg rfl (eo zZ) (λd a=>ofN t ht d)) id):A:=c b
theorem TK(c:B->A:=by exact A3 (by exact AM rfl gg rfl (eo zZ) (λd a=>ofN r hr d)) id):A:=c b
theorem Pk(c:B->A:=by exact iF (by exact BV (p:=true) rfl gg rfl rfl (yE (by omega))) id):A:=c b
theorem Pj(c:B->A:=by exact iF (by exact BA rfl gg rfl rfl rfl sizeOf248 rfl (by simp) rfl) id):A:=c b
theorem TJ(c:B->A:=by exact iF (by first|exact Ev.skip (λ_=>rfl)|exact HX rfl (λ_=>rfl) rfl yF) id):A:=c b
theorem mn(c:B->A:=by exact iF (by exact BB rfl gg rfl rfl h_q1) id):A:=c b
theorem Ph(c:B->A:=by exact iF (by exact B1 rfl gg rfl (λw=>pJ (P6 h8 _) w)) id):A:=c b
theorem Kz(c:B->A:=by exact iF (by exact BV rfl gg rfl rfl h_q') id):A:=c b
theorem TI(c:B->A:=by exact A3 (by exact NW rfl rfl gg zeroValue64 rfl) id):A:=c b
theorem Pg(c:B->A:=by exact iF (by exact B1 rfl gg rfl (λw=>pH _ w)) id):A:=c b
theorem Pf(c:B->A:=by exact iF (by exact B1 rfl gg rfl (λw=>Nc hx w)) id):A:=c b
end
theorem dO{P:Prop}(h:Q)(c:Q->P:=by
 intro h'q;first
 |(refine iD (by first|exact Ap rfl gg|exact CJ rfl gg|exact G3 rfl rfl gg rfl|exact Cy rfl gg rfl rfl|exact C8 rfl gg rfl rfl|exact CY rfl gg rfl rfl|exact Ca rfl gg rfl rfl|exact D7 rfl gg rfl|exact IS rfl gg rfl|exact IR rfl gg rfl) ?_;exact h'q)
 |(refine k_n ⟨by kernel_rfl,?_⟩;(try change VOk _ _ _ _ _);exact h'q)
 |(refine Fl ?_;exact h'q)
 |(refine k_p ?_;exact h'q)
 |(refine k_d (by kernel_rfl) ?_;exact h'q)
 |(refine GO ?_;(try change VOk _ _ _ _ _);exact h'q)
 |(refine Hf ?_;exact h'q)
 |(refine GP rfl ?_;exact h'q)
 |(refine GQ rfl ?_;exact h'q)):P:=c h
theorem aT{P:Prop}(h:Q)(c:Q->P:=by first|(intro h'q;first|(refine iD (by first|exact Ap rfl (λ_=>rfl)|exact CJ rfl (λ_=>rfl)|exact G3 rfl rfl (λ_=>rfl) rfl|exact Cy rfl (λ_=>rfl) rfl rfl|exact C8 rfl (λ_=>rfl) rfl rfl|exact CY rfl (λ_=>rfl) rfl rfl|exact Ca rfl (λ_=>rfl) rfl rfl|exact D7 rfl (λ_=>rfl) rfl|exact IS rfl (λ_=>rfl) rfl|exact IR rfl (λ_=>rfl) rfl) ?_;exact h'q)|(refine k_n ⟨by kernel_rfl,?_⟩;(try change VOk _ _ _ _ _);exact h'q)|(refine Fl ?_;exact h'q)|(refine k_p ?_;exact h'q)|(refine k_d (by kernel_rfl) ?_;exact h'q)|(refine GO ?_;(try change VOk _ _ _ _ _);exact h'q)|(refine Hf ?_;exact h'q)|(refine GP rfl ?_;exact h'q)|(refine GQ rfl ?_;exact h'q))|exact iF (by first|exact Ev.skip (λ_=>rfl)|exact BK rfl (λ_=>rfl) rfl rfl UndT.h rfl rfl|exact BR rfl (λ_=>rfl) rfl UndT.h rfl (by assumption)|exact BD rfl (λ_=>rfl) rfl rfl UndT.h rfl SizT.h rfl rfl|exact A2 rfl (λ_=>rfl) rfl UndT.h rfl SizT.h (by assumption) rfl|exact Bi rfl (λ_=>rfl) rfl rfl UndT.h rfl SizT.h rfl|exact BG rfl (λ_=>rfl) rfl UndT.h rfl (by first|exact DS|exact sizeOf4|exact yG|exact CD|exact y7|exact sizeOf43|exact sizeOf59|exact yR|exact sizeOf69|exact sizeOf248)|exact BF rfl (λ_=>rfl) rfl UndT.h rfl (by first|exact DS|exact sizeOf4|exact yG|exact CD|exact y7|exact sizeOf43|exact sizeOf59|exact yR|exact sizeOf69|exact sizeOf248)|exact BZ rfl rfl (λ_=>rfl) zeroValue22|exact BZ rfl rfl (λ_=>rfl) zeroValue34|exact BZ rfl rfl (λ_=>rfl) zeroValue38|exact BZ rfl rfl (λ_=>rfl) zeroValue61|exact BZ rfl rfl (λ_=>rfl) zeroValue64|exact BZ rfl rfl (λ_=>rfl) zeroValue71|exact BZ rfl rfl (λ_=>rfl) zeroValue141|exact BZ rfl rfl (λ_=>rfl) zeroValue147|exact BA rfl (λ_=>rfl) rfl rfl rfl SizT.h rfl (by simp) rfl) id):P:=c h
theorem AA{P:Prop}(h:Q)(c:Q->P:=by first|(intro h'q;first|(refine AX (by first|exact Ap rfl (λ_=>rfl)|exact CJ rfl (λ_=>rfl)|exact G3 rfl rfl (λ_=>rfl) rfl|exact Cy rfl (λ_=>rfl) rfl rfl|exact C8 rfl (λ_=>rfl) rfl rfl|exact CY rfl (λ_=>rfl) rfl rfl|exact Ca rfl (λ_=>rfl) rfl rfl|exact D7 rfl (λ_=>rfl) rfl|exact IS rfl (λ_=>rfl) rfl|exact IR rfl (λ_=>rfl) rfl) ?_;exact h'q)|(refine k_n ⟨by kernel_rfl,?_⟩;(try change VOk _ _ _ _ _);exact h'q)|(refine Fl ?_;exact h'q)|(refine k_p ?_;exact h'q)|(refine k_d (by kernel_rfl) ?_;exact h'q)|(refine GO ?_;(try change VOk _ _ _ _ _);exact h'q)|(refine Hf ?_;exact h'q)|(refine GP rfl ?_;exact h'q)|(refine GQ rfl ?_;exact h'q))|exact A3 (by first|exact Ev.skip (λ_=>rfl)|exact BK rfl (λ_=>rfl) rfl rfl UndT.h rfl rfl|exact BR rfl (λ_=>rfl) rfl UndT.h rfl (by assumption)|exact BD rfl (λ_=>rfl) rfl rfl UndT.h rfl SizT.h rfl rfl|exact A2 rfl (λ_=>rfl) rfl UndT.h rfl SizT.h (by assumption) rfl|exact Bi rfl (λ_=>rfl) rfl rfl UndT.h rfl SizT.h rfl|exact BG rfl (λ_=>rfl) rfl UndT.h rfl (by first|exact DS|exact sizeOf4|exact yG|exact CD|exact y7|exact sizeOf43|exact sizeOf59|exact yR|exact sizeOf69|exact sizeOf248)|exact BF rfl (λ_=>rfl) rfl UndT.h rfl (by first|exact DS|exact sizeOf4|exact yG|exact CD|exact y7|exact sizeOf43|exact sizeOf59|exact yR|exact sizeOf69|exact sizeOf248)|exact BZ rfl rfl (λ_=>rfl) zeroValue22|exact BZ rfl rfl (λ_=>rfl) zeroValue34|exact BZ rfl rfl (λ_=>rfl) zeroValue38|exact BZ rfl rfl (λ_=>rfl) zeroValue61|exact BZ rfl rfl (λ_=>rfl) zeroValue64|exact BZ rfl rfl (λ_=>rfl) zeroValue71|exact BZ rfl rfl (λ_=>rfl) zeroValue141|exact BZ rfl rfl (λ_=>rfl) zeroValue147|exact BA rfl (λ_=>rfl) rfl rfl rfl SizT.h rfl (by simp) rfl) id):P:=c h
theorem A4(b:B)(c:B->A:=by intro b;refine Q2 ?_;simp only[List.map_cons,List.map_nil];exact b):A:=c b
theorem Bz(b:B)(c:B->A:=by intro b;refine FX ?_;refine k_9 ?_;exact b):A:=c b
theorem F5(b:B)(c:B->A:=by intro b;refine dO ?_;refine F8 ?_;exact b):A:=c b
theorem Gh(b:B)(c:B->A:=by intro b;refine ma ?_;refine JW ?_;exact b):A:=c b
theorem Ki(b:B)(c:B->A:=by intro b;change VOk _ _ _ _ _;(iterate 2 refine dO ?_);exact b):A:=c b
end Go.Proofs.YtafbhakmkbehiaaGreatDoor
