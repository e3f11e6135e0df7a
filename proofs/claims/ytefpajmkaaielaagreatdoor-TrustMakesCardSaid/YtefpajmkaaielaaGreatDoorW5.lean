import Derived.Laws.AppendOwn
import Derived.Laws.IdiomStrings
import Derived.Laws.BytesString
import Derived.ChangeSame
import Derived.ChangeBears
import Derived.ReadAgain
import Derived.Lib.AppendStr
import Derived.Test.YtefpajmkaaielaaGreatDoorW1
open Go.Proofs.Tryz
set_option maxHeartbeats 4000000
set_option maxRecDepth 100000
section
namespace Go.Vx
open Go.RowKit Go.Toll
abbrev Bw(w w':World):Prop:=Below w.heap.size w w'
theorem Bw.refl(w:World):Bw w w:=Below.refl _ _
theorem Bw.trans{a b c:World}(h:Bw a b)(k:Bw b c):Bw a c:=Below.trans h (Below.mono k h.size)
structure Nm where
 g:Nat
 val:Value
deriving Inhabited
inductive SV where
 |v (x:Value)
 |p (id off:Nat)
 |s (id off len cap:Nat)
 |d (id:Nat)
 |fn (f:Value→Value) (x:SV)
 |agg (l:List SV)
 |tup (l:List SV)
deriving Inhabited
mutual
def SV.c(ρ:Nat→Nm):SV→Value
 | .v x=>x
 | .p id off=> .pointer (some ⟨(ρ id).g,off,none⟩)
 | .s id off len cap=> .slice (some ⟨(ρ id).g,off,none⟩) len cap
 | .d id=>(ρ id).val
 | .fn f x=>f (SV.c ρ x)
 | .agg l=> .agg (SV.cs ρ l).toArray
 | .tup l=> .tuple (SV.cs ρ l).toArray
def SV.cs(ρ:Nat→Nm):List SV→List Value
 | []=>[]
 |x::l=>SV.c ρ x::SV.cs ρ l
end
mutual
def SV.has(id:Nat):SV→Bool
 | .v _=>false
 | .p k _=>k==id
 | .s k _ _ _=>k==id
 | .d k=>k==id
 | .fn _ x=>SV.has id x
 | .agg l=>SV.hasL id l
 | .tup l=>SV.hasL id l
def SV.hasL(id:Nat):List SV→Bool
 | []=>false
 |x::l=>SV.has id x||SV.hasL id l
end
theorem A3(ρ:Nat→Nm): ∀l:List SV,SV.cs ρ l=l.map (SV.c ρ)
 | []=>by simp[SV.cs]
 |x::l=>by simp[SV.cs,A3 ρ l]
theorem NG(id:Nat): ∀l:List SV,SV.hasL id l=l.any (SV.has id)
 | []=>by simp[SV.hasL]
 |x::l=>by simp[SV.hasL,NG id l]
structure Dat where
 holds:List Value→World→(Nat→Prop)→Prop
 keep: ∀{xs:List Value} {w w':World} {S:Nat→Prop},holds xs w S→(∀k,S k→w'.heap[k]? =w.heap[k]?)→holds xs w' S
def Dat.exact(l:List Value):Dat:=⟨fun xs _ _=>xs=l,fun h _=>h⟩
theorem ZG(a:Addr)(i:Nat):(a.add i).block=a.block:=by unfold Addr.add;split<;>rfl
theorem Rc(a:Addr)(m i:Nat):(a.add m).add i=a.add (m+i):=by
 unfold Addr.add;by_cases h:m=0
 ·subst h;simp
 ·by_cases h2:i=0
  ·subst h2;simp[h]
  ·simp[h,h2,Nat.add_assoc]
def AJ(w:World)(v:Value)(n size:Nat)(l:List Value)(S:Nat→Prop):Prop:=
 ∃ao cap,v= .slice ao n cap∧n≤cap∧l.length=n*size∧(l=[]∨ ∃a,ao=some a∧S a.block∧ ∀i x,l[i]? =some x→w.cell? (a.add i)=some x)
theorem AJ.keep{w w':World}{v:Value}{n size:Nat}{l:List Value}{S:Nat→Prop}(h:AJ w v n size l S)(hk: ∀k,S k→w'.heap[k]? =w.heap[k]?):AJ w' v n size l S:=by
 obtain⟨ao,cap,h1,h2,h3,h4⟩:=h;refine⟨ao,cap,h1,h2,h3,h4.imp id fun⟨g,a,b,c⟩=>⟨g,a,b,fun i x hx=> ?_⟩⟩;exact(World.cell?_of_block (w:=w) (a:=g.add i) (by rw[ZG];exact hk _ b)).trans (c i x hx)
def Dat.sl(n size:Nat)(l:List Value):Dat:=⟨fun xs w S=> ∃v,xs=[v]∧AJ w v n size l S,fun⟨v,e,h⟩ hk=>⟨v,e,h.keep hk⟩⟩
inductive Blk where
 |cells (l:List SV) (ty:TypeId)
 |row (n size:Nat) (ty:TypeId) (D:Dat)
 |dat (D:Dat)
 |arr (l:List Value) (ty:TypeId)
 |pin (j g:Nat)
 |floor (n:Nat)
def Blk.has(id:Nat):Blk→Bool
 | .cells l _=>SV.hasL id l
 | .row _ _ _ _=>false
 | .dat _=>false
 | .arr _ _=>false
 | .pin j _=>SV.hasL id [.p j 0]
 | .floor _=>false
def Blk.owns(n:Nm):Blk→Prop
 | .cells _ _=>True
 | .row _ _ _ _=>n.val≠ .slice none 0 0
 | .dat _=>False
 | .arr _ _=>True
 | .pin _ _=>False
 | .floor _=>False
abbrev Mem:=Nat→Option Blk
structure VS where
 fr:List SV
 mem:Mem
def VS.act(s:VS)(ρ:Nat→Nm):Act:=⟨(s.fr.map (SV.c ρ)).toArray,[]⟩
def Cb(ρ:Nat→Nm)(l:List SV)(ty:TypeId):Obj:= .cells (SV.cs ρ l).toArray ty (0,0)
def Ey(w:World)(base:Nat)(m:Nm)(n size:Nat)(ty:TypeId)(xs:List Value):Prop:=
 (m.val= .slice none 0 0∧n=0)∨ ∃off cap cur fz,m.val= .slice (some ⟨m.g,off,none⟩) n cap∧base≤m.g∧w.heap[m.g]? =some (.cells cur ty fz)∧(fz=(0,0)∨fz=(cur.size,cur.size+1))∧n≤cap∧cap≤maxLen∧off+cap*size≤cur.size∧(cur.toList.drop off).take (n*size)=xs
def CH(base:Nat)(ρ:Nat→Nm)(id:Nat)(b:Blk)(w:World)(S:Nat→Prop):Prop:=match b with
 | .cells l ty=>base≤(ρ id).g∧w.heap[(ρ id).g]? =some (Cb ρ l ty)
 | .row n size ty D=> ∃xs,xs.length=n*size∧D.holds xs w S∧Ey w base (ρ id) n size ty xs
 | .dat D=>D.holds [(ρ id).val] w S
 | .arr l ty=>base≤(ρ id).g∧w.heap[(ρ id).g]? =some (.cells l.toArray ty (0,0))
 | .pin j g=>(ρ j).g=g
 | .floor n=>n≤w.heap.size
structure RelOn(base:Nat)(ρ:Nat→Nm)(S:Nat→Nat→Prop)(w:World)(m:Mem):Prop where
 good: ∀id b,m id=some b→CH base ρ id b w (S id)
 lt: ∀id k,(m id).isSome→S id k→k<w.heap.size
 fr: ∀id k,(m id).isSome→S id k→base≤k
 dis: ∀i b j,m i=some b→b.owns (ρ i)→(m j).isSome→ ¬S j (ρ i).g
 inj: ∀i b j c,m i=some b→b.owns (ρ i)→m j=some c→c.owns (ρ j)→(ρ i).g=(ρ j).g→i=j
def Rel(w0:World)(ρ:Nat→Nm)(s:VS)(w:World):Prop:=Bw w0 w∧ ∃S,RelOn w0.heap.size ρ S w s.mem
theorem CH.own{base:Nat}{ρ:Nat→Nm}{id:Nat}{b:Blk}{w:World}{S:Nat→Prop}(h:CH base ρ id b w S)(ho:b.owns (ρ id)):base≤(ρ id).g∧(ρ id).g<w.heap.size:=by
 cases b with
 |cells l ty=>exact⟨h.1,(Array.getElem?_eq_some_iff.1 h.2).1⟩
 |row n size ty D=>
  obtain⟨xs,_,_,h⟩:=h;rcases h with⟨h,_⟩|⟨off,cap,cur,fz,_,h1,h2,_⟩
  ·exact absurd h ho
  ·exact⟨h1,(Array.getElem?_eq_some_iff.1 h2).1⟩
 |dat D=>exact ho.elim
 |arr l ty=>exact⟨h.1,(Array.getElem?_eq_some_iff.1 h.2).1⟩
 |pin j g=>exact ho.elim
 |floor n=>exact ho.elim
def restr(rd:List Nat)(m:Mem):Mem:=fun k=>if k∈rd then m k else none
theorem RelOn.restr{base:Nat}{ρ:Nat→Nm}{S:Nat→Nat→Prop}{w:World}{m:Mem}(h:RelOn base ρ S w m)(rd:List Nat):RelOn base ρ S w (restr rd m):=by
 have key: ∀id b,Vx.restr rd m id=some b→m id=some b:=fun id b hb=>by
  unfold Vx.restr at hb;split at hb
  ·exact hb
  ·cases hb
 have key2: ∀id,(Vx.restr rd m id).isSome→(m id).isSome:=fun id hb=>by
  obtain⟨b,hb⟩:=Option.isSome_iff_exists.1 hb;rw[key id b hb];rfl
 exact⟨fun id b hb=>h.good id b (key id b hb),fun id k hs=>h.lt id k (key2 id hs),fun id k hs=>h.fr id k (key2 id hs),fun i b j hi ho hj=>h.dis i b j (key i b hi) ho (key2 j hj),
  fun i b j c hi ho hj hc=>h.inj i b j c (key i b hi) ho (key j c hj) hc⟩
theorem dB{rd:List Nat}{m m':Mem}(h: ∀id∈rd,m id=m' id):restr rd m=restr rd m':=by
 funext k;unfold restr;split
 ·rename_i hk;exact h k hk
 ·rfl
def AK:List (Nat×Blk)→Mem
 | []=>fun _=>none
 |(id,b)::l=>fun k=>if k=id then some b else AK l k
structure Eff where
 val:SV
 add:List (Nat×Blk)
 up:List Nat
 nw:List Nat
 rd:List Nat
def Eff.tgt(e:Eff):List Nat:=e.up++e.nw
def Aw(m:Mem)(e:Eff):Mem:=fun k=>match AK e.add k with
 |some b=>some b
 |none=>if k∈e.up then none else m k
def Eff.ok(e:Eff):Bool:=e.up.all (fun i=>e.rd.contains i) && e.add.all (fun x=>e.up.contains x.1||e.nw.contains x.1)
def BW(l:List SV)(d:Option Nat)(x:SV):List SV:=match d with|some d=>l.set d x|none=>l
def VS.put(s:VS)(d:Option Nat)(e:Eff):VS:=⟨BW s.fr d e.val,Aw s.mem e⟩
def Eff.has(id:Nat)(e:Eff):Bool:=e.val.has id||e.add.any (fun x=>x.2.has id)
theorem Pq: ∀{l:List (Nat×Blk)} {k:Nat} {b:Blk},AK l k=some b→(k,b)∈l
 | [],_,_,h=>by cases h
 |(id,c)::l,k,b,h=>by
  simp only[AK]at h;split at h
  ·rename_i e;injection h with h;rw[e,h];simp
  ·exact List.mem_cons_of_mem _ (Pq h)
theorem Eff.ok_up{e:Eff}(h:e.ok=true){i:Nat}(hi:i∈e.up):i∈e.rd:=by
 simp only[Eff.ok,Bool.and_eq_true]at h;have:=List.all_eq_true.1 h.1 i hi;simpa using this
theorem Eff.ok_add{e:Eff}(h:e.ok=true){i:Nat}{b:Blk}(hi:AK e.add i=some b):i∈e.tgt:=by
 simp only[Eff.ok,Bool.and_eq_true]at h;have:=List.all_eq_true.1 h.2 _ (Pq hi);simpa[Eff.tgt] using this
theorem Hh{l:List SV}{d:Option Nat}{x:SV}{k:Nat}(h:d≠some k):(BW l d x)[k]? =l[k]? :=by
 cases d with
 |none=>rfl
 |some d=>simp only[BW];rw[List.getElem?_set_ne (by intro e;exact h (by rw[e]))]
theorem Qf(l:List SV)(d:Option Nat)(x:SV):(BW l d x).length=l.length:=by cases d<;>simp[BW]
theorem Qg(l:List SV){d e:Option Nat}(x y:SV)(h: ∀k,d=some k→e≠some k):BW (BW l d x) e y=BW (BW l e y) d x:=by
 cases d with
 |none=>rfl
 |some d=>
  cases e with
  |none=>rfl
  |some e=>simp only[BW];rw[List.set_comm];intro he;exact h d rfl (by rw[he])
theorem C8{m:Mem}{e:Eff}(ho:e.ok=true){k:Nat}(h:k∉e.tgt):Aw m e k=m k:=by
 unfold Aw;cases hm:AK e.add k with
 |some b=>exact absurd (Eff.ok_add ho hm) h
 |none=>simp only;rw[if_neg];intro hk;exact h (List.mem_append_left _ hk)
theorem Po(m:Mem){e f:Eff}(he:e.ok=true)(hf:f.ok=true)(h: ∀k∈e.tgt,k∉f.tgt):Aw (Aw m e) f=Aw (Aw m f) e:=by
 funext k
 by_cases hu:k∈e.tgt
 ·rw[C8 hf (h k hu)]
  unfold Aw;cases AK e.add k with
  |some b=>rfl
  |none=>
   simp only;by_cases hk:k∈e.up
   ·rw[if_pos hk,if_pos hk]
   ·rw[if_neg hk,if_neg hk]
    have:=C8 (m:=m) hf (h k hu);unfold Aw at this;rw[this]
 ·rw[C8 (m:=Aw m f) he hu]
  by_cases hv:k∈f.tgt
  ·unfold Aw
   cases AK f.add k with
   |some b=>rfl
   |none=>
    simp only;by_cases hk:k∈f.up
    ·rw[if_pos hk,if_pos hk]
    ·rw[if_neg hk,if_neg hk]
     have:=C8 (m:=m) he hu;unfold Aw at this;rw[this]
  ·rw[C8 hf hv,C8 he hu,C8 hf hv]
theorem F2(s:VS)(ρ:Nat→Nm)(d:Option Nat)(e:Eff):(s.put d e).act ρ=(s.act ρ).put d (e.val.c ρ):=by
 cases d with
 |none=>rfl
 |some d=>simp[VS.put,VS.act,Act.put,BW,List.map_set]
section
variable(D:Nat→Option Nat)(F:Nat→Eff)(s0:VS)
def st(β:Nat→Bool):Nat→VS
 |0=>s0
 |k+1=>if β k then(st β k).put (D k) (F k)else st β k
def upd(β:Nat→Bool)(i:Nat):Nat→Bool:=fun j=>if j=i then true else β j
def cnt(β:Nat→Bool):Nat→Nat
 |0=>0
 |k+1=>cnt β k+if β k then 1 else 0
theorem HE{β γ:Nat→Bool}: ∀k,(∀j,j<k→β j=γ j)→st D F s0 β k=st D F s0 γ k:=by
 intro k
 induction k with
 |zero=>intro _;rfl
 |succ k ih=>intro h;simp only[st,h k (by omega),ih fun j hj=>h j (by omega)]
theorem Ov(β:Nat→Bool): ∀k,(st D F s0 β k).fr.length=s0.fr.length:=by
 intro k
 induction k with
 |zero=>rfl
 |succ k ih=>simp only[st];split<;>simp[VS.put,Qf,ih]
theorem Ox{β γ:Nat→Bool}(x:Nat): ∀k,(∀j,j<k→β j≠γ j→D j≠some x)→(st D F s0 β k).fr[x]? =(st D F s0 γ k).fr[x]? :=by
 intro k
 induction k with
 |zero=>intro _;rfl
 |succ k ih=>
  intro h;have ih':=ih fun j hj=>h j (by omega)
  by_cases e:β k=γ k
  ·simp only[st,e]
   split
   ·simp only[VS.put]
    by_cases hd:D k=some x
    ·simp[hd,BW,List.getElem?_set,Ov]
    ·rw[Hh hd,Hh hd,ih']
   ·exact ih'
  ·have hd:=h k (by omega) e
   have key: ∀(t:VS),(t.put (D k) (F k)).fr[x]? =t.fr[x]? :=fun t=>Hh hd
   simp only[st];split<;>split<;>simp only[key,ih']
theorem Ou{β γ:Nat→Bool}(x:Nat)(hok: ∀j,(F j).ok=true): ∀k,(∀j,j<k→β j≠γ j→x∉(F j).tgt)→(st D F s0 β k).mem x=(st D F s0 γ k).mem x:=by
 intro k
 induction k with
 |zero=>intro _;rfl
 |succ k ih=>
  intro h;have ih':=ih fun j hj=>h j (by omega)
  by_cases e:β k=γ k
  ·simp only[st,e]
   split
   ·simp only[VS.put,Aw]
    cases AK (F k).add x with
    |some b=>rfl
    |none=>simp only;rw[ih']
   ·exact ih'
  ·have hd:=h k (by omega) e
   have key: ∀(t:VS),(t.put (D k) (F k)).mem x=t.mem x:=fun t=>C8 (hok k) hd
   simp only[st];split<;>split<;>simp only[key,ih']
theorem Ot{β:Nat→Bool}{i:Nat}(hok: ∀j,(F j).ok=true)(hi:β i=false): ∀k,i<k→(∀j,i<j→j<k→β j=true→(∀x,D i=some x→D j≠some x)∧(∀x∈(F i).tgt,x∉(F j).tgt))→
 st D F s0 (upd β i) k=(st D F s0 β k).put (D i) (F i):=by
 intro k
 induction k with
 |zero=>intro h;omega
 |succ k ih=>
  intro hik h;by_cases e:k=i
  ·subst e
   have h1:st D F s0 (upd β k) k=st D F s0 β k:=HE D F s0 k fun j hj=>by simp only[upd];rw[if_neg (by omega)]
   simp only[st,hi,upd,if_true,h1];rfl
  ·have ih':=ih (by omega) fun j h1 h2=>h j h1 (by omega)
   have hu:upd β i k=β k:=by simp only[upd];rw[if_neg e]
   simp only[st,hu,ih'];by_cases hk:β k=true
   ·simp only[hk,if_true]
    obtain⟨h1,h2⟩:=h k (by omega) (by omega) hk;simp only[VS.put];rw[Qg _ _ _ h1,Po _ (hok i) (hok k) h2]
   ·simp only[hk];rfl
theorem LJ(β:Nat→Bool): ∀k,cnt β k≤k
 |0=>Nat.le_refl _
 |k+1=>by have:=LJ β k;simp only[cnt];split<;>omega
theorem LL{β:Nat→Bool}: ∀k,cnt β k=k→ ∀j,j<k→β j=true
 |0,_,j,hj=>by omega
 |k+1,h,j,hj=>by
  have:=LJ β k;simp only[cnt]at h;by_cases hk:β k=true
  ·rw[hk]at h
   by_cases e:j=k
   ·rw[e];exact hk
   ·exact LL k (by simpa using h) j (by omega)
  ·simp only[hk]at h;simp at h;omega
theorem LI{β:Nat→Bool}{i:Nat}(hi:β i=false): ∀k,cnt (upd β i) k=cnt β k+if i<k then 1 else 0
 |0=>by simp[cnt]
 |k+1=>by
  have ih:=LI hi k;simp only[cnt,ih];by_cases e:k=i
  ·subst e;simp[upd,hi]
  ·have hu:upd β i k=β k:=by simp only[upd];rw[if_neg e]
   rw[hu];have h:(if i<k+1 then 1 else 0)=(if i<k then 1 else 0):=by split<;>split<;>omega
   rw[h];omega
theorem LK: ∀k,cnt (fun _=>false) k=0
 |0=>rfl
 |k+1=>by simp[cnt,LK k]
def Bn(id:Nat)(s:VS):Prop:=s.mem id=none∧(∀x∈s.fr,x.has id=false)∧ ∀k b,s.mem k=some b→b.has id=false
theorem Kw{id:Nat}{s:VS}{d:Option Nat}{e:Eff}(ho:e.ok=true)(h:Bn id s)(h1:e.has id=false)(h2:id∉e.tgt):Bn id (s.put d e):=by
 obtain⟨a,b,c⟩:=h;simp only[Eff.has,Bool.or_eq_false_iff]at h1;refine⟨by simp only[VS.put];rw[C8 ho h2];exact a,?_,?_⟩
 ·intro x hx
  simp only[VS.put]at hx;cases d with
  |none=>exact b x hx
  |some d=>
   rcases List.mem_or_eq_of_mem_set hx with h|h
   ·exact b x h
   ·rw[h];exact h1.1
 ·intro k bl hk
  simp only[VS.put,Aw]at hk;cases hm:AK e.add k with
  |some b'=>
   rw[hm]at hk;simp only[Option.some.injEq]at hk;have:=List.any_eq_false.1 h1.2 _ (Pq hm);subst hk;simpa using this
  |none=>
   rw[hm]at hk;simp only at hk;split at hk
   ·cases hk
   ·exact c k bl hk
theorem Ow{β:Nat→Bool}{id:Nat}(hok: ∀j,(F j).ok=true)(h0:Bn id s0): ∀k,(∀j,j<k→β j=true→(F j).has id=false∧id∉(F j).tgt)→Bn id (st D F s0 β k):=by
 intro k
 induction k with
 |zero=>intro _;exact h0
 |succ k ih=>
  intro h;simp only[st];split
  ·rename_i hk
   obtain⟨h1,h2⟩:=h k (by omega) hk;exact Kw (hok k) (ih fun j hj=>h j (by omega)) h1 h2
  ·exact ih fun j hj=>h j (by omega)
end
structure Out(base:Nat)(t:Mem)(ρ:Nat→Nm)(S:Nat→Nat→Prop)(w:World)(e:Eff)(v:Value)(ρ':Nat→Nm)(S':Nat→Nat→Prop)(w':World):Prop where
 val:v=e.val.c ρ'
 same: ∀id,id∉e.nw→ρ' id=ρ id
 os:w'.os=w.os
 tape:w'.tape=w.tape
 output:w'.output=w.output
 size:w.heap.size≤w'.heap.size
 block: ∀k,k<w.heap.size→(∀i∈e.up,∀b,t i=some b→b.owns (ρ i)→(ρ i).g≠k)→w'.heap[k]? =w.heap[k]?
 good: ∀id b,AK e.add id=some b→CH base ρ' id b w' (S' id)
 sup: ∀id k,(AK e.add id).isSome→S' id k→(∃i∈e.rd,(t i).isSome∧S i k)∨(w.heap.size≤k∧k<w'.heap.size)
 own: ∀id b,AK e.add id=some b→b.owns (ρ' id)→(∃i∈e.up,∃c,t i=some c∧c.owns (ρ i)∧(ρ i).g=(ρ' id).g)∨(w.heap.size≤(ρ' id).g∧ ∀j,(AK e.add j).isSome→ ¬S' j (ρ' id).g)
 inj: ∀i b j c,AK e.add i=some b→b.owns (ρ' i)→AK e.add j=some c→c.owns (ρ' j)→(ρ' i).g=(ρ' j).g→i=j
def uu(P:Program)(o:Oper)(a:Act)(w:World)(R:Value→World→Prop):Prop:=
 (∃v w',(execOp a.eval o).run P w= .ok (.value v) w'∧R v w')∨(∃w',(execOp a.eval o).run P w= .ok .skip w'∧R undef w')∨
 (∃f args,(execOp a.eval o).run P w= .ok (.enter f args) w∧Calls P f args w fun e w'=> ∃v,e= .returned v∧R v w')
structure Ev(P:Program)(ops:Array Oper)(w0:World)(o:Oper)(t:VS)(e:Eff):Prop where
 ok:e.ok=true
 does:((∀ρ,Region.wanted o (yielded ops (t.act ρ).tmps)=false)∧e=⟨.v undef,[],[],[],[]⟩)∨
  ((∀ρ,Region.wanted o (yielded ops (t.act ρ).tmps)=true)∧ ∀ρ S w,Bw w0 w→RelOn w0.heap.size ρ S w (restr e.rd t.mem)→
    uu P o (t.act ρ) w fun v w'=> ∃ρ' S',Out w0.heap.size t.mem ρ S w e v ρ' S' w')
theorem Ew(s:VS)(ρ:Nat→Nm)(x:Nat):(s.act ρ).tmps[x]? =(s.fr[x]?).map (SV.c ρ):=by simp[VS.act]
theorem Qi{s t:VS}{ρ:Nat→Nm}{x:Operand}(h: ∀k,x= .tmp k→s.fr[k]? =t.fr[k]?):(s.act ρ).eval x=(t.act ρ).eval x:=by
 cases x with
 |tmp k=>
  have h1:(s.act ρ).tmps[k]? =(t.act ρ).tmps[k]? :=by rw[Ew,Ew,h k rfl]
  simp only[Act.eval,Array.getD_eq_getD_getElem?,h1]
 |_=>rfl
mutual
theorem JQ{ρ ρ':Nat→Nm}{nw:List Nat}(hs: ∀id,id∉nw→ρ' id=ρ id): ∀{x:SV},(∀id∈nw,x.has id=false)→x.c ρ'=x.c ρ
 | .v _,_=>by simp[SV.c]
 | .p k _,h=>by simp only[SV.c];rw[hs k (fun c=>by have:=h k c;simp[SV.has]at this)]
 | .s k _ _ _,h=>by simp only[SV.c];rw[hs k (fun c=>by have:=h k c;simp[SV.has]at this)]
 | .d k,h=>by simp only[SV.c];rw[hs k (fun c=>by have:=h k c;simp[SV.has]at this)]
 | .fn f x,h=>by simp only[SV.c];rw[JQ hs (x:=x) (fun id hid=>by have:=h id hid;simpa[SV.has] using this)]
 | .agg l,h=>by simp only[SV.c];rw[Ep hs (x:=l) (fun id hid=>by have:=h id hid;simpa[SV.has] using this)]
 | .tup l,h=>by simp only[SV.c];rw[Ep hs (x:=l) (fun id hid=>by have:=h id hid;simpa[SV.has] using this)]
theorem Ep{ρ ρ':Nat→Nm}{nw:List Nat}(hs: ∀id,id∉nw→ρ' id=ρ id): ∀{x:List SV},(∀id∈nw,SV.hasL id x=false)→SV.cs ρ' x=SV.cs ρ x
 | [],_=>by simp[SV.cs]
 |y::l,h=>by
  simp only[SV.cs];rw[JQ hs (x:=y) (fun id hid=>by have:=h id hid;simp[SV.hasL]at this;exact this.1),Ep hs (x:=l) (fun id hid=>by have:=h id hid;simp[SV.hasL]at this;exact this.2)]
end
theorem N8{ρ ρ':Nat→Nm}{nw:List Nat}(hs: ∀id,id∉nw→ρ' id=ρ id){s:VS}(h: ∀id∈nw,Bn id s):s.act ρ'=s.act ρ:=by
 simp only[VS.act];rw[List.map_congr_left fun x hx=>JQ hs fun id hid=>(h id hid).2.1 x hx]
theorem CH.keep{base:Nat}{ρ ρ':Nat→Nm}{id:Nat}{b:Blk}{w w':World}{S:Nat→Prop}(h:CH base ρ id b w S)(hr:ρ' id=ρ id)(hc: ∀l ty,b= .cells l ty→SV.cs ρ' l=SV.cs ρ l)(hp: ∀j g,b= .pin j g→ρ' j=ρ j)(hz:w.heap.size≤w'.heap.size)
 (hS: ∀k,S k→w'.heap[k]? =w.heap[k]?)(ho:b.owns (ρ id)→w'.heap[(ρ id).g]? =w.heap[(ρ id).g]?):CH base ρ' id b w' S:=by
 cases b with
 |cells l ty=>
  simp only[CH,hr];refine⟨h.1,?_⟩;rw[ho True.intro,h.2];simp only[Cb,hc l ty rfl]
 |row n size ty D=>
  obtain⟨xs,h1,h2,h3⟩:=h;refine⟨xs,h1,D.keep h2 hS,?_⟩;rw[hr];rcases h3 with h3|⟨off,cap,cur,fz,a,a1,a2,a3⟩
  ·exact .inl h3
  ·exact .inr ⟨off,cap,cur,fz,a,a1,(ho (by simp only[Blk.owns];rw[a];simp)).trans a2,a3⟩
 |dat D=>
  simp only[CH,hr];exact D.keep h hS
 |arr l ty=>
  simp only[CH,hr];exact⟨h.1,(ho True.intro).trans h.2⟩
 |pin j g=>
  simp only[CH,hp j g rfl];exact h
 |floor n=>exact Nat.le_trans h hz
theorem Ev.step{P:Program}{ops:Array Oper}{w0:World}{o:Oper}{e:Eff}{s t:VS}(hev:Ev P ops w0 o t e)
 (hsel: ∀cs b,o.op≠ .select cs b)(hl: ∀x∈o.looksAt ops,s.fr[x]? =t.fr[x]?)(hm: ∀id∈e.rd,s.mem id=t.mem id)
 (hfresh: ∀id∈e.nw,Bn id s){ρ:Nat→Nm}{w:World}(hr:Rel w0 ρ s w){K:Act→World→Prop}{Q:Exit→Act→World→Prop}
 (hK: ∀ρ' w',Rel w0 ρ' (s.put o.dst e) w'→K ((s.put o.dst e).act ρ') w'):
 if Region.wanted o (yielded ops (s.act ρ).tmps)then o.wp P (s.act ρ) w K Q∨(o.asks P (s.act ρ) w∧LetsOut Q)else K ((s.act ρ).put o.dst undef) w:=by
 have hex:execOp (s.act ρ).eval o=execOp (t.act ρ).eval o:=execOp_congr o hsel fun x hx=>Qi fun k hk=>hl k (by
  subst hk;exact List.mem_append_left _ (List.mem_filterMap.2 ⟨.tmp k,by simpa using hx,rfl⟩))
 have hwant:Region.wanted o (yielded ops (s.act ρ).tmps)=Region.wanted o (yielded ops (t.act ρ).tmps):=by
  unfold Region.wanted;cases hg:o.guard with
  |none=>rfl
  |some gw=>
   obtain⟨g,want⟩:=gw
   have hy:yielded ops (s.act ρ).tmps g=yielded ops (t.act ρ).tmps g:=by
    unfold yielded;cases ht:(ops[g]?).bind (·.dst)with
    |none=>rfl
    |some d=>
     have h1:(s.act ρ).tmps[d]? =(t.act ρ).tmps[d]? :=by rw[Ew,Ew,hl d (by simp[Oper.looksAt,hg,ht])]
     simp only[Option.bind_some,h1]
   simp only[hy]
 obtain⟨hb,S,hR⟩:=hr;have hsees:RelOn w0.heap.size ρ S w (restr e.rd t.mem):=dB hm▸hR.restr e.rd;rcases hev.does with⟨hw,he⟩|⟨hw,hd⟩
 ·rw[if_neg (by rw[hwant,hw ρ];simp)]
  have h0:s.put o.dst e=⟨BW s.fr o.dst (.v undef),s.mem⟩:=by
   subst he;simp only[VS.put];congr 1
  have:=hK ρ w ⟨hb,S,by rw[h0];exact hR⟩;rw[F2]at this;subst he;simpa[SV.c] using this
 ·rw[if_pos (by rw[hwant];exact hw ρ)]
  refine .inl ?_
  have fin: ∀v w',(∃ρ' S',Out w0.heap.size t.mem ρ S w e v ρ' S' w')→K ((s.act ρ).put o.dst v) w':=by
   rintro v w' ⟨ρ',S',ho⟩
   have hfin:K ((s.put o.dst e).act ρ') w':=by
    refine hK ρ' w' ⟨?_,fun id k=>if(AK e.add id).isSome then S' id k else S id k,?_⟩
    ·refine⟨ho.os.trans hb.os,ho.tape.trans hb.tape,ho.output.trans hb.output,Nat.le_trans hb.size ho.size,fun k hk=> ?_⟩
     rw[ho.block k (Nat.lt_of_lt_of_le hk hb.size) (fun i hi b hbi hob hgk=> ?_)]
     ·exact hb.block k hk
     ·have hi':=Eff.ok_up hev.ok hi
      have:=(hR.good i b (by rw[hm i hi'];exact hbi)).own hob;omega
    ·
     have Dn: ∀id b,AK e.add id=none→(s.put o.dst e).mem id=some b→id∉e.up∧s.mem id=some b:=by
      intro id b hn hmm;simp only[VS.put,Aw,hn]at hmm;split at hmm
      ·cases hmm
      ·rename_i h;exact⟨h,hmm⟩
     have tnew: ∀id b c,AK e.add id=some b→(s.put o.dst e).mem id=some c→c=b:=by
      intro id b c hn hmm;simp only[VS.put,Aw,hn,Option.some.injEq]at hmm;exact hmm.symm
     have hmem: ∀i∈e.up,∀b,t.mem i=some b→s.mem i=some b:=fun i hi b hbi=>by rw[hm i (Eff.ok_up hev.ok hi)];exact hbi
     have hnw: ∀id b,s.mem id=some b→id∉e.nw:=fun id b hid hn=>by rw[(hfresh id hn).1]at hid;cases hid
     have stay: ∀id b,id∉e.up→s.mem id=some b→b.owns (ρ id)→w'.heap[(ρ id).g]? =w.heap[(ρ id).g]? :=by
      intro id b hu hid hob;refine ho.block _ ((hR.good id b hid).own hob).2 fun i hi c hci hoc hg=> ?_
      have:=hR.inj i c id b (hmem i hi c hci) hoc hid hob hg;subst this;exact hu hi
     have staysup: ∀id k,(s.mem id).isSome→S id k→w'.heap[k]? =w.heap[k]? :=by
      intro id k hid hk
      exact ho.block k (hR.lt id k hid hk) fun i hi c hci hoc hg=>by
       have:=hR.dis i c id (hmem i hi c hci) hoc hid;rw[hg]at this;exact this hk
     refine⟨?_,?_,?_,?_,?_⟩
     ·intro id b hmm
      cases hn:AK e.add id with
      |some c=>
       simp only[Option.isSome_some,if_true];obtain rfl:=tnew id c b hn hmm;exact ho.good id b hn
      |none=>
       simp only[Option.isSome_none];obtain⟨hu,hid⟩:=Dn id b hn hmm;refine(hR.good id b hid).keep (ho.same id (hnw id b hid)) ?_ (fun j g hbl=>ho.same j fun hj=>by have:=(hfresh j hj).2.2 id b hid;rw[hbl]at this;simp[Blk.has,SV.hasL,SV.has]at this) ho.size (fun k hk=>staysup id k (by rw[hid];rfl) hk) (stay id b hu hid);intro l ty hbl;refine Ep ho.same fun j hj=> ?_
       have:=(hfresh j hj).2.2 id b hid;rw[hbl]at this;exact this
     ·intro id k hmm hk
      obtain⟨b,hmm⟩:=Option.isSome_iff_exists.1 hmm;cases hn:AK e.add id with
      |some c=>
       simp only[hn,Option.isSome_some,if_true]at hk;rcases ho.sup id k (by rw[hn];rfl) hk with⟨i,hi,hti,hik⟩|⟨_,h⟩
       ·exact Nat.lt_of_lt_of_le (hR.lt i k (by rw[hm i hi];exact hti) hik) ho.size
       ·exact h
      |none=>
       simp only[hn,Option.isSome_none]at hk;obtain⟨_,hid⟩:=Dn id b hn hmm;exact Nat.lt_of_lt_of_le (hR.lt id k (by rw[hid];rfl) (by simpa using hk)) ho.size
     ·intro id k hmm hk
      obtain⟨b,hmm⟩:=Option.isSome_iff_exists.1 hmm;cases hn:AK e.add id with
      |some c=>
       simp only[hn,Option.isSome_some,if_true]at hk;rcases ho.sup id k (by rw[hn];rfl) hk with⟨i,hi,hti,hik⟩|⟨h,_⟩
       ·exact hR.fr i k (by rw[hm i hi];exact hti) hik
       ·exact Nat.le_trans hb.size h
      |none=>
       simp only[hn,Option.isSome_none]at hk;obtain⟨_,hid⟩:=Dn id b hn hmm;exact hR.fr id k (by rw[hid];rfl) (by simpa using hk)
     ·intro i b j hmi hob hmj hk
      obtain⟨c,hmj⟩:=Option.isSome_iff_exists.1 hmj
      have howner:(∃i' b',s.mem i'=some b'∧b'.owns (ρ i')∧(ρ i').g=(ρ' i).g)∨(w.heap.size≤(ρ' i).g∧ ∀j,(AK e.add j).isSome→ ¬S' j (ρ' i).g):=by
       cases hn:AK e.add i with
       |some b0=>
        obtain rfl:=tnew i b0 b hn hmi;rcases ho.own i b hn hob with⟨i',hi',c',h1,h2,h3⟩|h
        ·exact .inl ⟨i',c',hmem i' hi' c' h1,h2,h3⟩
        ·exact .inr h
       |none=>
        obtain⟨_,hid⟩:=Dn i b hn hmi;have e1:=ho.same i (hnw i b hid);exact .inl ⟨i,b,hid,by rw[←e1];exact hob,by rw[e1]⟩
      cases hn:AK e.add j with
      |some c0=>
       simp only[hn,Option.isSome_some,if_true]at hk;rcases howner with⟨i',b',h1,h2,h3⟩|⟨_,h⟩
       ·rcases ho.sup j _ (by rw[hn];rfl) hk with⟨i2,hi2,ht2,hS2⟩|⟨h,_⟩
        ·have:=hR.dis i' b' i2 h1 h2 (by rw[hm i2 hi2];exact ht2)
         rw[h3]at this;exact this hS2
        ·have:=((hR.good i' b' h1).own h2).2
         omega
       ·exact h j (by rw[hn];rfl) hk
      |none=>
       simp only[hn,Option.isSome_none]at hk;have hk':S j (ρ' i).g:=by simpa using hk
       obtain⟨_,hid⟩:=Dn j c hn hmj;rcases howner with⟨i',b',h1,h2,h3⟩|⟨h,_⟩
       ·have:=hR.dis i' b' j h1 h2 (by rw[hid];rfl)
        rw[h3]at this;exact this hk'
       ·have:=hR.lt j _ (by rw[hid];rfl) hk'
        omega
     ·intro i b j c hmi hob hmj hoc hg
      cases hn:AK e.add i with
      |some b0=>
       obtain rfl:=tnew i b0 b hn hmi;cases hn2:AK e.add j with
       |some c0=>
        obtain rfl:=tnew j c0 c hn2 hmj;exact ho.inj i b j c hn hob hn2 hoc hg
       |none=>
        exfalso;obtain⟨hu,hid⟩:=Dn j c hn2 hmj;have e1:=ho.same j (hnw j c hid);rw[e1]at hoc hg;have hlt:=((hR.good j c hid).own hoc).2;rcases ho.own i b hn hob with⟨i',hi',c',h1,h2,h3⟩|⟨h,_⟩
        ·have:=hR.inj i' c' j c (hmem i' hi' c' h1) h2 hid hoc (h3.trans hg)
         subst this;exact hu hi'
        ·omega
      |none=>
       obtain⟨hu,hid⟩:=Dn i b hn hmi;have e1:=ho.same i (hnw i b hid);rw[e1]at hob hg;have hlt:=((hR.good i b hid).own hob).2;cases hn2:AK e.add j with
       |some c0=>
        exfalso;obtain rfl:=tnew j c0 c hn2 hmj;rcases ho.own j c hn2 hoc with⟨i',hi',c',h1,h2,h3⟩|⟨h,_⟩
        ·have:=hR.inj i' c' i b (hmem i' hi' c' h1) h2 hid hob (h3.trans hg.symm)
         subst this;exact hu hi'
        ·omega
       |none=>
        obtain⟨_,hid2⟩:=Dn j c hn2 hmj;have e2:=ho.same j (hnw j c hid2);rw[e2]at hoc hg;exact hR.inj i b j c hid hob hid2 hoc hg
   rw[F2,N8 ho.same hfresh,←ho.val]at hfin;exact hfin
  unfold Oper.wp;rw[hex];rcases hd ρ S w hb hsees with⟨v,w',hrun,hR'⟩|⟨w',hrun,hR'⟩|⟨f,args,hrun,hc⟩
  ·rw[hrun];simp only[Oper.upon];exact fin v w' hR'
  ·rw[hrun];simp only[Oper.upon];exact fin undef w' hR'
  ·rw[hrun];simp only[Oper.upon]
   refine hc.mono ?_;rintro e' w' ⟨v,rfl,hR'⟩;exact fin v w' hR'
theorem Ev.sound{P:Program}{ops:Array Oper}{w0:World}{o:Oper}{i:Nat}(ho:ops[i]? =some o){e:Eff}{s t:VS}(hev:Ev P ops w0 o t e)
 (hsel: ∀cs b,o.op≠ .select cs b)(hl: ∀x∈o.looksAt ops,s.fr[x]? =t.fr[x]?)(hm: ∀id∈e.rd,s.mem id=t.mem id)
 (hfresh: ∀id∈e.nw,Bn id s){ρ:Nat→Nm}{w:World}(hr:Rel w0 ρ s w){K:Act→World→Prop}{Q:Exit→Act→World→Prop}
 (hK: ∀ρ' w',Rel w0 ρ' (s.put o.dst e) w'→K ((s.put o.dst e).act ρ') w'):wpOp P ops Q i K (s.act ρ) w:=by
 unfold wpOp;simp only[ho];exact hev.step hsel hl hm hfresh hr hK
def Hu(o:Oper)(i:Nat):Bool:=o.after.any fun e=>Region.binds .any e && e.on==i
def Eb(l:List Oper):Nat→Nat→Nat→Bool
 |0,_,_=>false
 |n+1,j,i=>match l[j]? with
  |none=>false
  |some o=>o.after.any fun e=>Region.binds .any e && (e.on==i||Eb l n e.on i)
theorem TS{l:List Oper}{listed:Array Bool}(hcl: ∀j o,l[j]? =some o→listed.getD j false=true→ ∀e∈o.after,Region.binds .any e=true→listed.getD e.on false=true):
 ∀n j i,listed.getD j false=true→Eb l n j i=true→listed.getD i false=true:=by
 intro n
 induction n with
 |zero=>intro j i _ h;cases h
 |succ n ih=>
  intro j i hj h;simp only[Eb]at h;cases ho:l[j]? with
  |none=>rw[ho]at h;cases h
  |some o=>
   rw[ho]at h;obtain⟨e,he,h2⟩:=Array.any_eq_true'.1 h;simp only[Bool.and_eq_true,Bool.or_eq_true,beq_iff_eq]at h2;have hl:=hcl j o ho hj e he h2.1;rcases h2.2 with h3|h3
   ·rw[←h3];exact hl
   ·exact ih _ _ hl h3
theorem dZ{l:List Oper}{listed:Array Bool}(hcl: ∀j o,l[j]? =some o→listed.getD j false=true→ ∀e∈o.after,Region.binds .any e=true→listed.getD e.on false=true)
 {i:Nat}{o:Oper}(ho:l[i]? =some o)(hdep: ∀e∈o.after,Region.binds .any e=true→listed.getD e.on false=true): ∀n j,Eb l n i j=true→listed.getD j false=true:=by
 intro n j h;cases n with
 |zero=>cases h
 |succ n=>
  simp only[Eb,ho]at h;obtain⟨e,he,h2⟩:=Array.any_eq_true'.1 h;simp only[Bool.and_eq_true,Bool.or_eq_true,beq_iff_eq]at h2;have hl:=hdep e he h2.1;rcases h2.2 with h3|h3
  ·rw[←h3];exact hl
  ·exact TS hcl _ _ _ hl h3
def Dt(a b:Option Nat):Bool:=match a,b with|some x,some y=>x !=y|_,_=>true
def Fj(ops:Array Oper)(x:Oper)(e:Eff)(y:Oper)(f:Eff):Bool:=
 (match x.dst with|some d=> !(y.looksAt ops).contains d|none=>true) && (match y.dst with|some d=> !(x.looksAt ops).contains d|none=>true) && Dt x.dst y.dst &&
 e.tgt.all (fun k=> !f.tgt.contains k) && e.tgt.all (fun k=> !f.rd.contains k) && f.tgt.all (fun k=> !e.rd.contains k) &&
 e.nw.all (fun k=> !f.has k)
def Dg:Op→Bool
 | .select _ _=>true
 |_=>false
def veB(ops:Array Oper)(l:List Oper)(E:List Eff):Bool:=
 (List.range l.length).all fun j=>
  match l[j]?,E[j]? with
  |some y,some f=>
   !Dg y.op && y.after.all (fun e=> !Region.binds .any e||decide (e.on<j)) &&
   (List.range j).all fun i=>
    match l[i]?,E[i]? with
    |some x,some e=>(Eb l l.length j i||Fj ops x e y f) && f.nw.all (fun k=> !e.has k && !e.tgt.contains k)
    |_,_=>false
  |_,_=>false
inductive VE(P:Program)(ops:Array Oper)(w0:World):List Oper→List Eff→VS→VS→Prop
 |nil (s:VS):VE P ops w0 [] [] s s
 |cons {o:Oper} {l:List Oper} {e:Eff} {E:List Eff} {s s':VS} (h:Ev P ops w0 o s e) (r:VE P ops w0 l E (s.put o.dst e) s'):VE P ops w0 (o::l) (e::E) s s'
section
variable{P:Program}{ops:Array Oper}{w0:World}
def De(l:List Oper)(k:Nat):Option Nat:=(l[k]?).bind (·.dst)
def Fe(E:List Eff)(k:Nat):Eff:=(E[k]?).getD ⟨.v undef,[],[],[],[]⟩
theorem Jt(D:Nat→Option Nat)(F:Nat→Eff)(s:VS): ∀k,st D F s (fun _=>true) (k+1)=st (fun j=>D (j+1)) (fun j=>F (j+1)) (s.put (D 0) (F 0)) (fun _=>true) k:=by
 intro k
 induction k with
 |zero=>rfl
 |succ k ih=>simp only[st,if_true]at ih ⊢; rw[ih]
theorem VE.length{l:List Oper}{E:List Eff}{s s':VS}(h:VE P ops w0 l E s s'):E.length=l.length:=by
 induction h with
 |nil=>rfl
 |cons _ _ ih=>simp[ih]
theorem VE.at{l:List Oper}{E:List Eff}{s s':VS}(h:VE P ops w0 l E s s'):
 (∀i o,l[i]? =some o→Ev P ops w0 o (st (De l) (Fe E) s (fun _=>true) i) (Fe E i))∧s'=st (De l) (Fe E) s (fun _=>true) l.length:=by
 induction h with
 |nil s=>exact⟨fun i o h=>(by simp at h),rfl⟩
 | @cons o l e E s s' h r ih=>
   obtain⟨ih1,ih2⟩:=ih;refine⟨fun i o' hi=> ?_,?_⟩
   ·cases i with
    |zero=>simp at hi;subst hi;exact h
    |succ i=>rw[Jt];exact ih1 i o' (by simpa using hi)
   ·rw[List.length_cons,Jt];exact ih2
theorem VE.oks{l:List Oper}{E:List Eff}{s s':VS}(h:VE P ops w0 l E s s'): ∀j,(Fe E j).ok=true:=by
 have key: ∀e∈E,e.ok=true:=by
  induction h with
  |nil=>intro e he;cases he
  |cons h _ ih=>intro e he;rcases List.mem_cons.1 he with h1|h1;rw[h1];exact h.ok;exact ih e h1
 intro j;unfold Fe;cases hj:E[j]? with
 |none=>rfl
 |some e=>exact key e (List.mem_of_getElem? hj)
theorem O3{listed:Array Bool}{i:Nat}(hi:i<listed.size):(fun j=>(listed.setIfInBounds i true).getD j false)=upd (fun j=>listed.getD j false) i:=by
 funext j
 simp only[upd,Array.getD_eq_getD_getElem?,Array.getElem?_setIfInBounds];by_cases h:i=j
 ·subst h;simp[hi]
 ·simp[h,Ne.symm h]
theorem OS{l:List Oper}{E:List Eff}{s s':VS}(hops:ops=l.toArray)(h:VE P ops w0 l E s s')(hB:veB ops l E=true)
 (hfr: ∀e∈E,∀id∈e.nw,Bn id s){Q:Exit→Act→World→Prop}
 (hQ: ∀ρ w,Rel w0 ρ s' w→Q .normal (s'.act ρ) w):
 ∀(fuel:Nat) (listed:Array Bool) (ρ:Nat→Nm) (w:World),listed.size=l.length→
  (∀j o,l[j]? =some o→listed.getD j false=true→ ∀e∈o.after,Region.binds .any e=true→listed.getD e.on false=true)→
  cnt (fun j=>listed.getD j false) l.length+fuel=l.length→
  Rel w0 ρ (st (De l) (Fe E) s (fun j=>listed.getD j false) l.length) w→
  wpAny P .any ops Q fuel listed ((st (De l) (Fe E) s (fun j=>listed.getD j false) l.length).act ρ) w:=by
 obtain⟨hat,hs'⟩:=h.at;have hoks: ∀j,(Fe E j).ok=true:=h.oks;have hlen:=h.length;have hsz:ops.size=l.length:=by rw[hops];simp
 have hget: ∀i:Nat,ops[i]? =l[i]? :=by intro i;rw[hops];simp
 have hpair: ∀j y f,l[j]? =some y→E[j]? =some f→(Dg y.op=false)∧(∀e∈y.after,Region.binds .any e=true→e.on<j)∧
  ∀i x e,i<j→l[i]? =some x→E[i]? =some e→(Eb l l.length j i||Fj ops x e y f)=true∧(∀k∈f.nw,e.has k=false∧k∉e.tgt):=by
  intro j y f hy hf;have hj:j<l.length:=(List.getElem?_eq_some_iff.1 hy).1;have h1:=List.all_eq_true.1 hB j (List.mem_range.2 hj);simp only[hy,hf,Bool.and_eq_true,Bool.not_eq_true']at h1;obtain⟨⟨a1,a2⟩,a3⟩:=h1;refine⟨a1,?_,?_⟩
  ·intro e he hb
   have:=Array.all_eq_true'.1 a2 e he;simpa[hb] using this
  ·intro i x e hi hx he
   have h2:=List.all_eq_true.1 a3 i (List.mem_range.2 hi);simp only[hx,he,Bool.and_eq_true]at h2;obtain⟨b1,b2⟩:=h2;refine⟨b1,?_⟩;intro k hk;have:=List.all_eq_true.1 b2 k hk;simpa using this
 have hE: ∀i o,l[i]? =some o→ ∃e,E[i]? =some e∧Fe E i=e∧De l i=o.dst:=by
  intro i o hi;have hj:i<E.length:=by rw[hlen];exact(List.getElem?_eq_some_iff.1 hi).1
  exact⟨E[i],by simp[hj],by simp[Fe,hj],by simp[De,hi]⟩
 intro fuel
 induction fuel with
 |zero=>
  intro listed ρ w hls hcl hc hr;have hall:=LL (β:=fun j=>listed.getD j false) l.length (by omega)
  have hst:st (De l) (Fe E) s (fun j=>listed.getD j false) l.length=s':=by
   rw[hs'];exact HE _ _ _ _ fun j hj=>hall j hj
  rw[hst]at hr⊢;refine⟨?_,hQ ρ w hr⟩;cases hrd:Region.ready .any ops listed with
  |nil=>rfl
  |cons i rs=>
   have:i∈Region.ready .any ops listed:=by rw[hrd];simp
   obtain⟨h1,o,ho,_⟩:=mem_ready.1 this;have hi:i<l.length:=by rw[←hsz];exact(Array.getElem?_eq_some_iff.1 ho).1
   have:=hall i hi;rw[getD_both h1]at this;cases this
 |succ fuel ih=>
  intro listed ρ w hls hcl hc hr;refine⟨?_,?_⟩
  ·
   intro hnil;exfalso
   have key: ∀k,k<l.length→listed.getD k false=true:=by
    intro k
    induction k using Nat.strongRecOn with
    |_ k ihk=>
     intro hk;apply Classical.byContradiction;intro hf;have hf':listed.getD k false=false:=by simpa using hf
     obtain⟨e,he,_,_⟩:=hE k l[k] (by simp[hk]);obtain⟨_,hon,_⟩:=hpair k l[k] e (by simp[hk]) he
     have:k∈Region.ready .any ops listed:=by
      refine mem_ready.2 ⟨getD_in (by omega) hf',l[k],by rw[hget];simp[hk],fun ed hed hb=> ?_⟩;have:=hon ed hed hb;exact ihk ed.on this (by omega)
     rw[hnil]at this;cases this
   have hc2:cnt (fun j=>listed.getD j false) l.length=l.length:=by
    have hh: ∀k,k≤l.length→cnt (fun j=>listed.getD j false) k=k:=by
     intro k
     induction k with
     |zero=>intro _;rfl
     |succ k ihk=>intro hk;simp only[cnt,ihk (by omega),key k (by omega),if_true]
    exact hh _ (Nat.le_refl _)
   omega
  ·intro i hi
   obtain⟨hun,o,ho,hdep⟩:=mem_ready.1 hi;have hun':=getD_both hun;have hio:l[i]? =some o:=by rw[←hget];exact ho
   have hin:i<l.length:=(List.getElem?_eq_some_iff.1 hio).1;obtain⟨e,he,hFe,hDe⟩:=hE i o hio;obtain⟨hsel,hon,hpi⟩:=hpair i o e hio he
   have hind: ∀j x f,l[j]? =some x→E[j]? =some f→(listed.getD j false≠decide (j<i))→j≠i→
    (∀d,x.dst=some d→d∉o.looksAt ops)∧(∀k∈f.tgt,k∉e.rd)∧(i<j→(∀d,o.dst=some d→x.dst≠some d)∧(∀k∈e.tgt,k∉f.tgt)∧(∀k∈e.nw,f.has k=false)):=by
    intro j x f hx hf hne hji
    have hnoB: ∀d u:Option Nat,Dt d u=true→ ∀k,d=some k→u≠some k:=by
     intro d u h k hd hu;simp[hd,hu,Dt]at h
    rcases Nat.lt_or_gt_of_ne hji with hlt|hgt
    ·
     have hnl:listed.getD j false=false:=by simpa[hlt] using hne
     have hnb:Eb l l.length i j=false:=by
      cases hb:Eb l l.length i j with
      |false=>rfl
      |true=>
       have:=dZ hcl hio hdep _ _ hb;rw[hnl]at this;cases this
     have h1:=(hpi j x f hlt hx hf).1;rw[hnb,Bool.false_or]at h1;simp only[Fj,Bool.and_eq_true]at h1;obtain⟨⟨⟨⟨⟨⟨c1,c2⟩,c3⟩,c4⟩,c5⟩,c6⟩,c7⟩:=h1;refine⟨?_,?_,fun hh=>by omega⟩
     ·intro d hd;rw[hd]at c1;simpa using c1
     ·intro k hk;have:=List.all_eq_true.1 c5 k hk;simpa using this
    ·
     have hl':listed.getD j false=true:=by
      have:decide (j<i)=false:=by simp;omega
      rw[this]at hne;simpa using hne
     have hnb:Eb l l.length j i=false:=by
      cases hb:Eb l l.length j i with
      |false=>rfl
      |true=>
       have:=TS hcl _ _ _ hl' hb;rw[hun']at this;cases this
     have h1:=((hpair j x f hx hf).2.2 i o e hgt hio he).1;rw[hnb,Bool.false_or]at h1;simp only[Fj,Bool.and_eq_true]at h1;obtain⟨⟨⟨⟨⟨⟨c1,c2⟩,c3⟩,c4⟩,c5⟩,c6⟩,c7⟩:=h1;refine⟨?_,?_,fun _=>⟨hnoB _ _ c3,fun k hk=>by have:=List.all_eq_true.1 c4 k hk;simpa using this,?_⟩⟩
     ·intro d hd;rw[hd]at c2;simpa using c2
     ·intro k hk;have:=List.all_eq_true.1 c6 k hk;simpa using this
     ·intro k hk;have:=List.all_eq_true.1 c7 k hk;simpa using this
   have hupd:=O3 (listed:=listed) (i:=i) (by omega)
   have htext:st (De l) (Fe E) s (fun _=>true) i=st (De l) (Fe E) s (fun j=>decide (j<i)) l.length:=by
    have h1: ∀k,i+k≤l.length→st (De l) (Fe E) s (fun j=>decide (j<i)) (i+k)=st (De l) (Fe E) s (fun j=>decide (j<i)) i:=by
     intro k
     induction k with
     |zero=>intro _;rfl
     |succ k ihk=>
      intro hk;have:decide (i+k<i)=false:=by simp
      rw[←Nat.add_assoc];simp only[st,this];exact ihk (by omega)
    rw[←Nat.add_sub_cancel' (Nat.le_of_lt hin),h1 _ (by omega)];exact HE _ _ _ _ fun j hj=>by simp[hj]
   have hput:st (De l) (Fe E) s (fun j=>(listed.setIfInBounds i true).getD j false) l.length=(st (De l) (Fe E) s (fun j=>listed.getD j false) l.length).put o.dst e:=by
    rw[hupd,←hDe,←hFe];refine Ot _ _ _ hoks hun' _ hin fun j hij hjl hb=> ?_
    obtain⟨f,hf,hFj,hDj⟩:=hE j l[j] (by simp[hjl]);obtain⟨_,_,h3⟩:=hind j l[j] f (by simp[hjl]) hf (by simp[hb];omega) (by omega);obtain⟨g1,g2,_⟩:=h3 hij;rw[hDe,hFe,hDj,hFj];exact⟨g1,g2⟩
   have hev:=hat i o hio;rw[hFe,htext]at hev;refine hev.sound (s:=st (De l) (Fe E) s (fun j=>listed.getD j false) l.length) ho ?_ ?_ ?_ ?_ hr ?_
   ·intro cs b hh;rw[hh]at hsel;cases hsel
   ·intro x hx
    refine Ox _ _ _ x _ fun j hj hne hd=> ?_
    obtain⟨f,hf,hFj,hDj⟩:=hE j l[j] (by simp[hj]);by_cases hji:j=i
    ·subst hji;simp[hun']at hne
    ·obtain⟨g1,_,_⟩:=hind j l[j] f (by simp[hj]) hf hne hji
     rw[hDj]at hd;exact g1 x hd hx
   ·intro id hid
    refine Ou _ _ _ id hoks _ fun j hj hne hd=> ?_
    obtain⟨f,hf,hFj,hDj⟩:=hE j l[j] (by simp[hj]);by_cases hji:j=i
    ·subst hji;simp[hun']at hne
    ·obtain⟨_,g2,_⟩:=hind j l[j] f (by simp[hj]) hf hne hji
     rw[hFj]at hd;exact g2 id hd hid
   ·intro id hid
    refine Ow _ _ _ hoks (hfr e (List.mem_of_getElem? he) id hid) _ fun j hj hb=> ?_
    obtain⟨f,hf,hFj,hDj⟩:=hE j l[j] (by simp[hj]);rw[hFj];have hji:j≠i:=by rintro rfl;rw[hun']at hb;cases hb
    rcases Nat.lt_or_gt_of_ne hji with hlt|hgt
    ·exact(hpi j l[j] f hlt (by simp[hj]) hf).2 id hid
    ·obtain⟨_,_,h3⟩:=hind j l[j] f (by simp[hj]) hf (by simp[hb];omega) hji
     obtain⟨_,g2,g3⟩:=h3 hgt;exact⟨g3 id hid,g2 id (List.mem_append_right _ hid)⟩
   ·intro ρ' w' hr'
    have:=ih (listed.setIfInBounds i true) ρ' w' (by simpa using hls) ?_ ?_ (by rw[hput];exact hr')
    ·rw[hput]at this;exact this
    ·intro j x hx hl' ed hed hb
     by_cases hji:j=i
     ·subst hji
      have:x=o:=Option.some.inj (hx.symm.trans hio);subst this;exact getD_set_true (hdep ed hed hb)
     ·rw[getD_set_ne false (Ne.symm hji)]at hl'
      exact getD_set_true (hcl j x hx hl' ed hed hb)
    ·rw[hupd,LI hun',if_pos hin];omega
theorem ON{id:Nat}{l:List Oper}{E:List Eff}{s s':VS}(hm:P.follows .mixedOrders=true)(h:VE P l.toArray w0 l E s s')(hB:veB l.toArray l E=true)
 (hfr: ∀e∈E,∀id∈e.nw,Bn id s){Q:Exit→Act→World→Prop}(hQ: ∀ρ w,Rel w0 ρ s' w→Q .normal (s'.act ρ) w)
 {ρ:Nat→Nm}{w:World}(hr:Rel w0 ρ s w):(Code.region id l.toArray true).wp P Q (s.act ρ) w:=by
 refine wp_region_any hm ?_;have hfun:(fun j=>(Array.replicate l.toArray.size false).getD j false)=fun _=>false:=by funext j;exact getD_replicate_false _ _
 have h00: ∀k,st (De l) (Fe E) s (fun _=>false) k=s:=by
  intro k
  induction k with
  |zero=>rfl
  |succ k ih=>simp only[st];exact ih
 have h0: ∀k,st (De l) (Fe E) s (fun j=>(Array.replicate l.toArray.size false).getD j false) k=s:=by rw[hfun];exact h00
 have hcnt:cnt (fun j=>(Array.replicate l.toArray.size false).getD j false) l.length=0:=by
  have:(fun j=>(Array.replicate l.toArray.size false).getD j false)=fun _=>false:=by funext j;exact getD_replicate_false _ _
  rw[this];exact LK _
 have hr':Rel w0 ρ s {w with drawn:=w.drawn+1}:=by
  obtain⟨hb,S,h⟩:=hr;exact⟨hb.drew,S,⟨fun id b hid=>(h.good id b hid).keep rfl (fun _ _ _=>rfl) (fun _ _ _=>rfl) (Nat.le_refl _) (fun _ _=>rfl) (fun _=>rfl),h.lt,h.fr,h.dis,h.inj⟩⟩
 have:=OS rfl h hB hfr hQ l.toArray.size (Array.replicate l.toArray.size false) ρ {w with drawn:=w.drawn+1} (by simp)
  (fun j o _ hl=>by rw[getD_replicate_false]at hl;cases hl) (by rw[hcnt];simp) (by rw[h0];exact hr')
 rw[h0]at this;exact this
def Co:List Eff→Bool
 | []=>true
 |e::E=>E.all (fun f=>f.nw.all (fun k=> !e.has k && !e.tgt.contains k)) && Co E
theorem OP{l:List Oper}{E:List Eff}{s s':VS}(h:VE P ops w0 l E s s'):(∀o∈l,Dg o.op=false)→Co E=true→
 (∀e∈E,∀id∈e.nw,Bn id s)→ ∀{Q:Exit→Act→World→Prop},(∀ρ w,Rel w0 ρ s' w→Q .normal (s'.act ρ) w)→
 ∀{ρ:Nat→Nm} {w:World},Rel w0 ρ s w→wpList P ops Q l (s.act ρ) w:=by
 induction h with
 |nil s=>intro _ _ _ Q hQ ρ w hr;exact hQ ρ w hr
 | @cons o l e E s s' h r ih=>
   intro hsel hB hfr Q hQ ρ w hr;simp only[Co,Bool.and_eq_true]at hB
   have hnext: ∀f∈E,∀id∈f.nw,Bn id (s.put o.dst e):=by
    intro f hf id hid;have h1:=List.all_eq_true.1 (List.all_eq_true.1 hB.1 f hf) id hid;simp only[Bool.and_eq_true,Bool.not_eq_true']at h1;exact Kw h.ok (hfr f (by simp[hf]) id hid) h1.1 (by simpa using h1.2)
   have:=h.step (K:=wpList P ops Q l) (Q:=Q) (s:=s) (by intro cs b hh;have:=hsel o (by simp);rw[hh]at this;cases this) (fun _ _=>rfl) (fun _ _=>rfl) (hfr e (by simp)) hr
    (fun ρ' w' hr'=>ih (fun o ho=>hsel o (by simp[ho])) hB.2 hnext hQ hr')
   unfold wpList;exact this
theorem OO{id:Nat}{l:List Oper}{E:List Eff}{s s':VS}(h:VE P l.toArray w0 l E s s')(hsel:l.all (fun o=> !Dg o.op)=true)(hB:Co E=true)
 (hfr: ∀e∈E,∀id∈e.nw,Bn id s){Q:Exit→Act→World→Prop}(hQ: ∀ρ w,Rel w0 ρ s' w→Q .normal (s'.act ρ) w)
 {ρ:Nat→Nm}{w:World}(hr:Rel w0 ρ s w):(Code.region id l.toArray false).wp P Q (s.act ρ) w:=
 wp_region_lit (OP h (fun o ho=>by have:=List.all_eq_true.1 hsel o ho;simpa using this) hB hfr hQ hr)
end
def VOk(P:Program)(w0:World)(s:VS)(c:Code)(Q:Exit→VS→Prop):Prop:=
 ∀ρ w (R:Exit→Act→World→Prop),Rel w0 ρ s w→(∀e ρ' s' w',Q e s'→Rel w0 ρ' s' w'→R e (s'.act ρ') w')→c.wp P R (s.act ρ) w
def AC(s:VS):Operand→SV
 | .tmp t=>(s.fr[t]?).getD (.v undef)
 | .const v=> .v v
 | .global g=> .v (.pointer (some ⟨g,0,none⟩))
 | .func f=> .v (.func (.func f) #[] #[])
theorem AH(s:VS)(ρ:Nat→Nm)(x:Operand):(s.act ρ).eval x=(AC s x).c ρ:=by
 cases x with
 |tmp t=>
  simp only[Act.eval,AC,Array.getD_eq_getD_getElem?,Ew];cases s.fr[t]? <;>rfl
 |const v=>simp[Act.eval,AC,SV.c]
 |global g=>simp[Act.eval,AC,SV.c]
 |func f=>simp[Act.eval,AC,SV.c]
end Go.Vx
namespace Go.Vx
open Go.RowKit Go.Toll
section
variable{P:Program}{w0:World}
def Rm(P:Program)(w0:World)(d:Code)(Q:Exit→VS→Prop):Exit→VS→Prop
 | .normal,s=>VOk P w0 s d Q
 |e,s=>Q e s
theorem H8{c d:Code}{s:VS}{Q:Exit→VS→Prop}(h:VOk P w0 s c (Rm P w0 d Q)):VOk P w0 s (.seq c d) Q:=by
 intro ρ w R hr hQ;refine wp_seq (h ρ w _ hr ?_);intro e ρ' s' w' hq hr';cases e with
 |normal=>exact hq ρ' w' R hr' hQ
 |_=>exact hQ _ _ _ _ hq hr'
def LY(id:Nat)(Q:Exit→VS→Prop):Exit→VS→Prop
 | .exit k,s=>if k=id then Q .normal s else Q (.exit k) s
 |e,s=>Q e s
theorem IB{id:Nat}{c:Code}{s:VS}{Q:Exit→VS→Prop}(h:VOk P w0 s c (LY id Q)):VOk P w0 s (.block id c) Q:=by
 intro ρ w R hr hQ;refine wp_block (h ρ w _ hr ?_);intro e ρ' s' w' hq hr';cases e with
 |exit k=>
  simp only[LY]at hq;simp only[Exit.inBlock];split
  ·rename_i hk;rw[if_pos hk]at hq;exact hQ _ _ _ _ hq hr'
  ·rename_i hk;rw[if_neg hk]at hq;exact hQ _ _ _ _ hq hr'
 |_=>exact hQ _ _ _ _ hq hr'
theorem H6{s:VS}{Q:Exit→VS→Prop}(h:Q .normal s):VOk P w0 s .skip Q:=fun _ _ _ hr hQ=>wp_skip (hQ _ _ _ _ h hr)
theorem AG{s:VS}{Q:Exit→VS→Prop}(h:Q .ret s):VOk P w0 s .ret Q:=fun _ _ _ hr hQ=>wp_ret (hQ _ _ _ _ h hr)
theorem Aq{id:Nat}{s:VS}{Q:Exit→VS→Prop}(h:Q (.exit id) s):VOk P w0 s (.exit id) Q:=fun _ _ _ hr hQ=>wp_exit (hQ _ _ _ _ h hr)
theorem Jd{x:Operand}{b:Bool}{c d:Code}{s:VS}{Q:Exit→VS→Prop}(hx:AC s x= .v (.bool b))(h:VOk P w0 s (if b then c else d) Q):VOk P w0 s (.cond x c d) Q:=
 fun ρ w R hr hQ=>wp_cond (by rw[AH,hx];rfl) (h ρ w R hr hQ)
theorem H9{x:Operand}{c d:Code}{s:VS}{Q:Exit→VS→Prop}(hx:AC s x= .v (.bool true))(h:VOk P w0 s c Q):VOk P w0 s (.cond x c d) Q:=Jd hx h
theorem IA{x:Operand}{c d:Code}{s:VS}{Q:Exit→VS→Prop}(hx:AC s x= .v (.bool false))(h:VOk P w0 s d Q):VOk P w0 s (.cond x c d) Q:=Jd hx h
theorem OJ{id:Nat}{l:List Oper}{E:List Eff}{s s':VS}{Q:Exit→VS→Prop}(hm:P.follows .mixedOrders=true)(h:VE P l.toArray w0 l E s s')(hB:veB l.toArray l E=true)
 (hfr: ∀e∈E,∀id∈e.nw,Bn id s)(hQ:Q .normal s'):VOk P w0 s (.region id l.toArray true) Q:=
 fun _ _ _ hr hR=>ON hm h hB hfr (fun _ _ hr'=>hR _ _ _ _ hQ hr') hr
theorem OI{id:Nat}{l:List Oper}{E:List Eff}{s s':VS}{Q:Exit→VS→Prop}(h:VE P l.toArray w0 l E s s')(hsel:l.all (fun o=> !Dg o.op)=true)(hB:Co E=true)
 (hfr: ∀e∈E,∀id∈e.nw,Bn id s)(hQ:Q .normal s'):VOk P w0 s (.region id l.toArray false) Q:=
 fun _ _ _ hr hR=>OO h hsel hB hfr (fun _ _ hr'=>hR _ _ _ _ hQ hr') hr
def H2(P:Program)(w0:World)(c:Code)(Q:Exit→VS→Prop):Nat→VS→Prop
 |0,_=>False
 |n+1,s=>VOk P w0 s c fun e s'=>match e with| .normal=>H2 P w0 c Q n s'|e=>Q e s'
theorem Ce{c:Code}{s:VS}{Q:Exit→VS→Prop}(n:Nat)(h:H2 P w0 c Q n s):VOk P w0 s (.loop c) Q:=by
 intro ρ w R hr hQ;refine wp_loop_rounds n ?_
 induction n generalizing s ρ w with
 |zero=>exact h.elim
 |succ n ih=>
  rw[rounds_succ];refine h ρ w _ hr ?_;intro e ρ' s' w' hq hr';cases e with
  |normal=>exact ih hq ρ' w' hr'
  |_=>exact hQ _ _ _ _ hq hr'
theorem dH(l:List Value)(w:World)(ρ:Nat→Nm):Rel w ρ ⟨l.map .v,AK []⟩ w:=
 ⟨Bw.refl w,fun _ _=>False,⟨fun _ _ h=>(by cases h),fun _ _ h=>(by cases h),fun _ _ h=>(by cases h),fun _ _ _ h=>(by cases h),fun _ _ _ _ h=>(by cases h)⟩⟩
theorem OQ{c:Code}{l:List Value}{w:World}{R:Exit→Act→World→Prop}(h:VOk P w ⟨l.map .v,AK []⟩ c fun e s'=> ∀ρ w',Rel w ρ s' w'→R e (s'.act ρ) w'):c.wp P R ⟨l.toArray,[]⟩ w:=by
 have h1:(⟨l.toArray,[]⟩:Act)=(⟨l.map .v,AK []⟩:VS).act (fun _=>default):=by
  simp[VS.act,SV.c,Function.comp_def]
 rw[h1];exact h _ w R (dH l w _) fun _ ρ _ w' hq hr=>hq ρ w' hr
def DU:List (Nat×Blk)→Nat→Blk→List (Nat×Blk)
 | [],id,b=>[(id,b)]
 |(k,c)::l,id,b=>if k=id then(id,b)::l else(k,c)::DU l id b
def BS:List (Nat×Blk)→List Nat→List (Nat×Blk)
 | [],_=>[]
 |(k,c)::l,ids=>if ids.elem k then BS l ids else(k,c)::BS l ids
theorem Pp(l:List (Nat×Blk))(id:Nat)(b:Blk)(x:SV)(rd:List Nat):AK (DU l id b)=Aw (AK l) ⟨x,[(id,b)],[id],[],rd⟩:=by
 induction l with
 |nil=>
  funext k
  simp only[DU,AK,Aw];split<;>simp_all
 |cons y l ih=>
  obtain⟨k,c⟩:=y;funext j
  simp only[DU];have ihj:=congrFun ih j;simp only[Aw,AK,List.mem_singleton]at ihj⊢;split
  ·rename_i h;subst h
   simp only[AK];split<;>simp_all
  ·rename_i h
   simp only[AK,ihj];by_cases h1:j=id
   ·subst h1;simp[Ne.symm h]
   ·simp[h1]
theorem Pr(l:List (Nat×Blk))(ids:List Nat)(k:Nat):AK (BS l ids) k=if k∈ids then none else AK l k:=by
 induction l with
 |nil=>simp[BS,AK]
 |cons y l ih=>
  obtain⟨j,c⟩:=y;simp only[BS];split
  ·rename_i h
   have hj:j∈ids:=by simpa using h
   rw[ih];simp only[AK];split
   ·rfl
   ·rename_i h2;rw[if_neg];rintro rfl;exact h2 hj
  ·rename_i h
   have hj:j∉ids:=by simpa using h
   simp only[AK];split
   ·rename_i h2;rw[if_neg (by rw[h2];exact hj)]
   ·exact ih
theorem ge(a l:List (Nat×Blk))(k:Nat):AK (a++l) k=match AK a k with|some b=>some b|none=>AK l k:=by
 induction a with
 |nil=>rfl
 |cons y a ih=>
  obtain⟨j,c⟩:=y;simp only[List.cons_append,AK];split
  ·rfl
  ·exact ih
theorem KB(fr:List SV)(m:Mem)(d:Option Nat)(x:SV)(rd:List Nat):(⟨fr,m⟩:VS).put d ⟨x,[],[],[],rd⟩=⟨BW fr d x,m⟩:=by
 simp only[VS.put];congr 1
theorem KA(fr:List SV)(l:List (Nat×Blk))(d:Option Nat)(x:SV)(rd:List Nat)(id:Nat)(b:Blk):(⟨fr,AK l⟩:VS).put d ⟨x,[(id,b)],[id],[],rd⟩=⟨BW fr d x,AK (DU l id b)⟩:=by
 simp only[VS.put,Pp l id b x rd]
theorem Tu(fr:List SV)(l add:List (Nat×Blk))(d:Option Nat)(x:SV)(rd up:List Nat)(n:Nat)(nw:List Nat):(⟨fr,AK l⟩:VS).put d ⟨x,add,up,n::nw,rd⟩=⟨BW fr d x,AK (add++BS l up)⟩:=by
 simp only[VS.put];congr 1;funext k
 simp only[Aw,ge,Pr];all_goals (cases AK add k<;>rfl)
theorem Kz(fr:List SV)(d:Nat)(x:SV):BW fr (some d) x=fr.set d x:=rfl
theorem K0(fr:List SV)(x:SV):BW fr none x=fr:=rfl
def FK(fr:List SV)(l:List (Nat×Blk))(id:Nat):Bool:=fr.all (fun x=> !x.has id) && l.all (fun x=>x.1 !=id && !x.2.has id)
theorem Kx{fr:List SV}{l:List (Nat×Blk)}{id:Nat}(h:FK fr l id=true):Bn id ⟨fr,AK l⟩:=by
 simp only[FK,Bool.and_eq_true]at h;obtain⟨h1,h2⟩:=h;refine⟨?_,fun x hx=>by have:=List.all_eq_true.1 h1 x hx;simpa using this,?_⟩
 ·simp only
  clear h1
  induction l with
  |nil=>rfl
  |cons x l ih=>
   obtain⟨k,c⟩:=x;simp only[List.all_cons,Bool.and_eq_true]at h2;simp only[AK];rw[if_neg (by have:=h2.1.1;intro e;rw[e]at this;simp at this)];exact ih h2.2
 ·simp only
  clear h1
  induction l with
  |nil=>intro k b hb;cases hb
  |cons x l ih=>
   obtain⟨k,c⟩:=x;simp only[List.all_cons,Bool.and_eq_true]at h2;intro j b hb;simp only[AK]at hb;split at hb
   ·injection hb with hb;subst hb;have:=h2.1.2;simpa using this
   ·exact ih h2.2 j b hb
def Ej(fr:List SV)(l:List (Nat×Blk))(E:List Eff):Bool:=E.all fun e=>e.nw.all fun id=>FK fr l id
theorem Ky{fr:List SV}{l:List (Nat×Blk)}{E:List Eff}(h:Ej fr l E=true): ∀e∈E,∀id∈e.nw,Bn id ⟨fr,AK l⟩:=by
 intro e he id hid;exact Kx (List.all_eq_true.1 (List.all_eq_true.1 h e he) id hid)
theorem vrd{id:Nat}{l:List Oper}{E:List Eff}{fr:List SV}{m:List (Nat×Blk)}{s':VS}{Q:Exit→VS→Prop}(hm:P.follows .mixedOrders=true)(h:VE P l.toArray w0 l E ⟨fr,AK m⟩ s')
 (hB:(veB l.toArray l E && Ej fr m E)=true)(hQ:Q .normal s'):VOk P w0 ⟨fr,AK m⟩ (.region id l.toArray true) Q:=by
 rw[Bool.and_eq_true]at hB;exact OJ hm h hB.1 (Ky hB.2) hQ
theorem vrp{id:Nat}{l:List Oper}{E:List Eff}{fr:List SV}{m:List (Nat×Blk)}{s':VS}{Q:Exit→VS→Prop}(h:VE P l.toArray w0 l E ⟨fr,AK m⟩ s')
 (hB:(l.all (fun o=> !Dg o.op) && Co E && Ej fr m E)=true)(hQ:Q .normal s'):VOk P w0 ⟨fr,AK m⟩ (.region id l.toArray false) Q:=by
 simp only[Bool.and_eq_true]at hB;exact OI h hB.1.1 hB.1.2 (Ky hB.2) hQ
variable{ops:Array Oper}{o:Oper}{s:VS}
theorem OG(hg:o.guard=none)(t:Array Value):Region.wanted o (yielded ops t)=true:=by simp[Region.wanted,hg]
abbrev AR(ops:Array Oper)(o:Oper)(s:VS):Prop:= ∀ρ,Region.wanted o (yielded ops (s.act ρ).tmps)=true
theorem gn(hg:o.guard=none):AR ops o s:=fun _=>OG hg _
theorem gg(hg:o.guard=none:=by rfl):AR ops o s:=gn hg
theorem Ev.skip(hw: ∀ρ,Region.wanted o (yielded ops (s.act ρ).tmps)=false):Ev P ops w0 o s ⟨.v undef,[],[],[],[]⟩:=⟨rfl,.inl ⟨hw,rfl⟩⟩
theorem UC{base:Nat}{t:Mem}{ρ:Nat→Nm}{S:Nat→Nat→Prop}{w w':World}{val:SV}{rd:List Nat}(h:Bw w w'):Out base t ρ S w ⟨val,[],[],[],rd⟩ (val.c ρ) ρ S w':=
 ⟨rfl,fun _ _=>rfl,h.os,h.tape,h.output,h.size,fun k hk _=>h.block k hk,fun _ _ h=>(by cases h),fun _ _ h=>(by cases h),fun _ _ h=>(by cases h),fun _ _ _ _ h=>(by cases h)⟩
theorem Ev.run(val:SV)(rd:List Nat)(hw:AR ops o s)(h: ∀ρ S w,Bw w0 w→RelOn w0.heap.size ρ S w (restr rd s.mem)→(execOp (s.act ρ).eval o).run P w= .ok (.value (val.c ρ)) w):Ev P ops w0 o s ⟨val,[],[],[],rd⟩:=
 ⟨rfl,.inr ⟨hw,fun ρ S w hb hR=> .inl ⟨_,w,h ρ S w hb hR,ρ,S,UC (Bw.refl w)⟩⟩⟩
theorem Ev.call(f:FuncId)(args:(Nat→Nm)→Array Value)(val:SV)(rd:List Nat)(hw:AR ops o s)(h: ∀ρ w,(execOp (s.act ρ).eval o).run P w= .ok (.enter f (args ρ)) w)
 (hc: ∀ρ S w,Bw w0 w→RelOn w0.heap.size ρ S w (restr rd s.mem)→Calls P f (args ρ) w fun e w'=>e= .returned (val.c ρ)∧Bw w w'):Ev P ops w0 o s ⟨val,[],[],[],rd⟩:=
 ⟨rfl,.inr ⟨hw,fun ρ S w hb hR=> .inr (.inr ⟨f,args ρ,h ρ w,(hc ρ S w hb hR).mono fun _ _ ⟨he,hg⟩=>⟨_,he,ρ,S,UC hg⟩⟩)⟩⟩
theorem Cu{base:Nat}{t:Mem}{ρ:Nat→Nm}{S:Nat→Nat→Prop}{w w':World}{val:SV}{rd up:List Nat}{id:Nat}{b:Blk}{m:Nm}{S1:Nat→Prop}
 (os:w'.os=w.os)(tape:w'.tape=w.tape)(output:w'.output=w.output)(size:w.heap.size≤w'.heap.size)
 (hk: ∀k,k<w.heap.size→(∀i∈up,∀b,t i=some b→b.owns (ρ i)→(ρ i).g≠k)→w'.heap[k]? =w.heap[k]?)
 (hg: ∀ρ':Nat→Nm,ρ' id=m→(∀i,i≠id→ρ' i=ρ i)→CH base ρ' id b w' S1)
 (hS: ∀k,S1 k→(∃i∈rd,(t i).isSome∧S i k)∨(w.heap.size≤k∧k<w'.heap.size))
 (ho:b.owns m→(∃i∈up,∃c,t i=some c∧c.owns (ρ i)∧(ρ i).g=m.g)∨(w.heap.size≤m.g∧ ¬S1 m.g)):
 Out base t ρ S w ⟨val,[(id,b)],up,[id],rd⟩ (val.c fun k=>if k=id then m else ρ k) (fun k=>if k=id then m else ρ k) (fun _=>S1) w':=by
 have one: ∀i c,AK [(id,b)] i=some c→i=id∧c=b:=by
  intro i c h;simp only[AK]at h;split at h
  ·rename_i e;injection h with h;exact⟨e,h.symm⟩
  ·cases h
 refine⟨rfl,fun i hi=>by rw[if_neg (by simpa using hi)],os,tape,output,size,hk,?_,?_,?_,?_⟩
 ·intro i c h
  obtain⟨rfl,rfl⟩:=one i c h;exact hg _ (by simp) fun j hj=>by simp[hj]
 ·intro i k _ h;exact hS k h
 ·intro i c h hoc
  obtain⟨rfl,rfl⟩:=one i c h;simp only[if_true]at hoc⊢;rcases ho hoc with h|⟨h1,h2⟩
  ·exact .inl h
  ·exact .inr ⟨h1,fun _ _=>h2⟩
 ·intro i c j d h1 _ h2 _ _
  exact(one i c h1).1.trans (one j d h2).1.symm
theorem Ev.new(id:Nat)(l:List SV)(ty:TypeId)(hw:AR ops o s)(hid:SV.hasL id l=false)
 (h: ∀ρ w,(execOp (s.act ρ).eval o).run P w= .ok (.value (.pointer (some ⟨w.heap.size,0,none⟩))) (w.alloc (Cb ρ l ty))):Ev P ops w0 o s ⟨.p id 0,[(id,.cells l ty)],[],[id],[]⟩:=
 ⟨by simp[Eff.ok],.inr ⟨hw,fun ρ S w hb _=> .inl ⟨_,_,h ρ w,_,_,by
  have:=Cu (base:=w0.heap.size) (t:=s.mem) (ρ:=ρ) (S:=S) (w:=w) (w':=w.alloc (Cb ρ l ty)) (val:= .p id 0) (rd:=[]) (up:=[]) (id:=id) (b:= .cells l ty) (m:=⟨w.heap.size,undef⟩) (S1:=fun _=>False)
   rfl rfl rfl (by simp) (fun k hk _=>heap_alloc_old w _ hk) (fun ρ' h1 h2=>by
    refine⟨by rw[h1];exact hb.size,?_⟩;rw[h1];simp only[Cb];rw[Ep (nw:=[id]) (fun i hi=>h2 i (by simpa using hi)) (fun i hi=>by simp at hi;rw[hi];exact hid)];exact heap_alloc_new w _) (fun _ h=>h.elim) (fun _=> .inr ⟨Nat.le_refl _,fun h=>h⟩)
  simpa[SV.c] using this⟩⟩⟩
structure Wr(w w':World)(g:Nat):Prop where
 os:w'.os=w.os
 tape:w'.tape=w.tape
 output:w'.output=w.output
 size:w'.heap.size=w.heap.size
 block: ∀k,k≠g→w'.heap[k]? =w.heap[k]?
theorem Ev.wr(id:Nat)(b b':Blk)(val:SV)(rd:List Nat)(hw:AR ops o s)(hm:s.mem id=some b)(hrd:rd.contains id=true)(hv: ∀ρ,val.c ρ=undef)
 (h: ∀ρ S w,Bw w0 w→RelOn w0.heap.size ρ S w (restr rd s.mem)→b.owns (ρ id)∧ ∃w',(execOp (s.act ρ).eval o).run P w= .ok .skip w'∧Wr w w' (ρ id).g∧CH w0.heap.size ρ id b' w' (S id)):Ev P ops w0 o s ⟨val,[(id,b')],[id],[],rd⟩:=
 ⟨by simp[Eff.ok];simpa using hrd,.inr ⟨hw,fun ρ S w hb hR=>by
  obtain⟨hob,w',hrun,hwr,hg⟩:=h ρ S w hb hR;have hin:id∈rd:=by simpa using hrd
  have one: ∀i c,AK [(id,b')] i=some c→i=id∧c=b':=by
   intro i c h;simp only[AK]at h;split at h
   ·rename_i e;injection h with h;exact⟨e,h.symm⟩
   ·cases h
  refine .inr (.inl ⟨w',hrun,ρ,S,⟨(hv ρ).symm,fun _ _=>rfl,hwr.os,hwr.tape,hwr.output,Nat.le_of_eq hwr.size.symm,?_,?_,?_,?_,?_⟩⟩)
  ·intro k _ hk
   exact hwr.block k fun e=>hk id (by simp) b hm hob e.symm
  ·intro i c h1
   obtain⟨rfl,rfl⟩:=one i c h1;exact hg
  ·intro i k h1 hk
   obtain⟨c,h1⟩:=Option.isSome_iff_exists.1 h1;obtain⟨rfl,rfl⟩:=one i c h1;exact .inl ⟨i,hin,by rw[hm];rfl,hk⟩
  ·intro i c h1 _
   obtain⟨rfl,rfl⟩:=one i c h1;exact .inl ⟨i,by simp,b,hm,hob,rfl⟩
  ·intro i c j d h1 _ h2 _ _
   exact(one i c h1).1.trans (one j d h2).1.symm⟩⟩
theorem A6{base:Nat}{ρ:Nat→Nm}{S:Nat→Nat→Prop}{w:World}{m:Mem}{rd:List Nat}{id:Nat}{b:Blk}(hR:RelOn base ρ S w (restr rd m))(hm:m id=some b)(hrd:id∈rd):CH base ρ id b w (S id):=
 hR.good id b (by simp[restr,hrd,hm])
theorem Hj{x:Operand}(ho:o.op= .move x)(hgd:AR ops o s):Ev P ops w0 o s ⟨AC s x,[],[],[],[]⟩:=
 Ev.run _ _ hgd fun ρ _ w _ _=>by simp only[execOp,ho];rw[AH];rfl
theorem JJ{x:Operand}(ho:o.op= .assign x)(hgd:AR ops o s):Ev P ops w0 o s ⟨AC s x,[],[],[],[]⟩:=
 Ev.run _ _ hgd fun ρ _ w _ _=>by simp only[execOp,ho];rw[AH];rfl
theorem Ql(v:Value)(hgd:AR ops o s)(h: ∀ρ w,(execOp (s.act ρ).eval o).run P w= .ok (.value v) w):Ev P ops w0 o s ⟨.v v,[],[],[],[]⟩:=
 Ev.run _ _ hgd fun ρ _ w _ _=>by simp only[SV.c];exact h ρ w
theorem El{v:Value}{r:(Nat→Nm)→World→Result Next}(hgd:AR ops o s)(h: ∀ρ w,(execOp (s.act ρ).eval o).run P w=r ρ w)(h2: ∀ρ w,r ρ w= .ok (.value v) w):Ev P ops w0 o s ⟨.v v,[],[],[],[]⟩:=
 Ql v hgd fun ρ w=>(h ρ w).trans (h2 ρ w)
theorem JN(ρ:Nat→Nm)(l:List Value):SV.cs ρ (l.map .v)=l:=by
 rw[A3,List.map_map]
 induction l with
 |nil=>rfl
 |cons x l ih=>simp only[List.map_cons,Function.comp_def,SV.c]at ih ⊢; rw[ih]
theorem Wu(id:Nat)(l:List Value):SV.hasL id (l.map .v)=false:=by
 rw[NG];simp[SV.has]
theorem Bq{ty:TypeId}{z:Value}{id:Nat}(_hd:o.dst=some id)(ho:o.op= .alloc ty)(hgd:AR ops o s)(hz: ∀w,(zeroValue ty).run P w= .ok z w):
 Ev P ops w0 o s ⟨.p id 0,[(id,.cells (z.cells.toList.map .v) ty)],[],[id],[]⟩:=
 Ev.new id _ _ hgd (Wu _ _) fun ρ w=>by
  simp[execOp,ho,Instr.alloc,newVar,newRow,newObj,Sem.run_bind,hz,Result.andThen,Cb,JN];rfl
theorem JI{ty:TypeId}{x:Operand}{v:Value}{id:Nat}(_hd:o.dst=some id)(ho:o.op= .box ty x)(hgd:AR ops o s)(hx:AC s x= .v v):
 Ev P ops w0 o s ⟨.p id 0,[(id,.cells (v.cells.toList.map .v) ty)],[],[id],[]⟩:=
 Ev.new id _ _ hgd (Wu _ _) fun ρ w=>by
  have h1:=AH s ρ x;rw[hx]at h1;simp[execOp,ho,h1,Instr.box,newVar,newRow,newObj,Result.andThen,Cb,JN,SV.c];rfl
def Bc:TypeDesc→Bool
 | .struct _=>true
 | .array _ _=>true
 |_=>false
theorem Bu{t:TypeId}{d:TypeDesc}(hu:P.underlying t=some d)(w:World):(isAgg t).run P w= .ok (Bc d) w:=by
 unfold isAgg;rw[Sem.run_bind,run_underlying hu w];cases d<;>simp[Bc,Result.andThen]
theorem BX(g off j:Nat):(⟨g,off,none⟩:Addr).add j=⟨g,off+j,none⟩:=by unfold Addr.add;split<;>simp_all
def unV:List SV→Option (List Value)
 | []=>some []
 | .v x::l=>match unV l with|some r=>some (x::r)|none=>none
 |_::_=>none
theorem Dy: ∀{l:List SV} {r:List Value},unV l=some r→l=r.map .v
 | [],r,h=>by simp[unV]at h;subst h;rfl
 | .v x::l,r,h=>by
   simp only[unV]at h;cases hl:unV l with
   |none=>rw[hl]at h;cases h
   |some q=>rw[hl]at h;simp only[Option.some.injEq]at h;subst h;rw[Dy hl];rfl
 | .p _ _::_,_,h=>by simp[unV]at h
 | .s _ _ _ _::_,_,h=>by simp[unV]at h
 | .d _::_,_,h=>by simp[unV]at h
 | .fn _ _::_,_,h=>by simp[unV]at h
 | .agg _::_,_,h=>by simp[unV]at h
 | .tup _::_,_,h=>by simp[unV]at h
theorem ET{w:World}{ρ:Nat→Nm}{l:List SV}{ty:TypeId}{g:Nat}(h:w.heap[g]? =some (Cb ρ l ty)){i:Nat}{x:SV}(hx:l[i]? =some x):w.cell? ⟨g,i,none⟩=some (x.c ρ):=by
 simp only[World.cell?,h,Cb,A3];simp[hx]
theorem Dw{ty:TypeId}{x:Operand}{id off n:Nat}{l:List SV}{bt:TypeId}{d:TypeDesc}{vs:List Value}(ho:o.op= .load ty x)(hgd:AR ops o s)(hx:AC s x= .p id off)(hm:s.mem id=some (.cells l bt))
 (hu:P.underlying ty=some d)(hd:Bc d=true)(hs: ∀w,(Go.sizeOf ty).run P w= .ok n w)(hv0:unV ((l.drop off).take n)=some vs)(hl:vs.length=n):Ev P ops w0 o s ⟨.v (.agg vs.toArray),[],[],[],[id]⟩:=
 Ev.run _ _ hgd fun ρ S w hb hR=>by
  have h1:=AH s ρ x;rw[hx]at h1;have hg:=(A6 hR hm (by simp)).2;have hv:=Dy hv0
  have hl':(loadCells ⟨(ρ id).g,off,none⟩ vs.length).run P w= .ok vs.toArray w:=run_loadCells_list w _ vs fun j v hj=>by
   rw[BX];have h2:((l.drop off).take n)[j]? =some (.v v):=by rw[hv];simp[hj]
   have h3:l[off+j]? =some (.v v):=by
    rw[List.getElem?_take]at h2;split at h2
    ·rwa [List.getElem?_drop]at h2
    ·cases h2
   have:=ET hg h3;simpa[SV.c] using this
  rw[hl]at hl';simp[execOp,ho,h1,SV.c,Instr.loadAt,Instr.sureAddr,loadVar,Bu hu,hd,hs,hl']
theorem NP{ty:TypeId}{x:Operand}{id off n:Nat}{l:List SV}{bt:TypeId}{d:TypeDesc}(ho:o.op= .load ty x)(hgd:AR ops o s)(hx:AC s x= .p id off)(hm:s.mem id=some (.cells l bt))
 (hu:P.underlying ty=some d)(hd:Bc d=true)(hs: ∀w,(Go.sizeOf ty).run P w= .ok n w)(hl:((l.drop off).take n).length=n):Ev P ops w0 o s ⟨.agg ((l.drop off).take n),[],[],[],[id]⟩:=
 Ev.run _ _ hgd fun ρ S w hb hR=>by
  have h1:=AH s ρ x;rw[hx]at h1;have hg:=(A6 hR hm (by simp)).2
  have hl':(loadCells ⟨(ρ id).g,off,none⟩ (SV.cs ρ ((l.drop off).take n)).length).run P w= .ok (SV.cs ρ ((l.drop off).take n)).toArray w:=run_loadCells_list w _ _ fun j v hj=>by
   rw[BX];rw[A3,List.getElem?_map]at hj;cases h2:((l.drop off).take n)[j]? with
   |none=>rw[h2]at hj;cases hj
   |some y=>
    rw[h2]at hj;simp only[Option.map_some,Option.some.injEq]at hj;subst hj
    have h3:l[off+j]? =some y:=by
     rw[List.getElem?_take]at h2;split at h2
     ·rwa [List.getElem?_drop]at h2
     ·cases h2
    exact ET hg h3
  have hln:(SV.cs ρ ((l.drop off).take n)).length=n:=by rw[A3,List.length_map];exact hl
  rw[hln]at hl';simp[execOp,ho,h1,SV.c,Instr.loadAt,Instr.sureAddr,loadVar,Bu hu,hd,hs,hl']
theorem Cl{ty:TypeId}{x:Operand}{id off:Nat}{l:List SV}{bt:TypeId}{d:TypeDesc}{v:SV}(ho:o.op= .load ty x)(hgd:AR ops o s)(hx:AC s x= .p id off)(hm:s.mem id=some (.cells l bt))
 (hu:P.underlying ty=some d)(hd:Bc d=false)(hv:l[off]? =some v):Ev P ops w0 o s ⟨v,[],[],[],[id]⟩:=
 Ev.run _ _ hgd fun ρ S w hb hR=>by
  have h1:=AH s ρ x;rw[hx]at h1;have hc:=ET (A6 hR hm (by simp)).2 hv;simp[execOp,ho,h1,SV.c,Instr.loadAt,Instr.sureAddr,loadVar,Bu hu,hd,hc]
theorem Bw.cell{w w':World}(h:Bw w w'){a:Addr}{v:Value}(hc:w.cell? a=some v):w'.cell? a=some v:=(Below.cell h (World.block_lt_of_cell? _ _ hc)).trans hc
theorem CS{ty:TypeId}{x:Operand}{g off n:Nat}{d:TypeDesc}{vs:List Value}(ho:o.op= .load ty x)(hgd:AR ops o s)(hx:AC s x= .v (.pointer (some ⟨g,off,none⟩)))
 (hu:P.underlying ty=some d)(hd:Bc d=true)(hs: ∀w,(Go.sizeOf ty).run P w= .ok n w)(hc: ∀j v,vs[j]? =some v→w0.cell? ⟨g,off+j,none⟩=some v)(hl:vs.length=n):Ev P ops w0 o s ⟨.v (.agg vs.toArray),[],[],[],[]⟩:=
 Ev.run _ _ hgd fun ρ S w hb hR=>by
  have h1:=AH s ρ x;rw[hx]at h1
  have hl':(loadCells ⟨g,off,none⟩ vs.length).run P w= .ok vs.toArray w:=run_loadCells_list w _ vs fun j v hj=>by
   rw[BX];exact hb.cell (hc j v hj)
  rw[hl]at hl';simp[execOp,ho,h1,SV.c,Instr.loadAt,Instr.sureAddr,loadVar,Bu hu,hd,hs,hl']
theorem Ck{ty:TypeId}{x:Operand}{a:Addr}{d:TypeDesc}{v:Value}(ho:o.op= .load ty x)(hgd:AR ops o s)(hx:AC s x= .v (.pointer (some a)))
 (hu:P.underlying ty=some d)(hd:Bc d=false)(hc:w0.cell? a=some v):Ev P ops w0 o s ⟨.v v,[],[],[],[]⟩:=
 Ev.run _ _ hgd fun ρ S w hb hR=>by
  have h1:=AH s ρ x;rw[hx]at h1;simp[execOp,ho,h1,SV.c,Instr.loadAt,Instr.sureAddr,loadVar,Bu hu,hd,hb.cell hc]
theorem nh{ty:TypeId}{x y:Operand}{id off n:Nat}{l vl:List SV}{bt:TypeId}{v:SV}(ho:o.op= .store ty x y)(hgd:AR ops o s)(hx:AC s x= .p id off)(hm:s.mem id=some (.cells l bt))(hy:AC s y=v)
 (hs: ∀w,(Go.sizeOf ty).run P w= .ok n w)(hc: ∀ρ,(v.c ρ).cells.toList=SV.cs ρ vl)(hn:vl.length=n)(hfit:off+n≤l.length)(h1: ∀ρ,(SV.cs ρ vl).all (·.oneCell')=true):
 Ev P ops w0 o s ⟨.v undef,[(id,.cells (l.take off++vl++l.drop (off+n)) bt)],[id],[],[id]⟩:=
 Ev.wr id _ _ _ _ hgd hm (by simp) (fun _=>by simp[SV.c]) fun ρ S w hb hR=>by
  have e1:=AH s ρ x;rw[hx]at e1;have e2:=AH s ρ y;rw[hy]at e2;obtain⟨hg0,hg⟩:=A6 hR hm (by simp);have hlen:(SV.cs ρ vl).length=n:=by rw[A3,List.length_map];exact hn
  have hst:=run_storeCells_at P (ρ id).g off bt (SV.cs ρ vl) 0 (SV.cs ρ l).toArray w hg (by rw[hlen];simp[A3];omega) (fun u hu=>List.all_eq_true.1 (h1 ρ) u hu);have hsz:(v.c ρ).cells.size=n:=by rw[←Array.length_toList,hc ρ,hlen]
  refine⟨True.intro,w.setRow (ρ id).g ((SV.cs ρ l).toArray.toList.take (off+0)++SV.cs ρ vl++(SV.cs ρ l).toArray.toList.drop (off+0+(SV.cs ρ vl).length)).toArray,?_,⟨rfl,rfl,rfl,by simp,fun k hk=>setRow_other w _ k _ hk⟩,hg0,?_⟩
  ·simp only[execOp,ho,e1,e2,SV.c,Instr.storeAt,Instr.sureAddr,storeVar]
   rw[Sem.run_bind,Sem.run_bind,Sem.run_pure,Result.andThen_ok,Sem.run_bind,hs,Result.andThen_ok,if_neg (by rw[hsz];simp),hc ρ,hst];rfl
  ·rw[setRow_heap w (ρ id).g _ _ _ _ hg]
   simp[Cb,A3,hn,List.map_take,List.map_drop]
theorem Be{ty:TypeId}{x y:Operand}{id off n:Nat}{l:List SV}{bt:TypeId}{v:Value}(ho:o.op= .store ty x y)(hgd:AR ops o s)(hx:AC s x= .p id off)(hm:s.mem id=some (.cells l bt))(hy:AC s y= .v v)
 (hs: ∀w,(Go.sizeOf ty).run P w= .ok n w)(hn:v.cells.size=n)(hfit:off+n≤l.length)(h1:v.cells.toList.all (·.oneCell')=true):
 Ev P ops w0 o s ⟨.v undef,[(id,.cells (l.take off++v.cells.toList.map .v++l.drop (off+n)) bt)],[id],[],[id]⟩:=
 nh ho hgd hx hm hy hs (fun ρ=>by simp only[SV.c,JN]) (by simpa using hn) hfit (fun ρ=>by rw[JN];exact h1)
theorem Af{x:Int}(h0: -9223372036854775808≤x)(h1:x≤9223372036854775807):IntKind.i64.wrap x=x:=IntWalk.i64_in x (by omega)
theorem Gk{ty:TypeId}{x ix:Operand}{id off n sz:Nat}{el:TypeId}{k:IntKind}{i:Int}(ho:o.op= .indexAddr ty x ix)(hgd:AR ops o s)(hx:AC s x= .p id off)(hi:AC s ix= .v (.int k i))
 (hu:P.underlying ty=some (.array n el))(hs: ∀w,(Go.sizeOf el).run P w= .ok sz w)(h0:0≤i)(h1:i<n):Ev P ops w0 o s ⟨.p id (off+i.toNat*sz),[],[],[],[]⟩:=
 Ev.run _ _ hgd fun ρ S w hb hR=>by
  have e1:=AH s ρ x;rw[hx]at e1;have e2:=AH s ρ ix;rw[hi]at e2;simp[execOp,ho,e1,e2,SV.c,Instr.indexAt,asIntOf,run_underlying hu,Instr.sureAddr,hs,h0,h1,BX]
theorem Cn{ty:TypeId}{x:Operand}{id off f n:Nat}{fs:Array Field}{fd:Field}(ho:o.op= .fieldAddr ty x f)(hgd:AR ops o s)(hx:AC s x= .p id off)
 (hu:P.underlying ty=some (.struct fs))(hf:fs[f]? =some fd)(hs: ∀w,(Go.sizeOf fd.type).run P w= .ok (n+1) w):Ev P ops w0 o s ⟨.p id (off+fd.offset),[],[],[],[]⟩:=
 Ev.run _ _ hgd fun ρ S w hb hR=>by
  have e1:=AH s ρ x;rw[hx]at e1;simp[execOp,ho,e1,SV.c,Instr.fieldAt,run_underlying hu,hf,Instr.sureAddr,fieldPlace,hs,BX]
theorem Cm{ty:TypeId}{x:Operand}{g off f n:Nat}{fs:Array Field}{fd:Field}(ho:o.op= .fieldAddr ty x f)(hgd:AR ops o s)(hx:AC s x= .v (.pointer (some ⟨g,off,none⟩)))
 (hu:P.underlying ty=some (.struct fs))(hf:fs[f]? =some fd)(hs: ∀w,(Go.sizeOf fd.type).run P w= .ok (n+1) w):Ev P ops w0 o s ⟨.v (.pointer (some ⟨g,off+fd.offset,none⟩)),[],[],[],[]⟩:=
 Ev.run _ _ hgd fun ρ S w hb hR=>by
  have e1:=AH s ρ x;rw[hx]at e1;simp[execOp,ho,e1,SV.c,Instr.fieldAt,run_underlying hu,hf,Instr.sureAddr,fieldPlace,hs,BX]
theorem Gj{ty:TypeId}{x ix:Operand}{g off n sz:Nat}{el:TypeId}{k:IntKind}{i:Int}(ho:o.op= .indexAddr ty x ix)(hgd:AR ops o s)(hx:AC s x= .v (.pointer (some ⟨g,off,none⟩)))(hi:AC s ix= .v (.int k i))
 (hu:P.underlying ty=some (.array n el))(hs: ∀w,(Go.sizeOf el).run P w= .ok sz w)(h0:0≤i)(h1:i<n):Ev P ops w0 o s ⟨.v (.pointer (some ⟨g,off+i.toNat*sz,none⟩)),[],[],[],[]⟩:=
 Ev.run _ _ hgd fun ρ S w hb hR=>by
  have e1:=AH s ρ x;rw[hx]at e1;have e2:=AH s ρ ix;rw[hi]at e2;simp[execOp,ho,e1,e2,SV.c,Instr.indexAt,asIntOf,run_underlying hu,Instr.sureAddr,hs,h0,h1,BX]
theorem JB{x:Operand}{id off:Nat}(ho:o.op= .nilCheck x)(hgd:AR ops o s)(hx:AC s x= .p id off):Ev P ops w0 o s ⟨.p id off,[],[],[],[]⟩:=
 Ev.run _ _ hgd fun ρ S w hb hR=>by
  have e1:=AH s ρ x;rw[hx]at e1;simp[execOp,ho,e1,SV.c]
theorem JA{x:Operand}{a:Addr}(ho:o.op= .nilCheck x)(hgd:AR ops o s)(hx:AC s x= .v (.pointer (some a))):Ev P ops w0 o s ⟨.v (.pointer (some a)),[],[],[],[]⟩:=
 Ev.run _ _ hgd fun ρ S w hb hR=>by
  have e1:=AH s ρ x;rw[hx]at e1;simp[execOp,ho,e1,SV.c]
theorem F0{xs:Array Operand}{vs:List Value}(h0:unV (xs.toList.map (AC s))=some vs)(ρ:Nat→Nm):xs.map (s.act ρ).eval=vs.toArray:=by
 have h:=Dy h0
 have h1:xs.toList.map (s.act ρ).eval=vs:=by
  have:xs.toList.map (s.act ρ).eval=(xs.toList.map (AC s)).map (SV.c ρ):=by
   rw[List.map_map];exact List.map_congr_left fun x _=>AH s ρ x
  rw[this,h,List.map_map];simp[Function.comp_def,SV.c]
 rw[←Array.toList_map]at h1;rw[←h1,Array.toArray_toList]
theorem K8{ty:TypeId}{x:Operand}{id off len cap n:Nat}{el:TypeId}(ho:o.op= .sliceToArrayPointer ty x)(hgd:AR ops o s)(hx:AC s x= .s id off len cap)
 (hu:P.underlying ty=some (.array n el))(hn:n≤len):Ev P ops w0 o s ⟨.p id off,[],[],[],[]⟩:=
 Ev.run _ _ hgd fun ρ S w hb hR=>by
  have e1:=AH s ρ x;rw[hx]at e1;have h1: ¬len<n:=by omega
  simp[execOp,ho,e1,SV.c,Instr.arrayAt,run_underlying hu,h1]
theorem A4{ty r:TypeId}{x y:Operand}{a b:Int}{p:Bool}(ho:o.op= .binOp .lss ty x y r)(hgd:AR ops o s)(hx:AC s x= .v (.int .i64 a))(hy:AC s y= .v (.int .i64 b))(hp:decide (a<b)=p):
 Ev P ops w0 o s ⟨.v (.bool p),[],[],[],[]⟩:=
 Ev.run _ _ hgd fun ρ S w hb hR=>by
  have e1:=AH s ρ x;rw[hx]at e1;have e2:=AH s ρ y;rw[hy]at e2;simp only[execOp,ho,e1,e2,SV.c];subst hp
  go_simp
theorem Dh{ty r:TypeId}{x y:Operand}{a b:Int}{p:Bool}(ho:o.op= .binOp .geq ty x y r)(hgd:AR ops o s)(hx:AC s x= .v (.int .i64 a))(hy:AC s y= .v (.int .i64 b))(hp:decide (b≤a)=p):
 Ev P ops w0 o s ⟨.v (.bool p),[],[],[],[]⟩:=
 Ev.run _ _ hgd fun ρ S w hb hR=>by
  have e1:=AH s ρ x;rw[hx]at e1;have e2:=AH s ρ y;rw[hy]at e2;simp only[execOp,ho,e1,e2,SV.c];subst hp
  go_simp
theorem Ax{ty r:TypeId}{k:IntKind}{x y:Operand}{a b:Int}{p:Bool}(ho:o.op= .binOp .eql ty x y r)(hgd:AR ops o s)(hx:AC s x= .v (.int k a))(hy:AC s y= .v (.int k b))(hp:decide (a=b)=p):
 Ev P ops w0 o s ⟨.v (.bool p),[],[],[],[]⟩:=
 Ev.run _ _ hgd fun ρ S w hb hR=>by
  have e1:=AH s ρ x;rw[hx]at e1;have e2:=AH s ρ y;rw[hy]at e2;simp only[execOp,ho,e1,e2,SV.c];subst hp
  go_simp
  by_cases h:a=b<;>simp[h]
theorem A2{ty r:TypeId}{k:IntKind}{x y:Operand}{a b c:Int}(ho:o.op= .binOp .add ty x y r)(hgd:AR ops o s)(hx:AC s x= .v (.int k a))(hy:AC s y= .v (.int k b))(hp:k.wrap (a+b)=c):
 Ev P ops w0 o s ⟨.v (.int k c),[],[],[],[]⟩:=
 Ev.run _ _ hgd fun ρ S w hb hR=>by
  have e1:=AH s ρ x;rw[hx]at e1;have e2:=AH s ρ y;rw[hy]at e2;simp only[execOp,ho,e1,e2,SV.c];subst hp
  go_simp
theorem CF{ty r:TypeId}{k:IntKind}{x y:Operand}{a b c:Int}(ho:o.op= .binOp .sub ty x y r)(hgd:AR ops o s)(hx:AC s x= .v (.int k a))(hy:AC s y= .v (.int k b))(hp:k.wrap (a-b)=c):
 Ev P ops w0 o s ⟨.v (.int k c),[],[],[],[]⟩:=
 Ev.run _ _ hgd fun ρ S w hb hR=>by
  have e1:=AH s ρ x;rw[hx]at e1;have e2:=AH s ρ y;rw[hy]at e2;simp only[execOp,ho,e1,e2,SV.c];subst hp
  go_simp
theorem Qm{ty:TypeId}{x ix:Operand}{vs:Array Value}{k n:Nat}{el:TypeId}{d:TypeDesc}{v:Value}(ho:o.op= .index ty x ix)(hgd:AR ops o s)(hx:AC s x= .v (.agg vs))(hi:AC s ix= .v (.int .i64 (k:Nat)))
 (hu:P.underlying ty=some (.array n el))(hs: ∀w,(Go.sizeOf el).run P w= .ok 1 w)(hue:P.underlying el=some d)(hd:Bc d=false)(hk:k<n)(hv:vs.toList[k]? =some v):Ev P ops w0 o s ⟨.v v,[],[],[],[]⟩:=
 Ev.run _ _ hgd fun ρ S w hb hR=>by
  have e1:=AH s ρ x;rw[hx]at e1;have e2:=AH s ρ ix;rw[hi]at e2;have h1:vs[k]? =some v:=by simpa using hv
  simp[execOp,ho,e1,e2,SV.c,Instr.index,run_underlying hu,asIntOf,hs,hk,part,Bu hue,hd,h1]
theorem Eu(xs:Array Operand)(ρ:Nat→Nm):xs.map (s.act ρ).eval=((xs.toList.map (AC s)).map (SV.c ρ)).toArray:=by
 rw[←Array.toList_inj];simp only[Array.toList_map,List.map_map];exact List.map_congr_left fun x _=>AH s ρ x
theorem AS{f:FuncId}{xs:Array Operand}{ats:Array TypeId}{vs:List Value}{v:Value}(ho:o.op= .call {callee:= .value (.func f),args:=xs,argTypes:=ats})(hgd:AR ops o s)
 (hx:unV (xs.toList.map (AC s))=some vs)(he: ∀args w,(callFunc f args).run P w= .ok (.enter f args) w)(hc: ∀w,Bw w0 w→Calls P f vs.toArray w fun e w'=>e= .returned v∧Gw w w'):Ev P ops w0 o s ⟨.v v,[],[],[],[]⟩:=
 Ev.call f (fun _=>vs.toArray) (.v v) [] hgd (fun ρ w=>by
  obtain⟨dst,op,type,pos,after,guard⟩:=o;simp only at ho;subst ho;rw[execOp_call_go,F0 hx];simpa using he vs.toArray w) fun ρ _ w hb _=>(hc w hb).mono fun _ _ ⟨h1,h2⟩=>⟨by rw[h1];simp[SV.c],h2.b⟩
theorem Ah{f:FuncId}{xs:Array Operand}{ats:Array TypeId}{vs:List Value}{v:Value}(ho:o.op= .call {callee:= .value (.func f),args:=xs,argTypes:=ats})(hgd:AR ops o s)
 (hx:unV (xs.toList.map (AC s))=some vs)(he: ∀args w,(callFunc f args).run P w= .ok (.enter f args) w)(hc: ∀w,Bw w0 w→Calls P f vs.toArray w fun e w'=>e= .returned v∧Bw w w'):Ev P ops w0 o s ⟨.v v,[],[],[],[]⟩:=
 Ev.call f (fun _=>vs.toArray) (.v v) [] hgd (fun ρ w=>by
  obtain⟨dst,op,type,pos,after,guard⟩:=o;simp only at ho;subst ho;rw[execOp_call_go,F0 hx];simpa using he vs.toArray w) fun ρ _ w hb _=>(hc w hb).mono fun _ _ ⟨h1,h2⟩=>⟨by rw[h1];simp[SV.c],h2⟩
theorem Aj{f:FuncId}{xs:Array Operand}{ats:Array TypeId}{vs:List SV}{v:Value}(rd:List Nat)(ho:o.op= .call {callee:= .value (.func f),args:=xs,argTypes:=ats})(hgd:AR ops o s)
 (hx:xs.toList.map (AC s)=vs)(he: ∀args w,(callFunc f args).run P w= .ok (.enter f args) w)
 (hc: ∀ρ S w,Bw w0 w→RelOn w0.heap.size ρ S w (restr rd s.mem)→Calls P f (SV.cs ρ vs).toArray w fun e w'=>e= .returned v∧Bw w w'):Ev P ops w0 o s ⟨.v v,[],[],[],rd⟩:=
 Ev.call f (fun ρ=>(SV.cs ρ vs).toArray) (.v v) rd hgd (fun ρ w=>by
  obtain⟨dst,op,type,pos,after,guard⟩:=o;simp only at ho;subst ho;rw[execOp_call_go,Eu,hx,←A3];simpa using he (SV.cs ρ vs).toArray w) fun ρ S w hb hR=>(hc ρ S w hb hR).mono fun _ _ ⟨h1,h2⟩=>⟨by rw[h1];simp[SV.c],h2⟩
def BJ(w w':World)(v:Value)(n size:Nat)(ty:TypeId)(l:List Value):Prop:= ∃g,Ey w' w.heap.size ⟨g,v⟩ n size ty l
theorem GO{base:Nat}{t:Mem}{ρ:Nat→Nm}{S:Nat→Nat→Prop}{w w':World}{val:SV}{rd:List Nat}{id n size:Nat}{ty:TypeId}{l:List Value}{v:Value}{g:Nat}
 (hb:base≤w.heap.size)(h:Bw w w')(hl:l.length=n*size)(hr:Ey w' w.heap.size ⟨g,v⟩ n size ty l):
 Out base t ρ S w ⟨val,[(id,.row n size ty (.exact l))],[],[id],rd⟩ (val.c fun k=>if k=id then⟨g,v⟩else ρ k) (fun k=>if k=id then⟨g,v⟩else ρ k) (fun _ _=>False) w':=
 Cu h.os h.tape h.output h.size (fun k hk _=>h.block k hk) (fun ρ' h1 _=>⟨l,hl,rfl,by
  rw[h1];rcases hr with hr|⟨off,cap,cur,fz,a1,a2,a3⟩
  ·exact .inl hr
  ·exact .inr ⟨off,cap,cur,fz,a1,Nat.le_trans hb a2,a3⟩⟩) (fun _ h=>h.elim) (fun ho=> .inr ⟨by
   rcases hr with⟨hr,_⟩|⟨off,cap,cur,fz,a1,a2,a3⟩
   ·exact absurd hr ho
   ·exact a2,fun h=>h⟩)
theorem Cs{f:FuncId}{xs:Array Operand}{ats:Array TypeId}{vs:List SV}{id n size:Nat}{ty:TypeId}{l:List Value}(rd:List Nat)(_hd:o.dst=some id)(ho:o.op= .call {callee:= .value (.func f),args:=xs,argTypes:=ats})(hgd:AR ops o s)
 (hx:xs.toList.map (AC s)=vs)(he: ∀args w,(callFunc f args).run P w= .ok (.enter f args) w)(hl:l.length=n*size)
 (hc: ∀ρ S w,Bw w0 w→RelOn w0.heap.size ρ S w (restr rd s.mem)→Calls P f (SV.cs ρ vs).toArray w fun e w'=> ∃v,e= .returned v∧BJ w w' v n size ty l∧Bw w w'):Ev P ops w0 o s ⟨.d id,[(id,.row n size ty (.exact l))],[],[id],rd⟩:=
 ⟨by simp[Eff.ok],.inr ⟨hgd,fun ρ S w hb hR=> .inr (.inr ⟨f,(SV.cs ρ vs).toArray,by
  obtain⟨dst,op,type,pos,after,guard⟩:=o;simp only at ho;subst ho;rw[execOp_call_go,Eu,hx,←A3]
  simpa using he (SV.cs ρ vs).toArray w,(hc ρ S w hb hR).mono fun e w' ⟨v,h1,⟨g,h2⟩,h3⟩=>⟨v,h1,_,_,by
   have:=GO (t:=s.mem) (ρ:=ρ) (S:=S) (val:= .d id) (rd:=rd) (id:=id) hb.size h3 hl h2;simpa[SV.c] using this⟩⟩)⟩⟩
theorem DC{f:FuncId}{xs:Array Operand}{ats:Array TypeId}{vs:List SV}{id n size:Nat}{ty:TypeId}{l:List Value}{y:Value}(rd:List Nat)(_hd:o.dst=some id)(ho:o.op= .call {callee:= .value (.func f),args:=xs,argTypes:=ats})(hgd:AR ops o s)
 (hx:xs.toList.map (AC s)=vs)(he: ∀args w,(callFunc f args).run P w= .ok (.enter f args) w)(hl:l.length=n*size)
 (hc: ∀ρ S w,Bw w0 w→RelOn w0.heap.size ρ S w (restr rd s.mem)→Calls P f (SV.cs ρ vs).toArray w fun e w'=> ∃v,e= .returned (.tuple #[v,y])∧BJ w w' v n size ty l∧Bw w w'):Ev P ops w0 o s ⟨.tup [.d id,.v y],[(id,.row n size ty (.exact l))],[],[id],rd⟩:=
 ⟨by simp[Eff.ok],.inr ⟨hgd,fun ρ S w hb hR=> .inr (.inr ⟨f,(SV.cs ρ vs).toArray,by
  obtain⟨dst,op,type,pos,after,guard⟩:=o;simp only at ho;subst ho;rw[execOp_call_go,Eu,hx,←A3]
  simpa using he (SV.cs ρ vs).toArray w,(hc ρ S w hb hR).mono fun e w' ⟨v,h1,⟨g,h2⟩,h3⟩=>⟨_,h1,_,_,by
   have:=GO (t:=s.mem) (ρ:=ρ) (S:=S) (val:= .tup [.d id,.v y]) (rd:=rd) (id:=id) hb.size h3 hl h2;simpa[SV.c,SV.cs] using this⟩⟩)⟩⟩
theorem JD{x:Operand}{i:Nat}{vs:Array Value}{v:Value}(ho:o.op= .extract x i)(hgd:AR ops o s)(hx:AC s x= .v (.tuple vs))(hi0:vs.toList[i]? =some v):Ev P ops w0 o s ⟨.v v,[],[],[],[]⟩:=
 Ev.run _ _ hgd fun ρ S w hb hR=>by
  have e1:=AH s ρ x;rw[hx]at e1;have hi:vs[i]? =some v:=by simpa using hi0
  simp[execOp,ho,e1,SV.c,Instr.extract,hi]
theorem K7{x:Operand}{i:Nat}{vs:List SV}{v:SV}(ho:o.op= .extract x i)(hgd:AR ops o s)(hx:AC s x= .tup vs)(hi0:vs[i]? =some v):Ev P ops w0 o s ⟨v,[],[],[],[]⟩:=
 Ev.run _ _ hgd fun ρ S w hb hR=>by
  have e1:=AH s ρ x;rw[hx]at e1;have hi:(SV.cs ρ vs).toArray[i]? =some (v.c ρ):=by simp[A3,hi0]
  simp[execOp,ho,e1,SV.c,Instr.extract,hi]
theorem AN{op:BinOp}{ty r:TypeId}{x y:Operand}{a b c:Value}(ho:o.op= .binOp op ty x y r)(hgd:AR ops o s)(hx:AC s x= .v a)(hy:AC s y= .v b)
 (h: ∀w,(do eqGuard op ty x y a b;binOp op ty a b:Sem Value).run P w= .ok c w):Ev P ops w0 o s ⟨.v c,[],[],[],[]⟩:=
 Ev.run _ _ hgd fun ρ S w hb hR=>by
  have e1:=AH s ρ x;rw[hx]at e1;have e2:=AH s ρ y;rw[hy]at e2;simp only[execOp,ho,e1,e2,SV.c];rw[Sem.run_bind,h w];rfl
theorem A5{st dt:TypeId}{x:Operand}{a c:Value}(ho:o.op= .convert st dt x)(hgd:AR ops o s)(hx:AC s x= .v a)(h: ∀w,(convert st dt a).run P w= .ok c w):Ev P ops w0 o s ⟨.v c,[],[],[],[]⟩:=
 Ev.run _ _ hgd fun ρ S w hb hR=>by
  have e1:=AH s ρ x;rw[hx]at e1;simp only[execOp,ho,e1,SV.c];rw[Sem.run_bind,h w];rfl
theorem Qr{f:FuncId}{fn:Func}{c:Code}(hf:P.funcs[f]? =some fn)(hname:(fn.name== "runtime.NumGoroutine")=false)(hb:fn.body=some c): ∀(args:Array Value) (w:World),(callFunc f args).run P w= .ok (.enter f args) w:=by
 intro args w;have h1:fn.name≠ "runtime.NumGoroutine" :=by simpa using hname
 simp[callFunc,hf,h1,hb,mark]
theorem eo{f:FuncId}{fn:Func}{c:Code}(hf:P.funcs[f]? =some fn)(hn:(fn.name== "runtime.NumGoroutine")=false:=by kernel_rfl)(hb:fn.body=some c:=by rfl): ∀(args:Array Value)(w:World),(callFunc f args).run P w=.ok (.enter f args) w:=Qr hf hn hb
theorem K4{op:UnOp}{ty:TypeId}{x:Operand}{a c:Value}(ho:o.op= .unOp op ty x)(hgd:AR ops o s)(hx:AC s x= .v a)(h: ∀w,(Op.unary op a).run P w= .ok c w):Ev P ops w0 o s ⟨.v c,[],[],[],[]⟩:=
 Ev.run _ _ hgd fun ρ S w hb hR=>by
  have e1:=AH s ρ x;rw[hx]at e1;simp only[execOp,ho,e1,SV.c];rw[Sem.run_bind,h w];rfl
def CJ:List (Nat×SV)→Option (List (Nat×Value))
 | []=>some []
 |(i,.v x)::l=>match CJ l with|some r=>some ((i,x)::r)|none=>none
 |_::_=>none
theorem G3: ∀{l:List (Nat×SV)} {r:List (Nat×Value)},CJ l=some r→ ∀ρ,l.map (fun x=>(x.1,x.2.c ρ))=r
 | [],r,h,_=>by simp[CJ]at h;subst h;rfl
 |(i,.v x)::l,r,h,ρ=>by
  simp only[CJ]at h;cases hl:CJ l with
  |none=>rw[hl]at h;cases h
  |some q=>
   rw[hl]at h;simp only[Option.some.injEq]at h;subst h;have:=G3 hl ρ;simp only[List.map_cons,this,SV.c]
 |(_,.p _ _)::_,_,h,_=>by simp[CJ]at h
 |(_,.s _ _ _ _)::_,_,h,_=>by simp[CJ]at h
 |(_,.d _)::_,_,h,_=>by simp[CJ]at h
 |(_,.fn _ _)::_,_,h,_=>by simp[CJ]at h
 |(_,.agg _)::_,_,h,_=>by simp[CJ]at h
 |(_,.tup _)::_,_,h,_=>by simp[CJ]at h
theorem Ar{ty:TypeId}{parts:Array (Nat×Operand)}{pl:List (Nat×Value)}{cells:Array Value}(ho:o.op= .build ty parts)(hgd:AR ops o s)
 (hx:CJ (parts.toList.map fun x=>(x.1,AC s x.2))=some pl)(hbt:P.built ty pl=some cells):Ev P ops w0 o s ⟨.v (.agg cells),[],[],[],[]⟩:=
 Ev.run _ _ hgd fun ρ S w hb hR=>by
  have h1:(parts.map fun(i,x)=>(i,(s.act ρ).eval x)).toList=pl:=by
   rw[←G3 hx ρ];simp only[Array.toList_map,List.map_map];exact List.map_congr_left fun x _=>by simp only[Function.comp_apply,AH]
  have h2:=run_build w ty (parts.map fun(i,x)=>(i,(s.act ρ).eval x)) cells (by rw[h1];exact hbt);simp only[execOp,ho,SV.c];rw[Sem.run_bind,h2];rfl
theorem I8{c a b:Operand}{v:Value}(ho:o.op= .pick c a b)(hgd:AR ops o s)(hc:AC s c= .v (.bool true))(ha:AC s a= .v v):Ev P ops w0 o s ⟨.v v,[],[],[],[]⟩:=
 Ev.run _ _ hgd fun ρ S w hb hR=>by
  have e1:=AH s ρ c;rw[hc]at e1;have e2:=AH s ρ a;rw[ha]at e2;simp[execOp,ho,e1,e2,SV.c,asBool]
theorem I9{c a b:Operand}{v:Value}(ho:o.op= .pick c a b)(hgd:AR ops o s)(hc:AC s c= .v (.bool false))(hbb:AC s b= .v v):Ev P ops w0 o s ⟨.v v,[],[],[],[]⟩:=
 Ev.run _ _ hgd fun ρ S w hb hR=>by
  have e1:=AH s ρ c;rw[hc]at e1;have e2:=AH s ρ b;rw[hbb]at e2;simp[execOp,ho,e1,e2,SV.c,asBool]
theorem Fq{ty:TypeId}{x:Operand}{p:Bool}(ho:o.op= .unOp .not ty x)(hgd:AR ops o s)(hx:AC s x= .v (.bool p)):Ev P ops w0 o s ⟨.v (.bool (!p)),[],[],[],[]⟩:=
 K4 ho hgd hx fun w=>by simp[Op.unary]
theorem O6{rd:List Nat}{ρ:Nat→Nm}{S:Nat→Nat→Prop}{w:World}{base:Nat}{m:Mem}{id:Nat}{b:List SV}{ty:TypeId}(hR:RelOn base ρ S w (restr rd m))(hid:id∈rd)(hm:m id=some (.cells b ty))(off:Nat)(l:List Value)(hl:unV ((b.drop off).take l.length)=some l):
 ∀(j:Nat) (v:Value),l[j]? =some v→w.cell? ⟨(ρ id).g,off+j,none⟩=some v:=by
 intro j v hj;have hb:=(A6 hR hm hid).2;have hv:=Dy hl;have h2:((b.drop off).take l.length)[j]? =some (.v v):=by rw[hv];simp[hj]
 have h3:b[off+j]? =some (.v v):=by
  rw[List.getElem?_take]at h2;split at h2
  ·rwa [List.getElem?_drop]at h2
  ·cases h2
 have:=ET hb h3;simpa[SV.c] using this
theorem NT{f:FuncId}{xs:Array Operand}{ats:Array TypeId}{vs:List Value}{id:Nat}(_hd:o.dst=some id)(ho:o.op= .call {callee:= .value (.func f),args:=xs,argTypes:=ats})(hgd:AR ops o s)
 (hx:unV (xs.toList.map (AC s))=some vs)(he: ∀args w,(callFunc f args).run P w= .ok (.enter f args) w)(cs:List Value)(ty:TypeId)
 (hc: ∀w,Bw w0 w→Calls P f vs.toArray w fun e w'=> ∃g,w.heap.size≤g∧e= .returned (.agg #[.pointer (some ⟨g,0,none⟩)])∧w'.heap[g]? =some (.cells cs.toArray ty (0,0))∧Gw w w'):
 Ev P ops w0 o s ⟨.agg [.p id 0],[(id,.cells (cs.map .v) ty)],[],[id],[]⟩:=
 ⟨by simp[Eff.ok],.inr ⟨hgd,fun ρ S w hb hR=> .inr (.inr ⟨f,vs.toArray,by
  obtain⟨dst,op,type,pos,after,guard⟩:=o;simp only at ho;subst ho;rw[execOp_call_go,F0 hx]
  simpa using he vs.toArray w,(hc w hb).mono fun e w' ⟨g,h0,h1,h2,h3⟩=>⟨_,h1,_,_,by
   have:=Cu (base:=w0.heap.size) (t:=s.mem) (ρ:=ρ) (S:=S) (w:=w) (w':=w') (val:= .agg [.p id 0]) (rd:=[]) (up:=[]) (id:=id) (b:= .cells (cs.map .v) ty) (m:=⟨g,undef⟩) (S1:=fun _=>False)
    h3.b.os h3.b.tape h3.b.output h3.b.size (fun k hk _=>h3.b.block k hk) (fun ρ' h4 _=>by
     refine⟨by rw[h4];exact Nat.le_trans hb.size h0,?_⟩;rw[h4];simp only[Cb,JN];exact h2) (fun _ h=>h.elim) (fun _=> .inr ⟨h0,fun h=>h⟩)
   simpa[SV.c,SV.cs] using this⟩⟩)⟩⟩
theorem FJ(t:Nat)(ρ:Nat→Nm):(s.act ρ).tmps.getD t undef=(AC s (.tmp t)).c ρ:=AH s ρ (.tmp t)
def C6(tmps:Array Value):ResultVar→Sem Value
 | .tmp t=>pure (tmps.getD t undef)
 | .cell p t=>do loadVar t (←asAddr (tmps.getD p undef))
def RV(P:Program)(w0:World)(s:VS)(r:ResultVar)(x:SV):Prop:=
 ∀(ρ:Nat→Nm) (w:World),Rel w0 ρ s w→(C6 (s.act ρ).tmps r).run P w=Result.ok (x.c ρ) w
theorem J4{ρ:Nat→Nm}{w:World}{id:Nat}{b:Blk}(hr:Rel w0 ρ s w)(hm:s.mem id=some b): ∃S,CH w0.heap.size ρ id b w S:=by
 obtain⟨_,S,hR⟩:=hr;exact⟨_,hR.good id b hm⟩
theorem AE{t:Nat}{x:SV}(h:AC s (.tmp t)=x):RV P w0 s (.tmp t) x:=fun ρ w _=>by
 simp only[C6,FJ,h];rfl
theorem Ad{p ty id off n:Nat}{l:List SV}{bt:TypeId}{d:TypeDesc}{vs:List Value}(h:AC s (.tmp p)= .p id off)(hm:s.mem id=some (.cells l bt))(hu:P.underlying ty=some d)(hd:Bc d=true)(hs: ∀w,(Go.sizeOf ty).run P w= .ok n w)
 (hv0:unV ((l.drop off).take n)=some vs)(hl:vs.length=n):RV P w0 s (.cell p ty) (.v (.agg vs.toArray)):=fun ρ w hw=>by
 obtain⟨_,_,hb⟩:=J4 hw hm;have hv:=Dy hv0
 have hl':(loadCells ⟨(ρ id).g,off,none⟩ vs.length).run P w= .ok vs.toArray w:=run_loadCells_list w _ vs fun j v hj=>by
  rw[BX];have h2:((l.drop off).take n)[j]? =some (.v v):=by rw[hv];simp[hj]
  have h3:l[off+j]? =some (.v v):=by
   rw[List.getElem?_take]at h2;split at h2
   ·rwa [List.getElem?_drop]at h2
   ·cases h2
  have:=ET hb h3;simpa[SV.c] using this
 rw[hl]at hl';simp only[C6,FJ,h,SV.c];simp[asAddr,loadVar,Bu hu,hd,hs,hl']
theorem GI(fn:Func)(tmps:Array Value):results fn tmps=(do let vs←fn.results.mapM (C6 tmps);pure (if h:vs.size=1 then vs[0]else .tuple vs)):=by
 unfold results;congr 1
abbrev Res(P:Program)(w0:World)(s:VS)(fn:Func)(x:SV):Prop:= ∀ρ w,Rel w0 ρ s w→(results fn (s.act ρ).tmps).run P w= .ok (x.c ρ) w
theorem AM{fn:Func}{r:ResultVar}{x:SV}(hf:fn.results= #[r])(h:RV P w0 s r x):Res P w0 s fn x:=fun ρ w hr=>by
 have h1:=h ρ w hr;rw[GI,hf];simp[h1]
theorem Av{fn:Func}{r r':ResultVar}{x x':SV}(hf:fn.results= #[r,r'])(h:RV P w0 s r x)(h':RV P w0 s r' x'):Res P w0 s fn (.tup [x,x']):=fun ρ w hr=>by
 have h1:=h ρ w hr;have h2:=h' ρ w hr;rw[GI,hf];simp[h1,h2,SV.c,SV.cs]
theorem B9{fn:Func}{r r' r2:ResultVar}{x x' x2:SV}(hf:fn.results= #[r,r',r2])(h:RV P w0 s r x)(h':RV P w0 s r' x')(h2:RV P w0 s r2 x2):Res P w0 s fn (.tup [x,x',x2]):=fun ρ w hr=>by
 have e1:=h ρ w hr;have e2:=h' ρ w hr;have e3:=h2 ρ w hr;rw[GI,hf];simp[e1,e2,e3,SV.c,SV.cs]
theorem dD{fn:Func}(hf:fn.results= #[]):Res P w0 s fn (.v (.tuple #[])):=fun _ _ _=>by simp only[SV.c];exact results_none hf _ _ _
theorem AD{fn:Func}{R:Ending→World→Prop}{x:SV}(hv:Res P w0 s fn x)(hR: ∀ρ w,Rel w0 ρ s w→R (.returned (x.c ρ)) w):
 ∀ρ w,Rel w0 ρ s w→bodyPost P fn R .ret (s.act ρ) w:=fun ρ w hr=>⟨rfl,_,hv ρ w hr,hR ρ w hr⟩
theorem eR{fn:Func}{R:Ending→World→Prop}{x:SV}(hv:Res P w0 s fn x)(hR: ∀ρ w,Rel w0 ρ s w→R (.returned (x.c ρ)) w):
 ∀ρ w,Rel w0 ρ s w→bodyPost P fn R .normal (s.act ρ) w:=fun ρ w hr=>⟨rfl,_,hv ρ w hr,hR ρ w hr⟩
def Rdg(w0:World)(m:Mem)(rd:List Nat)(x:SV)(n size:Nat)(l:List Value):Prop:=
 ∀ρ S w,Bw w0 w→RelOn w0.heap.size ρ S w (restr rd m)→ ∃S1,AJ w (x.c ρ) n size l S1
theorem AW{m:Mem}{v:Value}{n size:Nat}{l:List Value}{S:Nat→Prop}(h:AJ w0 v n size l S):Rdg w0 m [] (.v v) n size l:=fun ρ _ w hb _=>by
 obtain⟨ao,cap,h1,h2,h3,h4⟩:=h;refine⟨S,ao,cap,by simp only[SV.c];exact h1,h2,h3,h4.imp id fun⟨g,a,b,c⟩=>⟨g,a,b,fun i x hx=>hb.cell (c i x hx)⟩⟩
theorem DL{w:World}{base:Nat}{a:Nm}{n size:Nat}{ty:TypeId}{l:List Value}(h:Ey w base a n size ty l)(hl:l.length=n*size):AJ w a.val n size l (fun k=>k=a.g):=by
 rcases h with⟨h1,h2⟩|⟨off,cap,cur,fz,h1,h2,h3,_,h5,h6,h7,h8⟩
 ·subst h2
  refine⟨none,0,h1,Nat.le_refl _,hl,.inl (List.eq_nil_of_length_eq_zero (by simpa using hl))⟩
 ·refine⟨_,cap,h1,h5,hl,.inr ⟨⟨a.g,off,none⟩,rfl,rfl,fun i x hx=> ?_⟩⟩
  rw[BX];rw[←h8,List.getElem?_take]at hx;split at hx
  ·rw[List.getElem?_drop]at hx
   simp only[World.cell?,h3];simpa using hx
  ·cases hx
theorem BI{m:Mem}{id n size:Nat}{ty:TypeId}{l:List Value}(h:m id=some (.row n size ty (.exact l))):Rdg w0 m [id] (.d id) n size l:=fun ρ S w _ hR=>by
 obtain⟨xs,h1,h2,h3⟩:=A6 hR h (by simp);have h2':xs=l:=h2;subst h2';exact⟨_,DL h3 h1⟩
theorem GK{m:Mem}{id off len cap size:Nat}{b:List SV}{ty:TypeId}{l:List Value}(h:m id=some (.cells b ty))(hl:unV ((b.drop off).take (len*size))=some l)(hn:l.length=len*size)(hc:len≤cap):Rdg w0 m [id] (.s id off len cap) len size l:=fun ρ S w _ hR=>by
 refine⟨fun k=>k=(ρ id).g,_,cap,by simp only[SV.c],hc,hn,.inr ⟨⟨(ρ id).g,off,none⟩,rfl,rfl,?_⟩⟩;intro i x hx;rw[BX];exact O6 hR (by simp) h off l (by rw[hn];exact hl) i x hx
def As(lo hi size:Nat):Value→Value
 | .slice a _ cap=> .slice (if cap=lo then a else a.map (·.add (lo*size))) (hi-lo) (cap-lo)
 |v=>v
theorem HF{w:World}{v:Value}{n size lo hi:Nat}{l:List Value}{S:Nat→Prop}(h:AJ w v n size l S)(h1:lo≤hi)(h2:hi≤n):AJ w (As lo hi size v) (hi-lo) size ((l.drop (lo*size)).take ((hi-lo)*size)) S:=by
 obtain⟨ao,cap,rfl,h3,h4,h5⟩:=h;have hm:(hi-lo)*size+lo*size≤n*size:=by rw[←Nat.add_mul];exact Nat.mul_le_mul_right _ (by omega)
 refine⟨_,_,rfl,by omega,by simp;omega,?_⟩;by_cases hc:cap=lo
 ·left
  have:hi-lo=0:=by omega
  rw[this];simp
 ·rw[if_neg hc]
  refine h5.imp (fun h=>by rw[h];simp) fun⟨g,a,b,c⟩=>⟨g.add (lo*size),?_,by rw[ZG];exact b,fun i x hx=> ?_⟩
  ·rw[a];rfl
  ·rw[List.getElem?_take]at hx
   split at hx
   ·rw[List.getElem?_drop]at hx
    rw[Rc];exact c _ _ hx
   ·cases hx
theorem HJ{m:Mem}{rd:List Nat}{x:SV}{n size lo hi:Nat}{l:List Value}(h:Rdg w0 m rd x n size l)(h1:lo≤hi)(h2:hi≤n):Rdg w0 m rd (.fn (As lo hi size) x) (hi-lo) size ((l.drop (lo*size)).take ((hi-lo)*size)):=fun ρ S w hb hR=>by
 obtain⟨S1,h⟩:=h ρ S w hb hR;exact⟨S1,by simp only[SV.c];exact HF h h1 h2⟩
theorem BM{t:TypeId}{x:Operand}{e:TypeId}{n size:Nat}{l:List Value}{y:SV}{rd:List Nat}(ho:o.op= .call {callee:= .builtin .len,args:= #[x],argTypes:= #[t]})(hgd:AR ops o s)(hx:AC s x=y)
 (hu:P.underlying t=some (.slice e))(hr:Rdg w0 s.mem rd y n size l):Ev P ops w0 o s ⟨.v (.int .i64 (n:Nat)),[],[],[],rd⟩:=
 Ev.run _ _ hgd fun ρ S w hb hR=>by
  have e1:=AH s ρ x;rw[hx]at e1;obtain⟨_,ao,cap,h1,_⟩:=hr ρ S w hb hR;rw[h1]at e1;simp[execOp,ho,resolve,invoke,builtin,e1,Builtin.len_,run_underlying hu,SV.c,goInt]
theorem Q3{ty e:TypeId}{x:Operand}{lo hi:Option Operand}{a b n size:Nat}{l:List Value}{y:SV}{rd:List Nat}(ho:o.op= .slice ty x lo hi none)(hx:AC s x=y)
 (hu:P.underlying ty=some (.slice e))(hs: ∀w,(Go.sizeOf e).run P w= .ok size w)(hr:Rdg w0 s.mem rd y n size l)
 (hlo:(match lo with|none=>SV.v (.int .i64 (0:Nat))|some z=>AC s z)= .v (.int .i64 (a:Nat)))(hhi:(match hi with|none=>SV.v (.int .i64 (n:Nat))|some z=>AC s z)= .v (.int .i64 (b:Nat)))(h1:a≤b)(h2:b≤n):
 ∀ρ S w,Bw w0 w→RelOn w0.heap.size ρ S w (restr rd s.mem)→(execOp (s.act ρ).eval o).run P w= .ok (.value ((SV.fn (As a b size) y).c ρ)) w:=fun ρ S w hb hR=>by
 have e1:=AH s ρ x;rw[hx]at e1;obtain⟨_,ao,cap,h3,h4,_⟩:=hr ρ S w hb hR;rw[h3]at e1
 have hbd: ∀(k m:Nat) (c:BoundsCode),k≤m→(Instr.sliceBound (.int .i64 (k:Nat)) m c).run P w= .ok k w:=by
  intro k m c hk;unfold Instr.sliceBound;rw[Sem.run_bind];simp only[asIntOf,Sem.run_pure,Result.andThen_ok];rw[if_pos ⟨by omega,by omega⟩];rfl
 have e2: ∀z,lo=some z→(s.act ρ).eval z= .int .i64 (a:Nat):=fun z hz=>by rw[AH];rw[hz]at hlo;simp only at hlo;rw[hlo];simp[SV.c]
 have e3: ∀z,hi=some z→(s.act ρ).eval z= .int .i64 (b:Nat):=fun z hz=>by rw[AH];rw[hz]at hhi;simp only at hhi;rw[hhi];simp[SV.c]
 have ea:lo=none→a=0:=fun hz=>by
  rw[hz]at hlo;simp only[SV.v.injEq,Value.int.injEq,true_and]at hlo;omega
 have eb:hi=none→b=n:=fun hz=>by
  rw[hz]at hhi;simp only[SV.v.injEq,Value.int.injEq,true_and]at hhi;omega
 have key:(Instr.sliceBounds true n cap (lo.map (s.act ρ).eval) (hi.map (s.act ρ).eval) none).run P w= .ok (a,b,cap) w:=by
  unfold Instr.sliceBounds;cases hi with
  |none=>
   have:=eb rfl;subst this;cases lo with
   |none=>have:=ea rfl;subst this;simp
   |some z=>simp[e2 z rfl,hbd a b _ h1]
  |some y'=>
   cases lo with
   |none=>have:=ea rfl;subst this;simp[e3 y' rfl,hbd b cap _ (by omega)]
   |some z=>simp[e2 z rfl,e3 y' rfl,hbd a b _ h1,hbd b cap _ (by omega)]
 simp[execOp,ho,e1,Instr.sliceAt,Instr.slice,run_underlying hu,hs,key,SV.c,h3,As]
theorem Hl{ty e:TypeId}{x:Operand}{lo hi:Option Operand}{a b n size:Nat}{l:List Value}{y:SV}{rd:List Nat}(ho:o.op= .slice ty x lo hi none)(hgd:AR ops o s)(hx:AC s x=y)
 (hu:P.underlying ty=some (.slice e))(hs: ∀w,(Go.sizeOf e).run P w= .ok size w)(hr:Rdg w0 s.mem rd y n size l)
 (hlo:(match lo with|none=>SV.v (.int .i64 (0:Nat))|some z=>AC s z)= .v (.int .i64 (a:Nat)))(hhi:(match hi with|none=>SV.v (.int .i64 (n:Nat))|some z=>AC s z)= .v (.int .i64 (b:Nat)))(h1:a≤b)(h2:b≤n):
 Ev P ops w0 o s ⟨.fn (As a b size) y,[],[],[],rd⟩:=
 Ev.run _ _ hgd (Q3 ho hx hu hs hr hlo hhi h1 h2)
def EH(off:Nat):Value→Value
 | .slice (some a) _ _=> .pointer (some (a.add off))
 |v=>v
theorem BU{ty e:TypeId}{x ix:Operand}{k n size:Nat}{ki:IntKind}{l:List Value}{y:SV}{rd:List Nat}(ho:o.op= .indexAddr ty x ix)(hgd:AR ops o s)(hx:AC s x=y)(hi:AC s ix= .v (.int ki (k:Nat)))
 (hu:P.underlying ty=some (.slice e))(hs: ∀w,(Go.sizeOf e).run P w= .ok size w)(hr:Rdg w0 s.mem rd y n size l)(hk:k<n)(hsz:0<size):Ev P ops w0 o s ⟨.fn (EH (k*size)) y,[],[],[],rd⟩:=
 Ev.run _ _ hgd fun ρ S w hb hR=>by
  have e1:=AH s ρ x;rw[hx]at e1;have e2:=AH s ρ ix;rw[hi]at e2;obtain⟨_,ao,cap,h3,h4,h5,h6⟩:=hr ρ S w hb hR;rw[h3]at e1;rcases h6 with h6|⟨g,rfl,_⟩
  ·exfalso
   rw[h6]at h5;have:0<n*size:=Nat.mul_pos (by omega) hsz;simp at h5;omega
  ·simp[execOp,ho,e1,e2,SV.c,Instr.indexAt,asIntOf,run_underlying hu,hs,h3,EH,hk]
theorem B5{ty:TypeId}{x:Operand}{off n size:Nat}{l:List Value}{y:SV}{rd:List Nat}{d:TypeDesc}{v:Value}(ho:o.op= .load ty x)(hgd:AR ops o s)(hx:AC s x= .fn (EH off) y)
 (hu:P.underlying ty=some d)(hd:Bc d=false)(hr:Rdg w0 s.mem rd y n size l)(hv:l[off]? =some v):Ev P ops w0 o s ⟨.v v,[],[],[],rd⟩:=
 Ev.run _ _ hgd fun ρ S w hb hR=>by
  have e1:=AH s ρ x;rw[hx]at e1;obtain⟨_,ao,cap,h3,h4,h5,h6⟩:=hr ρ S w hb hR;rcases h6 with h6|⟨g,rfl,_,h6⟩
  ·rw[h6]at hv;cases hv
  ·have hc:=h6 _ _ hv
   simp[execOp,ho,e1,SV.c,h3,EH,Instr.loadAt,Instr.sureAddr,loadVar,Bu hu,hd,hc]
def N3:Value→Value
 | .slice a _ _=> .pointer a
 |v=>v
theorem JK{ty el:TypeId}{x:Operand}{k n size:Nat}{l:List Value}{y:SV}{rd:List Nat}(ho:o.op= .sliceToArrayPointer ty x)(hgd:AR ops o s)(hx:AC s x=y)
 (hu:P.underlying ty=some (.array k el))(hr:Rdg w0 s.mem rd y n size l)(hn:k≤n):Ev P ops w0 o s ⟨.fn N3 y,[],[],[],rd⟩:=
 Ev.run _ _ hgd fun ρ S w hb hR=>by
  have e1:=AH s ρ x;rw[hx]at e1;obtain⟨_,ao,cap,h3,_⟩:=hr ρ S w hb hR;have h1: ¬n<k:=by omega
  simp[execOp,ho,e1,SV.c,Instr.arrayAt,run_underlying hu,h3,h1,N3]
theorem NO{ty:TypeId}{x:Operand}{n k:Nat}{l vs:List Value}{y:SV}{rd:List Nat}{d:TypeDesc}(ho:o.op= .load ty x)(hgd:AR ops o s)(hx:AC s x= .fn N3 y)
 (hu:P.underlying ty=some d)(hd:Bc d=true)(hs: ∀w,(Go.sizeOf ty).run P w= .ok k w)(hr:Rdg w0 s.mem rd y n 1 l)(hv:l.take k=vs)(hl:vs.length=k)(hk:0<k):Ev P ops w0 o s ⟨.v (.agg vs.toArray),[],[],[],rd⟩:=
 Ev.run _ _ hgd fun ρ S w hb hR=>by
  have e1:=AH s ρ x;rw[hx]at e1;obtain⟨_,ao,cap,h3,h4,h5,h6⟩:=hr ρ S w hb hR;rcases h6 with h6|⟨g,rfl,_,h6⟩
  ·rw[h6]at hv;simp at hv;rw[hv]at hl;simp at hl;omega
  ·have hl':(loadCells g vs.length).run P w= .ok vs.toArray w:=run_loadCells_list w _ vs fun j v hj=>by
    refine h6 j v ?_;rw[←hv,List.getElem?_take]at hj;split at hj
    ·exact hj
    ·cases hj
   rw[hl]at hl';simp[execOp,ho,e1,SV.c,h3,N3,Instr.loadAt,Instr.sureAddr,loadVar,Bu hu,hd,hs,hl']
theorem Qk{ty:TypeId}{x:Operand}{id off n sz:Nat}{el:TypeId}(ho:o.op= .slice ty x none none none)(hgd:AR ops o s)(hx:AC s x= .p id off)
 (hu:P.underlying ty=some (.array n el))(hs: ∀w,(Go.sizeOf el).run P w= .ok sz w):Ev P ops w0 o s ⟨.s id off n n,[],[],[],[]⟩:=
 Ev.run _ _ hgd fun ρ S w hb hR=>by
  have e1:=AH s ρ x;rw[hx]at e1;simp[execOp,ho,e1,SV.c,Instr.sliceAt,run_underlying hu,Instr.sureAddr,Instr.sliceBounds,hs,BX]
theorem BV{ty e:TypeId}{len:Nat}{parts:Array (Nat×Operand)}{pl:List (Nat×Value)}{l:List Value}{id:Nat}(_hd:o.dst=some id)(ho:o.op= .buildSlice ty len parts)(hgd:AR ops o s)
 (hx:CJ (parts.toList.map fun x=>(x.1,AC s x.2))=some pl)(hl:l.length=len)(hm:len≤maxLen)
 (hb: ∀w,(Instr.buildSlice ty len pl.toArray).run P w= .ok (.slice (some ⟨w.heap.size,0,none⟩) len len) (w.alloc (.cells l.toArray e))):Ev P ops w0 o s ⟨.d id,[(id,.row len 1 e (.exact l))],[],[id],[]⟩:=
 ⟨by simp[Eff.ok],.inr ⟨hgd,fun ρ S w hb0 hR=> .inl ⟨.slice (some ⟨w.heap.size,0,none⟩) len len,w.alloc (.cells l.toArray e),by
  have h1:(parts.map fun(i,x)=>(i,(s.act ρ).eval x))=pl.toArray:=by
   rw[←Array.toList_inj,←G3 hx ρ];simp only[Array.toList_map,List.map_map];exact List.map_congr_left fun x _=>by simp only[Function.comp_apply,AH]
  simp only[execOp,ho];rw[h1,Sem.run_bind,hb w];rfl,_,_,by
  have:=GO (t:=s.mem) (ρ:=ρ) (S:=S) (val:= .d id) (rd:=[]) (id:=id) (n:=len) (size:=1) (ty:=e) (l:=l) (w:=w) (w':=w.alloc (.cells l.toArray e)) (v:= .slice (some ⟨w.heap.size,0,none⟩) len len) (g:=w.heap.size) hb0.size
   ⟨rfl,rfl,rfl,by simp,fun k hk=>heap_alloc_old w _ hk⟩ (by omega) (.inr ⟨0,len,l.toArray,(0,0),rfl,Nat.le_refl _,heap_alloc_new w _,.inl rfl,Nat.le_refl _,hm,by simp[hl],by simp[←hl]⟩)
  simpa[SV.c] using this⟩⟩⟩
end
end Go.Vx
namespace Go.Vx
open Go.RowKit Go.Toll
section
variable{P:Program}{w0:World}{ops:Array Oper}{o:Oper}{s:VS}
theorem L9(g o:Nat)(t:TypeId)(fz:Nat×Nat): ∀(vs:List Value) (i:Nat) (cur:Array Value) (w:World),w.heap[g]? =some (.cells cur t fz)→(∀k,k<cur.size→ ¬(fz.1≤k∧k<fz.2))→o+i+vs.length≤cur.size→(∀v∈vs,v.oneCell'=true)→
 (storeCells ⟨g,o,none⟩ vs i).run P w= .ok () (w.setRow g (cur.toList.take (o+i)++vs++cur.toList.drop (o+i+vs.length)).toArray)
 | [],i,cur,w,hg,_,_,_=>by
   simp only[storeCells,List.append_nil,List.length_nil,Nat.add_zero,List.take_append_drop,Array.toArray_toList];rw[setRow_self w g cur t fz hg];rfl
 |v::rest,i,cur,w,hg,hz,hl,h1=>by
  have hi:o+i<cur.size:=by simp at hl;omega
  have hcell:w.cell? ⟨g,o+i,none⟩=some cur[o+i]:=by simp[World.cell?,hg,hi]
  have hfro:w.frozen? ⟨g,o+i,none⟩=false:=by
   obtain⟨lo,h⟩:=fz;have:=hz (o+i) hi;simp only[World.frozen?,hg];simp only[Bool.and_eq_false_iff,decide_eq_false_iff_not];omega
  have hst:(store ((⟨g,o,none⟩:Addr).add i) v).run P w= .ok () (w.setRow g (cur.setIfInBounds (o+i) v)):=by
   rw[BX,run_store P w _ v _ (h1 v (by simp)),hcell];simp[hfro,setCell_eq_setRow w g (o+i) cur t fz v hg]
  have ih:=L9 g o t fz rest (i+1) (cur.setIfInBounds (o+i) v) (w.setRow g (cur.setIfInBounds (o+i) v)) (setRow_heap w g cur _ t _ hg) (by simpa using hz) (by simp at hl ⊢; omega) (fun x hx=>h1 x (by simp[hx]));simp only[storeCells,Sem.run_bind,hst,Result.andThen_ok,ih,setRow_setRow];congr 3
  have e:=list_seg_step cur.toList (o+i) v rest (by simp at hl ⊢; omega);simpa[Array.toList_setIfInBounds,Nat.add_assoc] using e
theorem NK{cur:Array Value}{fz:Nat×Nat}(h:fz=(0,0)∨fz=(cur.size,cur.size+1)): ∀k,k<cur.size→ ¬(fz.1≤k∧k<fz.2):=by
 rcases h with rfl|rfl<;>intro k hk<;>simp<;>omega
theorem TE{w:World}{base:Nat}(hbase:base≤w.heap.size)(t r e:TypeId)(i:TypeInfo)(z:Value)(size bytes:Nat)(ht:P.underlying t=some (.slice e))(hi:P.info? e=some i)(hz:i.zero=some z)
 (hsize:i.size=size)(hby:i.bytes=bytes)(hzs:z.cells.size=size)(hsz:0<size)
 {m:Nm}{n k:Nat}{xs news:List Value}(hrow:Ey w base m n size e xs)(hl:xs.length=n*size){x:Value}{S:Nat→Prop}(hx:AJ w x k size news S)(h1: ∀u∈news,u.oneCell'=true)
 (h63:n+k≤maxLen)(hbytes:(n+k)*bytes≤140737488355328):
 ∃v' g' w',(Builtin.append_ #[t,t] r #[m.val,x]).run P w= .ok v' w'∧Ey w' base ⟨g',v'⟩ (n+k) size e (xs++news)∧w'.os=w.os∧w'.tape=w.tape∧w'.output=w.output∧w.heap.size≤w'.heap.size∧
  (∀j,j<w.heap.size→(m.val≠ .slice none 0 0→m.g≠j)→w'.heap[j]? =w.heap[j]?)∧(v'≠ .slice none 0 0→(m.val≠ .slice none 0 0∧m.g=g')∨w.heap.size≤g'):=by
 subst hsize hby;obtain⟨ao,cp,rfl,hkc,hnl,hx⟩:=hx;have hlen:(xs++news).length=(n+k)*i.size:=by rw[List.length_append,hl,hnl,Nat.add_mul]
 have hsmall:n+k≤9223372036854775807:=by simp only[maxLen]at h63;omega
 by_cases hk0:k=0
 ·
  subst hk0;have hn:news=[]:=List.eq_nil_of_length_eq_zero (by simpa using hnl);subst hn;rcases hrow with⟨h1',h2'⟩|⟨off,cap,cur,fz,h1',h2',h3',h4',h5',h6',h7',h8'⟩
  ·subst h2'
   refine⟨.slice none 0 0,m.g,w,?_,.inl ⟨rfl,rfl⟩,rfl,rfl,rfl,Nat.le_refl _,fun _ _ _=>rfl,fun h=>absurd rfl h⟩;rw[h1'];cases ao<;>simp[Builtin.append_,run_underlying ht,sizeOf,typeInfo,hi,Builtin.lenOf,Builtin.firstCells,loadCells,loadCellsFrom]
  ·refine⟨m.val,m.g,w,?_,.inr ⟨off,cap,cur,fz,h1',h2',h3',h4',h5',h6',h7',by rw[List.append_nil];exact h8'⟩,rfl,rfl,rfl,Nat.le_refl _,fun _ _ _=>rfl,fun h=> .inl ⟨h,rfl⟩⟩
   rw[h1'];cases ao<;>simp[Builtin.append_,run_underlying ht,sizeOf,typeInfo,hi,Builtin.lenOf,Builtin.firstCells,loadCells,loadCellsFrom,h5',storeCells]
 ·have hne:news≠[]:=fun h=>by
   rw[h]at hnl;have:0<k*i.size:=Nat.mul_pos (by omega) hsz;simp at hnl;omega
  rcases hx with hx|⟨ga,rfl,_,hnews⟩
  ·exact absurd hx hne
  have grown: ∀(old:Nat),old<n+k→
   Ey (w.drew.alloc (.cells (xs.toArray++news.toArray++Builtin.zeroCells z.cells (grownCap w (n+k) old e-(n+k))) e)) base
    ⟨w.heap.size,.slice (some ⟨w.heap.size,0,none⟩) (n+k) (grownCap w (n+k) old e)⟩ (n+k) i.size e (xs++news):=by
   intro old ho;have hge:=grownCap_ge w (n+k) old e;have hcm:grownCap w (n+k) old e≤maxLen:=grownCap_le_maxLen w (n+k) old e h63;refine .inr ⟨0,_,_,(0,0),rfl,hbase,heap_alloc_new w.drew _,.inl rfl,hge,hcm,?_,?_⟩
   ·simp only[Array.size_append,List.size_toArray,size_zeroCells,hzs,hl,hnl,←Nat.add_mul,Nat.zero_add]
    apply Nat.le_of_eq;congr 1
    omega
   ·simp only[Array.toList_append,List.append_assoc,List.drop_zero]
    rw[←List.append_assoc,←hlen];exact List.take_left
  rcases hrow with⟨h1',h2'⟩|⟨off,cap,cur,fz,h1',h2',h3',h4',h5',h6',h7',h8'⟩
  ·subst h2'
   have hxs:xs=[]:=List.eq_nil_of_length_eq_zero (by simpa using hl);subst hxs;have hr:=run_append_nil (P:=P) w t r e i z ht hi hz ga k cp news hnl hnews (by omega) (by omega) (by have hb:=hbytes;simp only[Nat.zero_add]at hb;omega);have hgr:=grown 0 (by omega);simp only[Nat.zero_add,List.nil_append,Array.empty_append]at hgr⊢;rw[h1'];exact⟨_,_,_,hr,hgr,rfl,rfl,rfl,by simp,fun j hj _=>heap_alloc_old w.drew _ hj,fun _=> .inr (Nat.le_refl _)⟩
  ·by_cases hroom:n+k≤cap
   ·have hfit:off+n*i.size+news.length≤cur.size:=by
     have:(n+k)*i.size≤cap*i.size:=Nat.mul_le_mul_right _ hroom;rw[Nat.add_mul]at this;rw[hnl];omega
    have hf:=run_firstCells_some (P:=P) w i.size k ga k cp news hnl hnews;have hst:=L9 (P:=P) m.g (off+n*i.size) e fz news 0 cur w h3' (NK h4') (by simpa using hfit) h1;simp only[Nat.add_zero]at hst;refine⟨.slice (some ⟨m.g,off,none⟩) (n+k) cap,m.g,w.setRow m.g (cur.toList.take (off+n*i.size)++news++cur.toList.drop (off+n*i.size+news.length)).toArray,?_,?_,rfl,rfl,rfl,by simp,fun j _ hj=>setRow_other w m.g j _ (fun e=>hj (by rw[h1'];simp) e.symm),fun _=> .inl ⟨by rw[h1'];simp,rfl⟩⟩
    ·rw[h1']
     simp[Builtin.append_,run_underlying ht,sizeOf,typeInfo,hi,Builtin.lenOf,hroom,hf,BX,hst]
    ·have hsz2:(cur.toList.take (off+n*i.size)++news++cur.toList.drop (off+n*i.size+news.length)).toArray.size=cur.size:=by
      simp only[List.size_toArray,List.length_append,List.length_take,List.length_drop,Array.length_toList];omega
     refine .inr ⟨off,cap,_,fz,rfl,h2',setRow_heap w m.g cur _ e _ h3',by rw[hsz2];exact h4',hroom,h6',by rw[hsz2];exact h7',?_⟩;rw[←hlen,←h8'];apply List.ext_getElem?;intro j;simp only[List.getElem?_take,List.getElem?_drop,List.getElem?_append,List.length_take,List.length_drop,List.length_append,Array.length_toList];have hA:min (off+n*i.size) cur.size=off+n*i.size:=by omega
     have hB:min (n*i.size) (cur.size-off)=n*i.size:=by omega
     simp only[hA,hB];by_cases j1:j<n*i.size
     ·rw[if_pos (by omega),if_pos (by omega),if_pos (by omega),if_pos j1,if_pos j1]
      rw[if_pos (by omega)]
     ·by_cases j2:j<n*i.size+news.length
      ·rw[if_pos j2,if_pos (by omega),if_neg (by omega),if_neg j1]
       congr 1;omega
      ·rw[if_neg j2,if_neg j1]
       symm;apply List.getElem?_eq_none;omega
   ·have holds: ∀j u,xs[j]? =some u→w.cell? ((⟨m.g,off,none⟩:Addr).add j)=some u:=fun j u hj=>by
     obtain⟨_,_,e1,_,_,e2⟩:=DL (.inr ⟨off,cap,cur,fz,h1',h2',h3',h4',h5',h6',h7',h8'⟩) hl;rw[h1']at e1;simp only[Value.slice.injEq]at e1;rcases e2 with e2|⟨g2,e2,_,e3⟩
     ·rw[e2]at hj;cases hj
     ·have:=e1.1.trans e2
      simp only[Option.some.injEq]at this;rw[this];exact e3 j u hj
    have hr:=run_append_grow (P:=P) w t r e i z ht hi hz ⟨m.g,off,none⟩ n cap xs hl holds ga k cp news hnl hnews (by omega) (by omega) (growslice_fits (by omega) hbytes);rw[h1'];exact⟨_,_,_,hr,grown cap (by omega),rfl,rfl,rfl,by simp,fun j hj _=>heap_alloc_old w.drew _ hj,fun _=> .inr (Nat.le_refl _)⟩
def C2(P:Program)(e:TypeId)(size bytes:Nat):Prop:=(P.info? e).map (fun i=>(i.zero.map fun z=>z.cells.size,i.size,i.bytes))=some (some size,size,bytes)
theorem C2.get{e:TypeId}{size bytes:Nat}(h:C2 P e size bytes): ∃i z,P.info? e=some i∧i.zero=some z∧i.size=size∧i.bytes=bytes∧z.cells.size=size:=by
 unfold C2 at h;cases hi:P.info? e with
 |none=>rw[hi]at h;cases h
 |some i=>
  rw[hi]at h;simp only[Option.map_some,Option.some.injEq,Prod.mk.injEq]at h;obtain⟨h1,h2,h3⟩:=h;cases hz:i.zero with
  |none=>rw[hz]at h1;cases h1
  |some z=>rw[hz]at h1;exact⟨i,z,rfl,hz,h2,h3,by simpa using h1⟩
theorem C1{t e:TypeId}{x y:Operand}{id id2 n k size bytes:Nat}{xs news:List Value}{sv:SV}{rd:List Nat}(_hd:o.dst=some id2)(ho:o.op= .call {callee:= .builtin .append,args:= #[x,y],argTypes:= #[t,t]})(hgd:AR ops o s)
 (hx:AC s x= .d id)(hm:s.mem id=some (.row n size e (.exact xs)))(hy:AC s y=sv)(hr:Rdg w0 s.mem rd sv k size news)
 (ht:P.underlying t=some (.slice e))(hI:C2 P e size bytes)(hsz:0<size)
 (hl:xs.length=n*size)(h1:news.all (·.oneCell')=true)(h63:n+k≤maxLen)(hbytes:(n+k)*bytes≤140737488355328)(hnl:news.length=k*size):
 Ev P ops w0 o s ⟨.d id2,[(id2,.row (n+k) size e (.exact (xs++news)))],[id],[id2],id::rd⟩:=
 ⟨by simp[Eff.ok],.inr ⟨hgd,fun ρ S w hb hR=>by
  obtain⟨i,z,hi,hz,hsize,hby,hzs⟩:=hI.get;obtain⟨xs',g1,g2,g3⟩:=A6 hR hm (by simp);have g2':xs'=xs:=g2;subst g2'
  have hR2:RelOn w0.heap.size ρ S w (restr rd s.mem):=by
   have:=hR.restr rd
   have e:restr rd (restr (id::rd) s.mem)=restr rd s.mem:=by
    funext j;unfold restr
    by_cases h:j∈rd<;>simp[h]
   rwa [e]at this
  obtain⟨S1,hsl⟩:=hr ρ S w hb hR2;obtain⟨v',g',w',r1,r2,r3,r4,r5,r6,r7,r8⟩:=TE (P:=P) hb.size t o.type e i z size bytes ht hi hz hsize hby hzs hsz g3 hl hsl (fun u hu=>List.all_eq_true.1 h1 u hu) h63 hbytes;refine .inl ⟨v',w',?_,fun j=>if j=id2 then⟨g',v'⟩else ρ j,fun _ _=>False,?_⟩
  ·have e1:=AH s ρ x
   rw[hx]at e1;have e2:=AH s ρ y;rw[hy]at e2;simp only[SV.c]at e1;unfold execOp;simp only[ho,resolve,invoke,builtin,Sem.run_bind,Sem.run_pure,Result.andThen_ok,List.map_toArray,List.map_cons,List.map_nil,e1,e2,r1]
  ·have:=Cu (base:=w0.heap.size) (t:=s.mem) (ρ:=ρ) (S:=S) (w:=w) (w':=w') (val:= .d id2) (rd:=id::rd) (up:=[id]) (id:=id2) (b:= .row (n+k) size e (.exact (xs'++news))) (m:=⟨g',v'⟩) (S1:=fun _=>False)
    r3 r4 r5 r6 (fun j hj hk=>r7 j hj fun hv=>hk id (by simp) _ hm hv) (fun ρ' h1 _=>⟨_,by rw[List.length_append,hl,hnl,Nat.add_mul],rfl,by rw[h1];exact r2⟩) (fun _ h=>h.elim)
    (fun hob=>(r8 hob).imp (fun⟨a,b⟩=>⟨id,by simp,_,hm,a,b⟩) (fun a=>⟨a,fun h=>h⟩))
   simpa[SV.c] using this⟩⟩
theorem A0{ty r:TypeId}{k:IntKind}{x y:Operand}{a b:Int}{p:Bool}(ho:o.op= .binOp .neq ty x y r)(hgd:AR ops o s)(hx:AC s x= .v (.int k a))(hy:AC s y= .v (.int k b))(hp:decide (a≠b)=p):
 Ev P ops w0 o s ⟨.v (.bool p),[],[],[],[]⟩:=
 Ev.run _ _ hgd fun ρ S w hb hR=>by
  have e1:=AH s ρ x;rw[hx]at e1;have e2:=AH s ρ y;rw[hy]at e2;simp only[execOp,ho,e1,e2,SV.c];subst hp
  go_simp
  by_cases h:a=b<;>simp[h]
theorem Bf{ty r:TypeId}{k:IntKind}{x y:Operand}{a b:Int}{p:Bool}(ho:o.op= .binOp .gtr ty x y r)(hgd:AR ops o s)(hx:AC s x= .v (.int k a))(hy:AC s y= .v (.int k b))(hp:decide (a>b)=p):
 Ev P ops w0 o s ⟨.v (.bool p),[],[],[],[]⟩:=
 Ev.run _ _ hgd fun ρ S w hb hR=>by
  have e1:=AH s ρ x;rw[hx]at e1;have e2:=AH s ρ y;rw[hy]at e2;simp only[execOp,ho,e1,e2,SV.c];subst hp
  go_simp
theorem XI{ty r:TypeId}{k:IntKind}{x y:Operand}{a b:Int}{p:Bool}(ho:o.op= .binOp .leq ty x y r)(hgd:AR ops o s)(hx:AC s x= .v (.int k a))(hy:AC s y= .v (.int k b))(hp:decide (a≤b)=p):
 Ev P ops w0 o s ⟨.v (.bool p),[],[],[],[]⟩:=
 Ev.run _ _ hgd fun ρ S w hb hR=>by
  have e1:=AH s ρ x;rw[hx]at e1;have e2:=AH s ρ y;rw[hy]at e2;simp only[execOp,ho,e1,e2,SV.c];subst hp
  go_simp
theorem Em{ty r:TypeId}{k:IntKind}{x y:Operand}{a b:Int}{p:Bool}(ho:o.op= .binOp .lss ty x y r)(hgd:AR ops o s)(hx:AC s x= .v (.int k a))(hy:AC s y= .v (.int k b))(hp:decide (a<b)=p):
 Ev P ops w0 o s ⟨.v (.bool p),[],[],[],[]⟩:=
 Ev.run _ _ hgd fun ρ S w hb hR=>by
  have e1:=AH s ρ x;rw[hx]at e1;have e2:=AH s ρ y;rw[hy]at e2;simp only[execOp,ho,e1,e2,SV.c];subst hp
  go_simp
theorem K6{ty r:TypeId}{k:IntKind}{x y:Operand}{a b:Int}{p:Bool}(ho:o.op= .binOp .geq ty x y r)(hgd:AR ops o s)(hx:AC s x= .v (.int k a))(hy:AC s y= .v (.int k b))(hp:decide (a≥b)=p):
 Ev P ops w0 o s ⟨.v (.bool p),[],[],[],[]⟩:=
 Ev.run _ _ hgd fun ρ S w hb hR=>by
  have e1:=AH s ρ x;rw[hx]at e1;have e2:=AH s ρ y;rw[hy]at e2;simp only[execOp,ho,e1,e2,SV.c];subst hp
  go_simp
theorem oE{ty:TypeId}{x:Operand}{i n:Nat}{cs:Array Value}{fs:Array Field}{fd:Field}{d:TypeDesc}{vs:List Value}(ho:o.op= .field ty x i)(hgd:AR ops o s)(hx:AC s x= .v (.agg cs))
 (hu:P.underlying ty=some (.struct fs))(hf:fs[i]? =some fd)(hd:P.underlying fd.type=some d)(ha:Bc d=true)(hs: ∀w,(Go.sizeOf fd.type).run P w= .ok n w)(hv:(cs.toList.drop fd.offset).take n=vs):Ev P ops w0 o s ⟨.v (.agg vs.toArray),[],[],[],[]⟩:=
 Ev.run _ _ hgd fun ρ S w hb hR=>by
  have e1:=AH s ρ x;rw[hx]at e1
  have h2:cs.extract fd.offset (fd.offset+n)=vs.toArray:=by
   rw[←hv,←Array.toList_inj];simp[Array.toList_extract]
  simp[execOp,ho,e1,SV.c,Instr.field,run_underlying hu,hf,asAgg,part,Bu hd,ha,hs,h2]
end
end Go.Vx
namespace Go.Vx
open Go.RowKit Go.Toll
theorem KH(fr:List SV)(m:Mem)(t:Nat):AC ⟨fr,m⟩ (.tmp t)=(fr[t]?).getD (.v undef):=rfl
theorem KQ(s:VS)(v:Value):AC s (.const v)= .v v:=rfl
theorem KO(s:VS)(g:Nat):AC s (.global g)= .v (.pointer (some ⟨g,0,none⟩)):=rfl
theorem KP(s:VS)(f:FuncId):AC s (.func f)= .v (.func (.func f) #[] #[]):=rfl
theorem KM(id:Nat)(b:Blk):DU [] id b=[(id,b)]:=rfl
theorem KL(k:Nat)(c:Blk)(l:List (Nat×Blk))(id:Nat)(b:Blk):DU ((k,c)::l) id b=if k=id then(id,b)::l else(k,c)::DU l id b:=rfl
theorem UU(l:List (Nat×Blk)):BS l []=l:=by
 induction l with
 |nil=>rfl
 |cons x l ih=>obtain⟨k,c⟩:=x;simp only[BS];rw[ih];rfl
theorem UT(ids:List Nat):BS [] ids=[]:=rfl
theorem US(k:Nat)(c:Blk)(l:List (Nat×Blk))(i:Nat):BS ((k,c)::l) [i]=if k=i then BS l [i]else(k,c)::BS l [i]:=by
 show(if List.elem k [i]then BS l [i]else(k,c)::BS l [i])=_;by_cases h:k=i
 ·subst h;rw[if_pos rfl,if_pos (by simp)]
 ·rw[if_neg h,if_neg (by simpa using h)]
theorem UW(l:List (Nat×Blk)):[]++l=l:=rfl
theorem UV(x:Nat×Blk)(a l:List (Nat×Blk)):(x::a)++l=x::(a++l):=rfl
theorem KS(cs:Array Value):Value.cells (.agg cs)=cs:=rfl
theorem KN(k:IntKind)(n:Int):Value.cells (.int k n)= #[.int k n]:=rfl
theorem KR(b:Bool):Value.cells (.bool b)= #[.bool b]:=rfl
theorem UR(b:ByteArray):Value.cells (.string b)= #[.string b]:=rfl
theorem KJ(a:Option Addr):Value.cells (.pointer a)= #[.pointer a]:=rfl
theorem KI(a:Option Addr)(l c:Nat):Value.cells (.slice a l c)= #[.slice a l c]:=rfl
theorem nm:(type_of%(KB))∧(type_of%(Tu))∧(type_of%(KA))∧(type_of%(Kz))∧(type_of%(K0))∧(type_of%(@List.set_cons_zero SV))∧(type_of%(@List.set_cons_succ SV))∧(type_of%(KH))∧(type_of%(KQ))∧(type_of%(KO))∧(type_of%(KP))∧(type_of%(@List.getElem?_cons_zero SV))∧(type_of%(@List.getElem?_cons_succ SV))∧(type_of%(@List.getElem?_cons_zero Value))∧(type_of%(@List.getElem?_cons_succ Value))∧(type_of%(@Option.getD_some SV))∧(type_of%(@List.take_succ_cons SV))∧(type_of%(@List.take_zero SV))∧(type_of%(@List.drop_succ_cons SV))∧(type_of%(@List.drop_zero SV))∧(type_of%(@List.cons_append SV))∧(type_of%(@List.nil_append SV))∧(type_of%(@List.append_nil SV))∧(type_of%(@List.map_cons Value SV))∧(type_of%(@List.map_nil Value SV))∧(type_of%(KM))∧(type_of%(KL))∧(type_of%(KS))∧(type_of%(KN))∧(type_of%(KR))∧(type_of%(KJ))∧(type_of%(KI))∧(type_of%(@Int.toNat_natCast))∧(type_of%(@Nat.zero_add))∧(type_of%(@Nat.add_zero))∧(type_of%(@Nat.mul_one))∧(type_of%(@Af))∧(type_of%(UU))∧(type_of%(UT))∧(type_of%(US))∧(type_of%(UW))∧(type_of%(UV))∧(type_of%(UR)):=
 ⟨KB,Tu,KA,Kz,K0,@List.set_cons_zero SV,@List.set_cons_succ SV,KH,KQ,KO,KP,@List.getElem?_cons_zero SV,@List.getElem?_cons_succ SV,@List.getElem?_cons_zero Value,@List.getElem?_cons_succ Value,@Option.getD_some SV,@List.take_succ_cons SV,@List.take_zero SV,@List.drop_succ_cons SV,@List.drop_zero SV,@List.cons_append SV,@List.nil_append SV,@List.append_nil SV,@List.map_cons Value SV,@List.map_nil Value SV,KM,KL,KS,KN,KR,KJ,KI,@Int.toNat_natCast,@Nat.zero_add,@Nat.add_zero,@Nat.mul_one,@Af,UU,UT,US,UW,UV,UR⟩
theorem BR{w0 w:World}{s:VS}{ρ:Nat→Nm}{id n size:Nat}{ty:TypeId}{l:List Value}(hr:Rel w0 ρ s w)(hm:s.mem id=some (.row n size ty (.exact l))):BJ w0 w (ρ id).val n size ty l:=by
 obtain⟨S,xs,_,h2,h3⟩:=J4 hr hm;have h2':xs=l:=h2;subst h2';exact⟨(ρ id).g,h3⟩
theorem HG(w0 w:World)(size:Nat)(ty:TypeId):BJ w0 w (.slice none 0 0) 0 size ty []:=⟨0,.inl ⟨rfl,rfl⟩⟩
end Go.Vx
namespace Go.Vx
open Go.RowKit Go.Toll
section
variable{P:Program}{w0:World}{ops:Array Oper}{o:Oper}{s:VS}
theorem Ev.wrv(id:Nat)(b b':Blk)(val:SV)(rd:List Nat)(hw:AR ops o s)(hm:s.mem id=some b)(hrd:rd.contains id=true)
 (h: ∀ρ S w,Bw w0 w→RelOn w0.heap.size ρ S w (restr rd s.mem)→b.owns (ρ id)∧ ∃w',(execOp (s.act ρ).eval o).run P w= .ok (.value (val.c ρ)) w'∧Wr w w' (ρ id).g∧CH w0.heap.size ρ id b' w' (S id)):Ev P ops w0 o s ⟨val,[(id,b')],[id],[],rd⟩:=
 ⟨by simp[Eff.ok];simpa using hrd,.inr ⟨hw,fun ρ S w hb hR=>by
  obtain⟨hob,w',hrun,hwr,hg⟩:=h ρ S w hb hR;have hin:id∈rd:=by simpa using hrd
  have one: ∀i c,AK [(id,b')] i=some c→i=id∧c=b':=by
   intro i c h;simp only[AK]at h;split at h
   ·rename_i e;injection h with h;exact⟨e,h.symm⟩
   ·cases h
  refine .inl ⟨_,w',hrun,ρ,S,⟨rfl,fun _ _=>rfl,hwr.os,hwr.tape,hwr.output,Nat.le_of_eq hwr.size.symm,?_,?_,?_,?_,?_⟩⟩
  ·intro k _ hk
   exact hwr.block k fun e=>hk id (by simp) b hm hob e.symm
  ·intro i c h1
   obtain⟨rfl,rfl⟩:=one i c h1;exact hg
  ·intro i k h1 hk
   obtain⟨c,h1⟩:=Option.isSome_iff_exists.1 h1;obtain⟨rfl,rfl⟩:=one i c h1;exact .inl ⟨i,hin,by rw[hm];rfl,hk⟩
  ·intro i c h1 _
   obtain⟨rfl,rfl⟩:=one i c h1;exact .inl ⟨i,by simp,b,hm,hob,rfl⟩
  ·intro i c j d h1 _ h2 _ _
   exact(one i c h1).1.trans (one j d h2).1.symm⟩⟩
theorem ni{ty:TypeId}{x y:Operand}{id k n:Nat}{e:TypeId}{l l':List Value}{v:Value}(ho:o.op= .store ty x y)(hgd:AR ops o s)(hx:AC s x= .fn (EH k) (.d id))(hm:s.mem id=some (.row n 1 e (.exact l)))(hy:AC s y= .v v)
 (hs: ∀w,(Go.sizeOf ty).run P w= .ok 1 w)(hv:v.cells= #[v])(h1:v.oneCell'=true)(hk:k<n)(hl:l.set k v=l'):
 Ev P ops w0 o s ⟨.v undef,[(id,.row n 1 e (.exact l'))],[id],[],[id]⟩:=
 Ev.wr id _ _ _ _ hgd hm (by simp) (fun _=>by simp[SV.c]) fun ρ S w hb hR=>by
  have e1:=AH s ρ x;rw[hx]at e1;have e2:=AH s ρ y;rw[hy]at e2;obtain⟨xs,hxl,hxe,hrow⟩:=A6 hR hm (by simp);have hxe':xs=l:=hxe;subst hxe';rcases hrow with⟨_,h⟩|⟨off,cap,cur,fz,h1',h2',h3',h4',h5',h6',h7',h8'⟩
  ·omega
  ·have hfit:off+k+1≤cur.size:=by omega
   have hst:=L9 (P:=P) (ρ id).g (off+k) e fz [v] 0 cur w h3' (NK h4') (by simpa using hfit) (fun u hu=>by simp at hu;subst hu;exact h1);simp only[Nat.add_zero,List.length_singleton]at hst;refine⟨by simp only[Blk.owns];rw[h1'];simp,w.setRow (ρ id).g (cur.toList.take (off+k)++[v]++cur.toList.drop (off+k+1)).toArray,?_,⟨rfl,rfl,rfl,by simp,fun j hj=>setRow_other w _ j _ hj⟩,?_⟩
   ·simp only[execOp,ho,e1,e2,SV.c,h1',EH,BX,Instr.storeAt,Instr.sureAddr,storeVar]
    rw[Sem.run_bind,Sem.run_bind,Sem.run_pure,Result.andThen_ok,Sem.run_bind,hs,Result.andThen_ok,if_neg (by rw[hv];simp),hv,hst];rfl
   ·have hsz2:(cur.toList.take (off+k)++[v]++cur.toList.drop (off+k+1)).toArray.size=cur.size:=by
     simp only[List.size_toArray,List.length_append,List.length_take,List.length_drop,Array.length_toList,List.length_singleton];omega
    refine⟨l',by rw[←hl,List.length_set];exact hxl,rfl,.inr ⟨off,cap,_,fz,h1',h2',setRow_heap w (ρ id).g cur _ e _ h3',by rw[hsz2];exact h4',h5',h6',by rw[hsz2];exact h7',?_⟩⟩;rw[←hl,←h8'];apply List.ext_getElem?;intro j;simp only[List.getElem?_take,List.getElem?_drop,List.getElem?_append,List.getElem?_set,List.length_take,List.length_drop,List.length_append,Array.length_toList,List.length_singleton];have hA:min (off+k) cur.size=off+k:=by omega
    simp only[hA];by_cases j1:j<n*1
    ·rw[if_pos j1]
     by_cases j2:k=j
     ·subst j2
      rw[if_pos (by omega),if_neg (by omega),if_pos rfl,if_pos (by omega)];simp
     ·rw[if_neg j2]
      by_cases j3:j<k
      ·rw[if_pos (by omega),if_pos (by omega),if_pos (by omega),if_pos j1]
      ·rw[if_neg (by omega),if_pos j1]
       congr 1;omega
    ·rw[if_neg j1]
     by_cases j2:k=j
     ·omega
     ·rw[if_neg j2,if_neg j1]
theorem TW{m:Mem}{rd:List Nat}{x:SV}{n size lo hi n':Nat}{l l':List Value}(h:Rdg w0 m rd x n size l)(h1:lo≤hi)(h2:hi≤n)(hl:(l.drop (lo*size)).take ((hi-lo)*size)=l')(hn:hi-lo=n'):Rdg w0 m rd (.fn (As lo hi size) x) n' size l':=by
 subst hl hn;exact HJ h h1 h2
theorem XP{dT sT e:TypeId}{x y:Operand}{id off len cap k:Nat}{l:List SV}{bt:TypeId}{news:List Value}{sv:SV}{rd:List Nat}(ho:o.op= .call {callee:= .builtin .copy,args:= #[x,y],argTypes:= #[dT,sT]})(hgd:AR ops o s)
 (hx:AC s x= .s id off len cap)(hm:s.mem id=some (.cells l bt))(hy:AC s y=sv)(hr:Rdg w0 s.mem rd sv k 1 news)(hu:P.underlying dT=some (.slice e))(hs:(P.info? e).map (·.size)=some 1)
 (hlen:news.length=len)(hk:k=len)(hfit:off+len≤l.length)(h1:news.all (·.oneCell')=true)(hpos:0<len):
 Ev P ops w0 o s ⟨.v (.int .i64 (len:Nat)),[(id,.cells (l.take off++news.map .v++l.drop (off+len)) bt)],[id],[],id::rd⟩:=
 Ev.wrv id _ _ _ _ hgd hm (by simp) fun ρ S w hb hR=>by
  have e1:=AH s ρ x;rw[hx]at e1;have e2:=AH s ρ y;rw[hy]at e2;obtain⟨hg0,hg⟩:=A6 hR hm (by simp)
  have hR2:RelOn w0.heap.size ρ S w (restr rd s.mem):=by
   have:=hR.restr rd
   have e:restr rd (restr (id::rd) s.mem)=restr rd s.mem:=by
    funext j;unfold restr
    by_cases h:j∈rd<;>simp[h]
   rwa [e]at this
  obtain⟨S1,ao,cp,h3,h4,h5,h6⟩:=hr ρ S w hb hR2;rcases h6 with h6|⟨a,rfl,_,h6⟩
  ·exfalso;rw[h6]at hlen;simp at hlen;omega
  ·rw[h3]at e2
   simp only[SV.c]at e1;have hrun:=run_copy_row (P:=P) w dT sT o.type e (ρ id).g off len cap a k cp (SV.cs ρ l).toArray bt news hu hs hg (by rw[hlen,hk];simp) h6 (by rw[hlen];simp[A3];omega) (fun u hu=>List.all_eq_true.1 h1 u hu);refine⟨True.intro,w.setRow (ρ id).g ((SV.cs ρ l).toArray.toList.take off++news++(SV.cs ρ l).toArray.toList.drop (off+news.length)).toArray,?_,⟨rfl,rfl,rfl,by simp,fun k hk=>setRow_other w _ k _ hk⟩,hg0,(setRow_heap w (ρ id).g _ _ _ _ hg).trans ?_⟩
   ·unfold execOp
    simp only[ho,resolve,invoke,builtin,Sem.run_bind,Sem.run_pure,Result.andThen_ok,List.map_toArray,List.map_cons,List.map_nil,e1,e2,hrun,SV.c,goInt,hlen]
   ·simp[Cb,A3,hlen,List.map_take,List.map_drop,SV.c,Function.comp_def]
theorem Gl{ty e:TypeId}{x:Operand}{lo hi:Option Operand}{a b n size:Nat}{l:List Value}{v v':Value}(ho:o.op= .slice ty x lo hi none)(hgd:AR ops o s)(hx:AC s x= .v v)
 (hu:P.underlying ty=some (.slice e))(hs: ∀w,(Go.sizeOf e).run P w= .ok size w)(hr:Rdg w0 s.mem [] (.v v) n size l)
 (hlo:(match lo with|none=>SV.v (.int .i64 (0:Nat))|some z=>AC s z)= .v (.int .i64 (a:Nat)))(hhi:(match hi with|none=>SV.v (.int .i64 (n:Nat))|some z=>AC s z)= .v (.int .i64 (b:Nat)))(h1:a≤b)(h2:b≤n)(hv:As a b size v=v'):
 Ev P ops w0 o s ⟨.v v',[],[],[],[]⟩:=by
 subst hv;obtain⟨ok,hd⟩:=Hl ho hgd hx hu hs hr hlo hhi h1 h2;refine⟨rfl,.inr ⟨hgd,fun ρ S w hb hR=> ?_⟩⟩;rcases hd with⟨h,_⟩|⟨_,hd⟩
 ·have:=hgd ρ;rw[h ρ]at this;cases this
 ·refine Or.imp ?_ (Or.imp ?_ ?_) (hd ρ S w hb hR)
  ·rintro⟨u,w',h3,ρ',S',h4⟩
   exact⟨u,w',h3,ρ',S',⟨h4.val,h4.same,h4.os,h4.tape,h4.output,h4.size,h4.block,h4.good,h4.sup,h4.own,h4.inj⟩⟩
  ·rintro⟨w',h3,ρ',S',h4⟩
   exact⟨w',h3,ρ',S',⟨h4.val,h4.same,h4.os,h4.tape,h4.output,h4.size,h4.block,h4.good,h4.sup,h4.own,h4.inj⟩⟩
  ·rintro⟨f,args,h3,h4⟩
   exact⟨f,args,h3,h4.mono fun e w' ⟨u,h5,ρ',S',h6⟩=>⟨u,h5,ρ',S',⟨h6.val,h6.same,h6.os,h6.tape,h6.output,h6.size,h6.block,h6.good,h6.sup,h6.own,h6.inj⟩⟩⟩
theorem Hk{t:Array TypeId}{x y:Operand}{a b c:Nat}(ho:o.op= .call {callee:= .builtin .min,args:= #[x,y],argTypes:=t})(hgd:AR ops o s)(hx:AC s x= .v (.int .i64 (a:Nat)))(hy:AC s y= .v (.int .i64 (b:Nat)))(hc:min a b=c):
 Ev P ops w0 o s ⟨.v (.int .i64 (c:Nat)),[],[],[],[]⟩:=
 Ev.run _ _ hgd fun ρ S w hb hR=>by
  have e1:=AH s ρ x;rw[hx]at e1;have e2:=AH s ρ y;rw[hy]at e2;simp only[SV.c]at e1 e2;subst hc;unfold execOp;simp only[ho,resolve,invoke,builtin,Sem.run_bind,Sem.run_pure,Result.andThen_ok,List.map_toArray,List.map_cons,List.map_nil,e1,e2,SV.c];by_cases h:a≤b
  ·simp[Builtin.min_,Builtin.min2,Nat.min_eq_left h]
   omega
  ·simp[Builtin.min_,Builtin.min2,Nat.min_eq_right (Nat.le_of_not_le h),h]
def Ye:Value→UInt8
 | .int _ z=>UInt8.ofNat z.toNat
 |_=>0
def HD(l:List Value):ByteArray:=⟨(l.map Ye).toArray⟩
def ND:Value→Bool
 | .int .u8 _=>true
 |_=>false
theorem Np{l:List Value}(h:l.all ND=true): ∃ns:List Int,l=ns.map (Value.int .u8):=by
 induction l with
 |nil=>exact⟨[],rfl⟩
 |cons x l ih=>
  simp only[List.all_cons,Bool.and_eq_true]at h;obtain⟨ns,rfl⟩:=ih h.2;have h1:=h.1;unfold ND at h1;split at h1
  ·rename_i z;exact⟨z::ns,rfl⟩
  ·cases h1
theorem W7: ∀(ns:List Int) (r:ByteArray),ns.foldl (fun r n=>r.push (UInt8.ofNat n.toNat)) r=⟨r.data++(ns.map fun n=>UInt8.ofNat n.toNat).toArray⟩
 | [],r=>by simp
 |n::ns,r=>by
  simp only[List.foldl_cons];rw[W7 ns];simp[ByteArray.push]
theorem bW(ns:List Int):HD (ns.map (Value.int .u8))=ns.foldl (fun r n=>r.push (UInt8.ofNat n.toNat)) ByteArray.empty:=by
 rw[W7];simp only[HD,List.map_map];congr 1
 simp[ByteArray.empty,ByteArray.emptyWithCapacity,Function.comp_def,Ye];rfl
theorem oO{st dt e:TypeId}{x:Operand}{n:Nat}{l:List Value}{y:SV}{rd:List Nat}(ho:o.op= .convert st dt x)(hgd:AR ops o s)(hx:AC s x=y)
 (hs:P.underlying st=some (.slice e))(he:P.underlying e=some (.int .u8))(hd:P.underlying dt=some .string)(hr:Rdg w0 s.mem rd y n 1 l)(hb8:l.all ND=true):Ev P ops w0 o s ⟨.v (.string (HD l)),[],[],[],rd⟩:=
 Ev.run _ _ hgd fun ρ S w hb hR=>by
  have e1:=AH s ρ x;rw[hx]at e1;obtain⟨ns,rfl⟩:=Np hb8;obtain⟨_,ao,cap,h3,h4,h5,h6⟩:=hr ρ S w hb hR;rw[h3]at e1
  have key:(convert st dt (.slice ao n cap)).run P w= .ok (.string (HD (ns.map (Value.int .u8)))) w:=by
   rw[run_convert_bytes_string w st dt e ao n cap hs he hd];cases ao with
   |none=>
    have hn:ns=[]:=by
     rcases h6 with h6|⟨a,h6,_⟩
     ·simpa using h6
     ·cases h6
    subst hn;simp[Conv.bytesToString,HD];rfl
   |some a=>
    have hl:(loadCells a n).run P w= .ok (ns.map (Value.int .u8)).toArray w:=by
     have hn:n=(ns.map (Value.int .u8)).length:=by rw[h5,Nat.mul_one]
     rw[hn];refine run_loadCells_list w a _ ?_;rcases h6 with h6|⟨a',h6,_,h7⟩
     ·rw[h6];intro j v hj;cases hj
     ·simp only[Option.some.injEq]at h6;subst h6;exact h7
    rw[run_bytesToString w a n cap ns hl,bW]
  simp only[execOp,ho,e1,SV.c];rw[Sem.run_bind,key];rfl
theorem Ev.newr(id:Nat)(l:List Value)(ty:TypeId)(hw:AR ops o s)
 (h: ∀ρ w,(execOp (s.act ρ).eval o).run P w= .ok (.value (.pointer (some ⟨w.heap.size,0,none⟩))) (w.alloc (.cells l.toArray ty))):Ev P ops w0 o s ⟨.p id 0,[(id,.arr l ty)],[],[id],[]⟩:=
 ⟨by simp[Eff.ok],.inr ⟨hw,fun ρ S w hb _=> .inl ⟨_,_,h ρ w,_,_,by
  have:=Cu (base:=w0.heap.size) (t:=s.mem) (ρ:=ρ) (S:=S) (w:=w) (w':=w.alloc (.cells l.toArray ty)) (val:= .p id 0) (rd:=[]) (up:=[]) (id:=id) (b:= .arr l ty) (m:=⟨w.heap.size,undef⟩) (S1:=fun _=>False)
   rfl rfl rfl (by simp) (fun k hk _=>heap_alloc_old w _ hk) (fun ρ' h1 h2=>by
    refine⟨by rw[h1];exact hb.size,?_⟩;rw[h1];exact heap_alloc_new w _) (fun _ h=>h.elim) (fun _=> .inr ⟨Nat.le_refl _,fun h=>h⟩)
  simpa[SV.c] using this⟩⟩⟩
theorem K9{ty:TypeId}{z:Value}{l:List Value}{id:Nat}(_hd:o.dst=some id)(ho:o.op= .alloc ty)(hgd:AR ops o s)(hz: ∀w,(zeroValue ty).run P w= .ok z w)(hl:z.cells.toList=l):
 Ev P ops w0 o s ⟨.p id 0,[(id,.arr l ty)],[],[id],[]⟩:=
 Ev.newr id _ _ hgd fun ρ w=>by
  subst hl;simp[execOp,ho,Instr.alloc,newVar,newRow,newObj,Sem.run_bind,hz,Result.andThen];rfl
theorem XU{ty:TypeId}{x:Operand}{v:Value}{l:List Value}{id:Nat}(_hd:o.dst=some id)(ho:o.op= .box ty x)(hgd:AR ops o s)(hx:AC s x= .v v)(hl:v.cells.toList=l):
 Ev P ops w0 o s ⟨.p id 0,[(id,.arr l ty)],[],[id],[]⟩:=
 Ev.newr id _ _ hgd fun ρ w=>by
  subst hl;have h1:=AH s ρ x;rw[hx]at h1;simp[execOp,ho,h1,Instr.box,newVar,newRow,newObj,Result.andThen,SV.c];rfl
theorem Hr{w:World}{l:List Value}{ty:TypeId}{g:Nat}(h:w.heap[g]? =some (.cells l.toArray ty (0,0))){i:Nat}{x:Value}(hx:l[i]? =some x):w.cell? ⟨g,i,none⟩=some x:=by
 simp only[World.cell?,h];simp[hx]
theorem XG{ty:TypeId}{x:Operand}{id off n:Nat}{l:List Value}{bt:TypeId}{d:TypeDesc}{vs:List Value}(ho:o.op= .load ty x)(hgd:AR ops o s)(hx:AC s x= .p id off)(hm:s.mem id=some (.arr l bt))
 (hu:P.underlying ty=some d)(hd:Bc d=true)(hs: ∀w,(Go.sizeOf ty).run P w= .ok n w)(hv:(l.drop off).take n=vs)(hl:vs.length=n):Ev P ops w0 o s ⟨.v (.agg vs.toArray),[],[],[],[id]⟩:=
 Ev.run _ _ hgd fun ρ S w hb hR=>by
  have h1:=AH s ρ x;rw[hx]at h1;have hg:=(A6 hR hm (by simp)).2
  have hl':(loadCells ⟨(ρ id).g,off,none⟩ vs.length).run P w= .ok vs.toArray w:=run_loadCells_list w _ vs fun j v hj=>by
   rw[BX];refine Hr hg ?_;rw[←hv,List.getElem?_take]at hj;split at hj
   ·rwa [List.getElem?_drop]at hj
   ·cases hj
  rw[hl]at hl';simp[execOp,ho,h1,SV.c,Instr.loadAt,Instr.sureAddr,loadVar,Bu hu,hd,hs,hl']
theorem K5{ty:TypeId}{x:Operand}{id off:Nat}{l:List Value}{bt:TypeId}{d:TypeDesc}{v:Value}(ho:o.op= .load ty x)(hgd:AR ops o s)(hx:AC s x= .p id off)(hm:s.mem id=some (.arr l bt))
 (hu:P.underlying ty=some d)(hd:Bc d=false)(hv:l[off]? =some v):Ev P ops w0 o s ⟨.v v,[],[],[],[id]⟩:=
 Ev.run _ _ hgd fun ρ S w hb hR=>by
  have h1:=AH s ρ x;rw[hx]at h1;have hc:=Hr (A6 hR hm (by simp)).2 hv;simp[execOp,ho,h1,SV.c,Instr.loadAt,Instr.sureAddr,loadVar,Bu hu,hd,hc]
theorem EA{ty:TypeId}{x y:Operand}{id off n:Nat}{l l':List Value}{bt:TypeId}{v:Value}(ho:o.op= .store ty x y)(hgd:AR ops o s)(hx:AC s x= .p id off)(hm:s.mem id=some (.arr l bt))(hy:AC s y= .v v)
 (hs: ∀w,(Go.sizeOf ty).run P w= .ok n w)(hn:v.cells.size=n)(hfit:off+n≤l.length)(h1:v.cells.toList.all (·.oneCell')=true)(hl:l.take off++v.cells.toList++l.drop (off+n)=l'):
 Ev P ops w0 o s ⟨.v undef,[(id,.arr l' bt)],[id],[],[id]⟩:=
 Ev.wr id _ _ _ _ hgd hm (by simp) (fun _=>by simp[SV.c]) fun ρ S w hb hR=>by
  have e1:=AH s ρ x;rw[hx]at e1;have e2:=AH s ρ y;rw[hy]at e2;simp only[SV.c]at e2;obtain⟨hg0,hg⟩:=A6 hR hm (by simp);have hst:=run_storeCells_at P (ρ id).g off bt v.cells.toList 0 l.toArray w hg (by simp;omega) (fun u hu=>List.all_eq_true.1 h1 u hu);refine⟨True.intro,w.setRow (ρ id).g (l.toArray.toList.take (off+0)++v.cells.toList++l.toArray.toList.drop (off+0+v.cells.toList.length)).toArray,?_,⟨rfl,rfl,rfl,by simp,fun k hk=>setRow_other w _ k _ hk⟩,hg0,?_⟩
  ·simp only[execOp,ho,e1,e2,SV.c,Instr.storeAt,Instr.sureAddr,storeVar]
   rw[Sem.run_bind,Sem.run_bind,Sem.run_pure,Result.andThen_ok,Sem.run_bind,hs,Result.andThen_ok,if_neg (by rw[hn];simp),hst];rfl
  ·rw[setRow_heap w (ρ id).g _ _ _ _ hg,←hl]
   simp[hn]
theorem da{m:Mem}{id off len cap size:Nat}{b:List Value}{ty:TypeId}{l:List Value}(h:m id=some (.arr b ty))(hl:(b.drop off).take (len*size)=l)(hn:l.length=len*size)(hc:len≤cap):Rdg w0 m [id] (.s id off len cap) len size l:=fun ρ S w _ hR=>by
 refine⟨fun k=>k=(ρ id).g,_,cap,by simp only[SV.c],hc,hn,.inr ⟨⟨(ρ id).g,off,none⟩,rfl,rfl,?_⟩⟩;intro i x hx;rw[BX];refine Hr (A6 hR h (by simp)).2 ?_;rw[←hl,List.getElem?_take]at hx;split at hx
 ·rwa [List.getElem?_drop]at hx
 ·cases hx
theorem IT{p ty id off n:Nat}{l:List Value}{bt:TypeId}{d:TypeDesc}{vs:List Value}(h:AC s (.tmp p)= .p id off)(hm:s.mem id=some (.arr l bt))(hu:P.underlying ty=some d)(hd:Bc d=true)(hs: ∀w,(Go.sizeOf ty).run P w= .ok n w)
 (hv:(l.drop off).take n=vs)(hl:vs.length=n):RV P w0 s (.cell p ty) (.v (.agg vs.toArray)):=fun ρ w hw=>by
 obtain⟨_,_,hg⟩:=J4 hw hm
 have hl':(loadCells ⟨(ρ id).g,off,none⟩ vs.length).run P w= .ok vs.toArray w:=run_loadCells_list w _ vs fun j v hj=>by
  rw[BX];refine Hr hg ?_;rw[←hv,List.getElem?_take]at hj;split at hj
  ·rwa [List.getElem?_drop]at hj
  ·cases hj
 rw[hl]at hl';simp only[C6,FJ,h,SV.c];simp[asAddr,loadVar,Bu hu,hd,hs,hl']
end
def Hn:Nat→Code→Code
 |0,c=>c
 |n+1,.seq _ d=>Hn n d
 |_+1,c=>c
def JU(f:Func):Code:=f.body.getD .skip
def QB(P:Program)(fn:Func)(w:World)(R:Ending→World→Prop):Exit→VS→Prop:=fun e s'=> ∀ρ w',Rel w ρ s' w'→bodyPost P fn R e (s'.act ρ) w'
def CC(keep:Nat→Bool)(f:Nat→Value):Nat→List SV→List SV
 |_,[]=>[]
 |i,x::l=>(if keep i then x else .v (f i))::CC keep f (i+1) l
theorem Hi(keep:Nat→Bool)(ρ:Nat→Nm)(f:Nat→Value): ∀(l:List SV) (i:Nat),(∀j x,l[j]? =some x→f (i+j)=x.c ρ)→(CC keep f i l).map (SV.c ρ)=l.map (SV.c ρ)
 | [],_,_=>rfl
 |x::l,i,h=>by
  simp only[CC,List.map_cons];rw[Hi keep ρ f l (i+1) (fun j y hj=>by have:=h (j+1) y (by simpa using hj);rw[←this];congr 1;omega)];congr 1
  split
  ·rfl
  ·simp only[SV.c];exact h 0 x rfl
theorem OM(keep:Nat→Bool)(drop:List Nat){P:Program}{w0:World}{c:Code}{fr:List SV}{m:List (Nat×Blk)}{Q:Exit→VS→Prop}(h: ∀f,VOk P w0 ⟨CC keep f 0 fr,AK (BS m drop)⟩ c Q):VOk P w0 ⟨fr,AK m⟩ c Q:=by
 intro ρ w R hr hQ;have h1:=h (fun i=>((fr[i]?).getD (.v undef)).c ρ) ρ w R ?_ hQ
 ·have e:(⟨CC keep (fun i=>((fr[i]?).getD (.v undef)).c ρ) 0 fr,AK (BS m drop)⟩:VS).act ρ=(⟨fr,AK m⟩:VS).act ρ:=by
   simp only[VS.act];rw[Hi keep ρ _ fr 0 (fun j x hj=>by simp[hj])]
  rw[e]at h1;exact h1
 ·obtain⟨hb,S,hR⟩:=hr
  have key: ∀id b,AK (BS m drop) id=some b→AK m id=some b:=fun id b hh=>by
   rw[Pr]at hh;split at hh
   ·cases hh
   ·exact hh
  have key2: ∀id,(AK (BS m drop) id).isSome→(AK m id).isSome:=fun id hh=>by
   obtain⟨b,hh⟩:=Option.isSome_iff_exists.1 hh;rw[key id b hh];rfl
  exact⟨hb,S,⟨fun id b hh=>hR.good id b (key id b hh),fun id k hh=>hR.lt id k (key2 id hh),fun id k hh=>hR.fr id k (key2 id hh),fun i b j hi ho hj=>hR.dis i b j (key i b hi) ho (key2 j hj),fun i b j c hi ho hj hc=>hR.inj i b j c (key i b hi) ho (key j c hj) hc⟩⟩
end Go.Vx
namespace Go.Vx
open Go.RowKit Go.Toll Go.ChangeShapes Go.WideShapes
section
variable{H:Type}{enc:TypeId×Value→H}{P:Program}{W W':World}
theorem cU(h:Bw W W'){p:MemPlace}(hp:p.block<W.heap.size):W.sameAt W' p:=by
 cases p with
 |cell b off=>exact World.cell?_of_block (w:=W) (a:=⟨b,off,none⟩) (h.block b hp)
 |map b=>exact h.block b hp
theorem SR{base:Nat}{sp:Nat→Bool}{held:Bool}: ∀{ts:List TypeId} {vs:List Value} {ds:List (DataW H)} {ps:List MemPlace},DataW.TrodAll enc P W base sp held ts vs ds ps→(∀p∈ps,W.sameAt W' p)→DataW.TrodAll enc P W' base sp held ts vs ds ps
 | [],_,_,_,h,_=>by
   obtain⟨rfl,rfl,rfl⟩:=trodAll_nil h;exact trodAll_mk0
 |_::_,_,_,_,h,hs=>by
  obtain⟨v,vs1,d,ds1,a,b,rfl,rfl,rfl,⟨n,h1⟩,h2⟩:=trodAll_cons h;exact⟨a,b,⟨n,DataW.trod_carry n _ _ _ h1 fun p hp=>hs p (List.mem_append_left _ hp)⟩,SR h2 fun p hp=>hs p (List.mem_append_right _ hp),rfl⟩
structure Plain(P:Program):Prop where
 laid:laidOutB P=true
 maps:mapsRowed P=true
 full:((List.range P.types.size).all fun t=>match P.underlying t with|some (.slice e)=>decide (0<P.cellsOf e)|_=>true)=true
theorem sL(hP:Plain P){ts:List TypeId}{vs:List Value}{ds:List (DataW H)}{p:List MemPlace}(hT:(ts.all fun t=>decide (t<P.types.size))=true)(h:DataW.TrodAll enc P W 0 (fun _=>true) true ts vs ds p)(hb:Bw W W')
 (sp:Nat→Bool)(hs: ∀q∈p,sp q.block=true):DataW.TrodAll enc P W' 0 sp true ts vs ds p:=
 DataW.TrodAll.respare (kids_rows hP.laid hP.maps) (slices_full_of P hP.full) (fun t ht=>by have:=List.all_eq_true.1 hT t ht;simpa using this)
  (SR h fun q hq=>cU hb (h.lt q hq)) hs
theorem eQ(hP:Plain P){f:Func}{s:ChangeSpec}{N4 fresh handsOn again:Bool}{args:Array Value}{v:Value}{ds gs:List (DataW H)}{before:List MemPlace}
 (hT:(f.params.toList.all fun t=>decide (t<P.types.size))=true)
 (hW:DataW.Whole enc P f.params.toList s.vars N4 W args.toList ds gs before)(hsv:s.vars=[])
 (hres: ∀(b:Nat) (sp:Nat→Bool) (hd:Bool),DataW.TrodAll enc P W' b sp hd f.resultTypes.toList (v.resultList f.resultTypes.size) (s.fn H (ds++gs)).results [])
 (hargs:(s.fn H (ds++gs)).args=ds)(hvs:(s.fn H (ds++gs)).vars=[])(hb:Bw W W')
 (hok: ∀(j:Nat) (t:TypeId) (r:Value),f.resultTypes[j]? =some t→(v.resultList f.resultTypes.size)[j]? =some r→Value.okWide P W' .any 0 t r):
 s.post enc P f N4 fresh handsOn again W args v W':=by
 have hold: ∀p∈before,(fun b=>decide (b<W.heap.size)) p.block=true:=fun p hp=>by simpa using hW.lt p hp
 have hlt:=hW.lt;have hW':=hW;obtain⟨p,q,hA,hV,hpq,hz,hn⟩:=hW'
 have hV0:gs=[]∧q=[]:=by
  rw[hsv]at hV;exact trodVars_none hV
 obtain⟨rfl,rfl⟩:=hV0;rw[List.append_nil]at hpq;subst hpq
 have hargs': ∀sp:Nat→Bool,(∀q∈before,sp q.block=true)→DataW.TrodAll enc P W' 0 sp true f.params.toList args.toList (s.fn H (ds++[])).args before:=fun sp hs=>by
  rw[hargs];exact sL hP hT hA hb sp hs
 have hvars': ∀sp:Nat→Bool,DataW.TrodVars enc P W' sp s.vars (s.fn H (ds++[])).vars []:=fun sp=>by
  rw[hvs,hsv];exact rfl
 refine⟨ds,[],before,[],before,[],hW,hres _ _ _,hargs' _ hold,hvars' _,World.keptBut_mono (fun p hp=>⟨hp,Or.inr (Or.inl hp)⟩) (hb.frame _),fun _=> ?_⟩;refine⟨hok,_,_,([]++before)++[],⟨[]++before,[],trodAll_append (hargs' _ (fun _ _=>rfl)) (hres _ _ _),hvars' _,rfl,?_,?_⟩,?_⟩
 ·intro b off hp
  have hp':MemPlace.cell b off∈before:=by simpa using hp
  have hbk:=hlt _ hp';have:=hz b off (by simpa using hp');rw[World.frozen?_of_block (w:=W) (a:=⟨b,off,none⟩) (hb.block b hbk)];exact this
 ·intro ha
  have:=hn ha;simpa using this
 ·intro p hp _
  simpa using hp
end
end Go.Vx
namespace Go.Vx
open Go.RowKit Go.Toll
section
variable{P:Program}{w0:World}
def Ct(w0:World)(s:VS)(B:(Nat→Value)→VS):Prop:= ∀ρ w,Rel w0 ρ s w→ ∃f ρ',Rel w0 ρ' (B f) w∧(B f).act ρ'=s.act ρ
theorem VOk.weak{s:VS}{B:(Nat→Value)→VS}{c:Code}{Q:Exit→VS→Prop}(hw:Ct w0 s B)(h: ∀f,VOk P w0 (B f) c Q):VOk P w0 s c Q:=fun ρ w R hr hQ=>by
 obtain⟨f,ρ',h1,h2⟩:=hw ρ w hr;rw[←h2];exact h f ρ' w R h1 hQ
theorem VOk.mono{s:VS}{c:Code}{Q Q':Exit→VS→Prop}(h:VOk P w0 s c Q)(hq: ∀e s',Q e s'→Q' e s'):VOk P w0 s c Q':=fun ρ w R hr hQ=>
 h ρ w R hr fun e ρ' s' w' h1 h2=>hQ e ρ' s' w' (hq e s' h1) h2
theorem Ct.trans{s:VS}{B C:(Nat→Value)→VS}(h:Ct w0 s B)(k: ∀f,Ct w0 (B f) C):Ct w0 s C:=fun ρ w hr=>by
 obtain⟨f,ρ',h1,h2⟩:=h ρ w hr;obtain⟨g,ρ2,h3,h4⟩:=k f ρ' w h1;exact⟨g,ρ2,h3,h4.trans h2⟩
theorem OF{s:VS}{B:(Nat→Value)→VS}(f:Nat→Value)(h:B f=s):Ct w0 s B:=fun ρ w hr=>⟨f,ρ,by rw[h];exact hr,by rw[h]⟩
def uk(w0:World){α:Type}(A:α→(Nat→Value)→VS)(μ:α→Nat)(x:α)(Q:Exit→VS→Prop):Exit→VS→Prop
 | .normal,s'=> ∃x',μ x'<μ x∧Ct w0 s' (A x')
 |e,s'=>Q e s'
theorem B7{α:Type}(A:α→(Nat→Value)→VS)(μ:α→Nat){c:Code}{Q:Exit→VS→Prop}(step: ∀x f,VOk P w0 (A x f) c (uk w0 A μ x Q))(x:α){s:VS}(h:Ct w0 s (A x)):VOk P w0 s (.loop c) Q:=by
 have key: ∀N x s,μ x≤N→Ct w0 s (A x)→H2 P w0 c Q (N+1) s:=by
  intro N
  induction N with
  |zero=>
   intro x s hx hs;refine VOk.weak hs fun f=>(step x f).mono fun e s' hq=> ?_
   cases e with
   |normal=>obtain⟨x',hx',_⟩:=hq;omega
   |_=>exact hq
  |succ N ih=>
   intro x s hx hs;refine VOk.weak hs fun f=>(step x f).mono fun e s' hq=> ?_
   cases e with
   |normal=>obtain⟨x',hx',hs'⟩:=hq;exact ih x' s' (by omega) hs'
   |_=>exact hq
 exact Ce (μ x+1) (key (μ x) x s (Nat.le_refl _) h)
theorem Al(keep:Nat→Bool)(drop:List Nat){fr:List SV}{m:List (Nat×Blk)}:Ct w0 ⟨fr,AK m⟩ (fun f=>⟨CC keep f 0 fr,AK (BS m drop)⟩):=fun ρ w hr=>by
 refine⟨fun i=>((fr[i]?).getD (.v undef)).c ρ,ρ,?_,?_⟩
 ·obtain⟨hb,S,hR⟩:=hr
  have key: ∀id b,AK (BS m drop) id=some b→AK m id=some b:=fun id b hh=>by
   rw[Pr]at hh;split at hh
   ·cases hh
   ·exact hh
  have key2: ∀id,(AK (BS m drop) id).isSome→(AK m id).isSome:=fun id hh=>by
   obtain⟨b,hh⟩:=Option.isSome_iff_exists.1 hh;rw[key id b hh];rfl
  exact⟨hb,S,⟨fun id b hh=>hR.good id b (key id b hh),fun id k hh=>hR.lt id k (key2 id hh),fun id k hh=>hR.fr id k (key2 id hh),fun i b j hi ho hj=>hR.dis i b j (key i b hi) ho (key2 j hj),fun i b j c hi ho hj hc=>hR.inj i b j c (key i b hi) ho (key j c hj) hc⟩⟩
 ·simp only[VS.act]
  rw[Hi keep ρ _ fr 0 (fun j x hj=>by simp[hj])]
mutual
def SV.ren(o n:Nat):SV→SV
 | .v x=> .v x
 | .p k off=> .p (if k=o then n else k) off
 | .s k off len cap=> .s (if k=o then n else k) off len cap
 | .d k=> .d (if k=o then n else k)
 | .fn f x=> .fn f (SV.ren o n x)
 | .agg l=> .agg (SV.renL o n l)
 | .tup l=> .tup (SV.renL o n l)
def SV.renL(o n:Nat):List SV→List SV
 | []=>[]
 |x::l=>SV.ren o n x::SV.renL o n l
end
def Blk.ren(o n:Nat):Blk→Blk
 | .cells l ty=> .cells (SV.renL o n l) ty
 | .pin j g=> .pin (if j=o then n else j) g
 |b=>b
mutual
theorem TM{o n:Nat}{ρ:Nat→Nm}: ∀{x:SV},x.has n=false→(x.ren o n).c (fun k=>if k=n then ρ o else ρ k)=x.c ρ
 | .v _,_=>by simp[SV.ren,SV.c]
 | .p k _,h=>by
   have hk:k≠n:=by simpa[SV.has] using h
   by_cases e:k=o<;>simp[SV.ren,SV.c,e,hk]
 | .s k _ _ _,h=>by
   have hk:k≠n:=by simpa[SV.has] using h
   by_cases e:k=o<;>simp[SV.ren,SV.c,e,hk]
 | .d k,h=>by
   have hk:k≠n:=by simpa[SV.has] using h
   by_cases e:k=o<;>simp[SV.ren,SV.c,e,hk]
 | .fn f x,h=>by
   simp only[SV.ren,SV.c];rw[TM (x:=x) (by simpa[SV.has] using h)]
 | .agg l,h=>by simp only[SV.ren,SV.c];rw[J3 (x:=l) (by simpa[SV.has] using h)]
 | .tup l,h=>by simp only[SV.ren,SV.c];rw[J3 (x:=l) (by simpa[SV.has] using h)]
theorem J3{o n:Nat}{ρ:Nat→Nm}: ∀{x:List SV},SV.hasL n x=false→SV.cs (fun k=>if k=n then ρ o else ρ k) (SV.renL o n x)=SV.cs ρ x
 | [],_=>by simp[SV.renL,SV.cs]
 |y::l,h=>by
  simp only[SV.hasL,Bool.or_eq_false_iff]at h;simp only[SV.renL,SV.cs];rw[TM (x:=y) h.1,J3 (x:=l) h.2]
end
def E6(o n:Nat):List (Nat×Blk)→List (Nat×Blk)
 | []=>[]
 |(k,b)::l=>(if k=o then n else k,b.ren o n)::E6 o n l
theorem Uu{o n:Nat}(hon:o≠n): ∀{l:List (Nat×Blk)},l.all (fun x=>x.1 !=n)=true→ ∀k,AK (E6 o n l) k=if k=n then(AK l o).map (Blk.ren o n)else if k=o then none else(AK l k).map (Blk.ren o n)
 | [],_,k=>by simp[E6,AK]
 |(j,b)::l,h,k=>by
  simp only[List.all_cons,Bool.and_eq_true]at h;have hj:j≠n:=by simpa using h.1
  have ih:=Uu hon h.2 k;simp only[E6,AK];by_cases e1:j=o
  ·subst e1
   simp only[if_true];by_cases e2:k=n
   ·simp[e2]
   ·rw[if_neg e2,ih,if_neg e2,if_neg e2]
    by_cases e3:k=j
    ·simp[e3]
    ·simp[e3]
  ·simp only[if_neg e1]
   by_cases e2:k=j
   ·subst e2;simp[e1,hj]
   ·rw[if_neg e2,ih]
    by_cases e3:k=n
    ·simp only[e3,if_true]
     rw[if_neg (Ne.symm e1)]
    ·simp only[if_neg e3]
     by_cases e4:k=o
     ·simp[e4]
     ·simp[e4,e2]
theorem DI(o n:Nat){fr:List SV}{m:List (Nat×Blk)}(hon:o≠n)(hf:FK fr m n=true):Ct w0 ⟨fr,AK m⟩ (fun _=>⟨SV.renL o n fr,AK (E6 o n m)⟩):=fun ρ w hr=>by
 obtain⟨hn,hfr,hmm⟩:=Kx hf
 have hall:m.all (fun x=>x.1 !=n)=true:=by
  simp only[FK,Bool.and_eq_true]at hf;refine List.all_eq_true.2 fun x hx=> ?_
  have:=List.all_eq_true.1 hf.2 x hx;simp only[Bool.and_eq_true]at this;exact this.1
 obtain⟨hb,S,hR⟩:=hr;have hmem:=Uu (o:=o) (n:=n) hon hall
 have back: ∀id b,AK (E6 o n m) id=some b→ ∃id0 b0,AK m id0=some b0∧b=b0.ren o n∧(if id=n then o else id)=id0∧id0≠n:=by
  intro id b h;rw[hmem]at h;split at h
  ·rename_i e
   cases h0:AK m o with
   |none=>rw[h0]at h;cases h
   |some b0=>rw[h0]at h;simp only[Option.map_some,Option.some.injEq]at h;exact⟨o,b0,h0,h.symm,by rw[if_pos e],hon⟩
  ·rename_i e
   split at h
   ·cases h
   ·cases h0:AK m id with
    |none=>rw[h0]at h;cases h
    |some b0=>rw[h0]at h;simp only[Option.map_some,Option.some.injEq]at h;exact⟨id,b0,h0,h.symm,by rw[if_neg e],e⟩
 have hρ: ∀id,(if id=n then ρ o else ρ id)=ρ (if id=n then o else id):=fun id=>by split<;>rfl
 refine⟨fun _=>undef,fun k=>if k=n then ρ o else ρ k,⟨hb,fun k=>if k=n then S o else S k,?_⟩,?_⟩
 ·have hS: ∀id,(if id=n then S o else S id)=S (if id=n then o else id):=fun id=>by split<;>rfl
  have hown: ∀(b0:Blk) (a:Nm),(b0.ren o n).owns a↔b0.owns a:=fun b0 a=>by cases b0<;>exact Iff.rfl
  refine⟨?_,?_,?_,?_,?_⟩
  ·intro id b h
   obtain⟨id0,b0,h0,rfl,e,_⟩:=back id b h;have hg:=hR.good id0 b0 h0;simp only[hS,e];have e2:(if id=n then ρ o else ρ id)=ρ id0:=by rw[hρ,e]
   cases b0 with
   |cells l ty=>
    simp only[Blk.ren,CH,e2]at hg⊢;refine⟨hg.1,hg.2.trans ?_⟩;simp only[Cb];rw[J3 (by have:=hmm id0 _ h0;simpa[Blk.has] using this)]
   |row n' size ty D=>simp only[Blk.ren,CH,e2]at hg ⊢; exact hg
   |dat D=>simp only[Blk.ren,CH,e2]at hg ⊢; exact hg
   |arr l ty=>simp only[Blk.ren,CH,e2]at hg ⊢; exact hg
   |floor k=>exact hg
   |pin j g=>
    have hj:j≠n:=by
     have:=hmm id0 _ h0;simpa[Blk.has,SV.hasL,SV.has] using this
    simp only[Blk.ren,CH]at hg⊢;by_cases e3:j=o
    ·rw[if_pos e3,if_pos rfl,←e3];exact hg
    ·rw[if_neg e3,if_neg hj];exact hg
  ·intro id k h hk
   obtain⟨b,h⟩:=Option.isSome_iff_exists.1 h;obtain⟨id0,b0,h0,rfl,e,_⟩:=back id b h;simp only[hS,e]at hk;exact hR.lt id0 k (by show(AK m _).isSome=true;rw[h0];rfl) hk
  ·intro id k h hk
   obtain⟨b,h⟩:=Option.isSome_iff_exists.1 h;obtain⟨id0,b0,h0,rfl,e,_⟩:=back id b h;simp only[hS,e]at hk;exact hR.fr id0 k (by show(AK m _).isSome=true;rw[h0];rfl) hk
  ·intro i b j hi ho hj
   obtain⟨c,hj⟩:=Option.isSome_iff_exists.1 hj;obtain⟨i0,b0,h0,rfl,e,_⟩:=back i b hi;obtain⟨j0,c0,h1,rfl,e',_⟩:=back j c hj;simp only[hS,hρ,e,e']at ho⊢;exact hR.dis i0 b0 j0 h0 ((hown _ _).1 ho) (by show(AK m _).isSome=true;rw[h1];rfl)
  ·intro i b j c hi ho hj hoc hg
   obtain⟨i0,b0,h0,rfl,e,hi0⟩:=back i b hi;obtain⟨j0,c0,h1,rfl,e',hj0⟩:=back j c hj;simp only[hρ,e,e']at ho hoc hg;have:=hR.inj i0 b0 j0 c0 h0 ((hown _ _).1 ho) h1 ((hown _ _).1 hoc) hg;subst this;by_cases e1:i=n<;>by_cases e2:j=n
   ·rw[e1,e2]
   ·rw[if_pos e1]at e;rw[if_neg e2]at e'
    exfalso;have:=hmem j;rw[if_neg e2,if_pos (by rw[e',←e])]at this;rw[show AK (E6 o n m) j=some _ from hj]at this;cases this
   ·rw[if_neg e1]at e;rw[if_pos e2]at e'
    exfalso;have:=hmem i;rw[if_neg e1,if_pos (by rw[e,←e'])]at this;rw[show AK (E6 o n m) i=some _ from hi]at this;cases this
   ·rw[if_neg e1]at e;rw[if_neg e2]at e';rw[e,e']
 ·simp only[VS.act]
  have:=J3 (o:=o) (n:=n) (ρ:=ρ) (x:=fr) (by rw[NG];exact List.any_eq_false.2 fun x hx=>by rw[hfr x hx];simp);rw[A3,A3]at this;rw[this]
def Bb:Value:= .slice none 0 0
def Blk.sim(ρ:Nat→Nm):Blk→Blk→Prop
 | .cells l t,.cells l' t'=>SV.cs ρ l=SV.cs ρ l'∧t=t'
 |b,b'=>b=b'
def GW(ρ:Nat→Nm):List (Nat×Blk)→List (Nat×Blk)→Prop
 | [],[]=>True
 |(k,b)::l,(k',b')::l'=>k=k'∧Blk.sim ρ b b'∧GW ρ l l'
 |_,_=>False
theorem Ut{ρ:Nat→Nm}: ∀{l l':List (Nat×Blk)},GW ρ l l'→ ∀{k:Nat} {b':Blk},AK l' k=some b'→ ∃b,AK l k=some b∧Blk.sim ρ b b'
 | [],[],_,_,_,h=>by cases h
 |(j,b)::l,(j',b')::l',hs,k,c,h=>by
  obtain⟨rfl,h1,h2⟩:=hs;simp only[AK]at h⊢;split at h
  ·rename_i e;injection h with h;subst h;exact⟨b,by rw[if_pos e],h1⟩
  ·rename_i e;obtain⟨c0,h3,h4⟩:=Ut h2 h;exact⟨c0,by rw[if_neg e];exact h3,h4⟩
 | [],_::_,hs,_,_,_=>hs.elim
 |_::_,[],hs,_,_,_=>hs.elim
theorem O2{ρ:Nat→Nm}{b b':Blk}(h:Blk.sim ρ b b')(a:Nm):b'.owns a↔b.owns a:=by
 cases b<;>cases b'<;>simp_all [Blk.sim,Blk.owns]
theorem Jc(id:Nat)(size:Nat)(ty:TypeId)(D:Dat)(hD: ∀w,D.holds [] w fun _=>False){fr fr':List SV}{m m':List (Nat×Blk)}(hf:FK fr m id=true)(hm':m'.all (fun x=>x.1 !=id)=true)
 (hfr: ∀ρ:Nat→Nm,(ρ id).val=Bb→SV.cs ρ fr'=SV.cs ρ fr)(hmm: ∀ρ:Nat→Nm,(ρ id).val=Bb→GW ρ m m'):Ct w0 ⟨fr,AK m⟩ (fun _=>⟨fr',AK ((id,.row 0 size ty D)::m')⟩):=fun ρ w hr=>by
 obtain⟨hn,hff,hmf⟩:=Kx hf;obtain⟨hb,S,hR⟩:=hr;obtain⟨ρ',hρ'⟩: ∃ρ':Nat→Nm,ρ'=fun k=>if k=id then⟨0,Bb⟩else ρ k:=⟨_,rfl⟩
 have hv:(ρ' id).val=Bb:=by rw[hρ'];simp
 have hs: ∀k,k∉[id]→ρ' k=ρ k:=fun k hk=>by rw[hρ'];simp at hk;simp[hk]
 have hsim:=hmm ρ' hv
 have back: ∀k b,AK ((id,Blk.row 0 size ty D)::m') k=some b→(k=id∧b= .row 0 size ty D)∨(k≠id∧ ∃b0,AK m k=some b0∧Blk.sim ρ' b0 b):=by
  intro k b h;simp only[AK]at h;split at h
  ·rename_i e;injection h with h;exact .inl ⟨e,h.symm⟩
  ·rename_i e;exact .inr ⟨e,Ut hsim h⟩
 refine⟨fun _=>undef,ρ',⟨hb,fun k=>if k=id then fun _=>False else S k,?_⟩,?_⟩
 ·refine⟨?_,?_,?_,?_,?_⟩
  ·intro k b h
   rcases back k b h with⟨rfl,rfl⟩|⟨e,b0,h0,h1⟩
   ·simp only[if_true]
    exact⟨[],by simp,hD w,.inl ⟨by rw[hv];rfl,rfl⟩⟩
   ·simp only[if_neg e]
    have hg:=(hR.good k b0 h0).keep (ρ':=ρ') (hs k (by simpa using e)) (fun l ty hbl=>Ep hs fun j hj=>by
     simp at hj;subst hj
     have:=hmf k b0 h0;rw[hbl]at this;exact this) (fun j g hbl=>hs j (by
      simp only[List.mem_singleton];rintro rfl;have:=hmf k b0 h0;rw[hbl]at this;simp[Blk.has,SV.hasL,SV.has]at this)) (Nat.le_refl _) (fun _ _=>rfl) (fun _=>rfl)
    cases b0<;>cases b<;>simp_all [Blk.sim,CH,Cb]
  ·intro k j h hj
   obtain⟨b,h⟩:=Option.isSome_iff_exists.1 h;rcases back k b h with⟨rfl,rfl⟩|⟨e,b0,h0,h1⟩
   ·simp at hj
   ·simp only[if_neg e]at hj;exact hR.lt k j (by show(AK m _).isSome=true;rw[h0];rfl) hj
  ·intro k j h hj
   obtain⟨b,h⟩:=Option.isSome_iff_exists.1 h;rcases back k b h with⟨rfl,rfl⟩|⟨e,b0,h0,h1⟩
   ·simp at hj
   ·simp only[if_neg e]at hj;exact hR.fr k j (by show(AK m _).isSome=true;rw[h0];rfl) hj
  ·intro i b j hi ho hj hk
   obtain⟨c,hj⟩:=Option.isSome_iff_exists.1 hj;rcases back i b hi with⟨rfl,rfl⟩|⟨e,b0,h0,h1⟩
   ·exact ho hv
   ·rcases back j c hj with⟨rfl,rfl⟩|⟨e',c0,h0',h1'⟩
    ·simp at hk
    ·simp only[if_neg e']at hk
     have ho':=(O2 h1 _).1 ho;rw[hs i (by simpa using e)]at ho' hk;exact hR.dis i b0 j h0 ho' (by show(AK m _).isSome=true;rw[h0'];rfl) hk
  ·intro i b j c hi ho hj hoc hg
   rcases back i b hi with⟨rfl,rfl⟩|⟨e,b0,h0,h1⟩
   ·exact absurd hv ho
   ·rcases back j c hj with⟨rfl,rfl⟩|⟨e',c0,h0',h1'⟩
    ·exact absurd hv hoc
    ·have ho':=(O2 h1 _).1 ho
     have hoc':=(O2 h1' _).1 hoc;rw[hs i (by simpa using e)]at ho' hg;rw[hs j (by simpa using e')]at hoc' hg;exact hR.inj i b0 j c0 h0 ho' h0' hoc' hg
 ·simp only[VS.act]
  rw[←A3,←A3,hfr ρ' hv]
  rw[Ep hs fun j hj=>by
   simp at hj;subst hj;rw[NG];exact List.any_eq_false.2 fun x hx=>by rw[hff x hx];simp]
end
end Go.Vx
namespace Go.Vx
open Go.RowKit Go.Toll
section
variable{P:Program}{w0:World}{ops:Array Oper}{o:Oper}{s:VS}
theorem XS{f:FuncId}{cx:Operand}{first cap:Array Value}{xs:Array Operand}{ats:Array TypeId}{vs:List Value}{v:Value}(ho:o.op= .call {callee:= .value cx,args:=xs,argTypes:=ats})(hgd:AR ops o s)
 (hcx:AC s cx= .v (.func (.func f) first cap))(hx:unV (xs.toList.map (AC s))=some vs)(he: ∀args w,(callFunc f args).run P w= .ok (.enter f args) w)
 (hc: ∀w,Bw w0 w→Calls P f (first++vs.toArray++cap) w fun e w'=>e= .returned v∧Bw w w'):Ev P ops w0 o s ⟨.v v,[],[],[],[]⟩:=
 Ev.call f (fun _=>first++vs.toArray++cap) (.v v) [] hgd (fun ρ w=>by
  have e1:=AH s ρ cx;rw[hcx]at e1;simp only[SV.c]at e1;unfold execOp;simp only[ho,resolve,e1,Deferred.ofValue,F0 hx,Sem.run_bind,Sem.run_pure,Result.andThen_ok,invoke];exact he _ w) fun ρ _ w hb _=>(hc w hb).mono fun _ _ ⟨h1,h2⟩=>⟨by rw[h1];simp[SV.c],h2⟩
def LN(f:FuncId)(v:Value):Value:= .func (.func f) #[] #[v]
theorem nq{f:FuncId}{x:Operand}{y:SV}(ho:o.op= .makeFunc (.func f) #[] #[x])(hgd:AR ops o s)(hx:AC s x=y):Ev P ops w0 o s ⟨.fn (LN f) y,[],[],[],[]⟩:=
 Ev.run _ _ hgd fun ρ S w hb hR=>by
  have e1:=AH s ρ x;rw[hx]at e1;simp[execOp,ho,e1,SV.c,Instr.makeFunc,LN]
theorem NN{ty:TypeId}{x:Operand}{off n size k:Nat}{l vs:List Value}{y:SV}{rd:List Nat}{d:TypeDesc}(ho:o.op= .load ty x)(hgd:AR ops o s)(hx:AC s x= .fn (EH off) y)
 (hu:P.underlying ty=some d)(hd:Bc d=true)(hs: ∀w,(Go.sizeOf ty).run P w= .ok k w)(hr:Rdg w0 s.mem rd y n size l)(hv:(l.drop off).take k=vs)(hl:vs.length=k)(hk:0<k):Ev P ops w0 o s ⟨.v (.agg vs.toArray),[],[],[],rd⟩:=
 Ev.run _ _ hgd fun ρ S w hb hR=>by
  have e1:=AH s ρ x;rw[hx]at e1;obtain⟨_,ao,cap,h3,h4,h5,h6⟩:=hr ρ S w hb hR;rcases h6 with h6|⟨g,rfl,_,h6⟩
  ·rw[h6]at hv;simp at hv;rw[hv]at hl;simp at hl;omega
  ·have hl':(loadCells (g.add off) vs.length).run P w= .ok vs.toArray w:=run_loadCells_list w _ vs fun j v hj=>by
    rw[Rc];refine h6 _ v ?_;rw[←hv,List.getElem?_take]at hj;split at hj
    ·rwa [List.getElem?_drop]at hj
    ·cases hj
   rw[hl]at hl';simp[execOp,ho,e1,SV.c,h3,EH,Instr.loadAt,Instr.sureAddr,loadVar,Bu hu,hd,hs,hl']
theorem nv{t:TypeId}{x:Operand}{b:ByteArray}(ho:o.op= .call {callee:= .builtin .len,args:= #[x],argTypes:= #[t]})(hgd:AR ops o s)(hx:AC s x= .v (.string b))(hu:P.underlying t=some .string):Ev P ops w0 o s ⟨.v (.int .i64 (b.size:Nat)),[],[],[],[]⟩:=
 Ev.run _ _ hgd fun ρ S w hb hR=>by
  have e1:=AH s ρ x;rw[hx]at e1;simp[execOp,ho,resolve,invoke,builtin,e1,Builtin.len_,run_underlying hu,SV.c,goInt]
theorem oD{t:TypeId}{x ix:Operand}{b:ByteArray}{k:Nat}{ki:IntKind}{c:UInt8}(ho:o.op= .index t x ix)(hgd:AR ops o s)(hx:AC s x= .v (.string b))(hi:AC s ix= .v (.int ki (k:Nat)))(hu:P.underlying t=some .string)(hc:b[k]? =some c):Ev P ops w0 o s ⟨.v (.int .u8 (c.toNat:Nat)),[],[],[],[]⟩:=
 Ev.run _ _ hgd fun ρ S w hb hR=>by
  have e1:=AH s ρ x;rw[hx]at e1;have e2:=AH s ρ ix;rw[hi]at e2;simp[execOp,ho,e1,e2,SV.c,Instr.index,asIntOf,run_underlying hu,hc]
def BO(w w':World)(v:Value)(D:Dat):Prop:= ∃S,D.holds [v] w' S∧ ∀k,S k→w.heap.size≤k∧k<w'.heap.size
theorem PR{base:Nat}{t:Mem}{ρ:Nat→Nm}{S:Nat→Nat→Prop}{w w':World}{val:SV}{rd:List Nat}{id:Nat}{D:Dat}{v:Value}{S1:Nat→Prop}(h:Bw w w')(hD:D.holds [v] w' S1)(hS: ∀k,S1 k→w.heap.size≤k∧k<w'.heap.size):
 Out base t ρ S w ⟨val,[(id,.dat D)],[],[id],rd⟩ (val.c fun k=>if k=id then⟨0,v⟩else ρ k) (fun k=>if k=id then⟨0,v⟩else ρ k) (fun _=>S1) w':=
 Cu h.os h.tape h.output h.size (fun k hk _=>h.block k hk) (fun ρ' h1 _=>by simp only[CH,h1];exact hD) (fun k hk=> .inr (hS k hk)) (fun ho=>ho.elim)
theorem BG{f:FuncId}{xs:Array Operand}{ats:Array TypeId}{vs:List SV}{id:Nat}{D:Dat}(rd:List Nat)(_hd:o.dst=some id)(ho:o.op= .call {callee:= .value (.func f),args:=xs,argTypes:=ats})(hgd:AR ops o s)
 (hx:xs.toList.map (AC s)=vs)(he: ∀args w,(callFunc f args).run P w= .ok (.enter f args) w)
 (hc: ∀ρ S w,Bw w0 w→RelOn w0.heap.size ρ S w (restr rd s.mem)→Calls P f (SV.cs ρ vs).toArray w fun e w'=> ∃v,e= .returned v∧BO w w' v D∧Bw w w'):Ev P ops w0 o s ⟨.d id,[(id,.dat D)],[],[id],rd⟩:=
 ⟨by simp[Eff.ok],.inr ⟨hgd,fun ρ S w hb hR=> .inr (.inr ⟨f,(SV.cs ρ vs).toArray,by
  obtain⟨dst,op,type,pos,after,guard⟩:=o;simp only at ho;subst ho;rw[execOp_call_go,Eu,hx,←A3]
  simpa using he (SV.cs ρ vs).toArray w,(hc ρ S w hb hR).mono fun e w' ⟨v,h1,⟨S1,h2,h3⟩,h4⟩=>⟨v,h1,_,_,by
   have:=PR (base:=w0.heap.size) (t:=s.mem) (ρ:=ρ) (S:=S) (val:= .d id) (rd:=rd) (id:=id) h4 h2 h3;simpa[SV.c] using this⟩⟩)⟩⟩
theorem Cg{f:FuncId}{xs:Array Operand}{ats:Array TypeId}{vs:List SV}{id:Nat}{D:Dat}{ys:List Value}(rd:List Nat)(_hd:o.dst=some id)(ho:o.op= .call {callee:= .value (.func f),args:=xs,argTypes:=ats})(hgd:AR ops o s)
 (hx:xs.toList.map (AC s)=vs)(he: ∀args w,(callFunc f args).run P w= .ok (.enter f args) w)
 (hc: ∀ρ S w,Bw w0 w→RelOn w0.heap.size ρ S w (restr rd s.mem)→Calls P f (SV.cs ρ vs).toArray w fun e w'=> ∃v,e= .returned (.tuple (v::ys).toArray)∧BO w w' v D∧Bw w w'):Ev P ops w0 o s ⟨.tup (.d id::ys.map .v),[(id,.dat D)],[],[id],rd⟩:=
 ⟨by simp[Eff.ok],.inr ⟨hgd,fun ρ S w hb hR=> .inr (.inr ⟨f,(SV.cs ρ vs).toArray,by
  obtain⟨dst,op,type,pos,after,guard⟩:=o;simp only at ho;subst ho;rw[execOp_call_go,Eu,hx,←A3]
  simpa using he (SV.cs ρ vs).toArray w,(hc ρ S w hb hR).mono fun e w' ⟨v,h1,⟨S1,h2,h3⟩,h4⟩=>⟨_,h1,_,_,by
   have:=PR (base:=w0.heap.size) (t:=s.mem) (ρ:=ρ) (S:=S) (val:= .tup (.d id::ys.map .v)) (rd:=rd) (id:=id) h4 h2 h3;simpa[SV.c,SV.cs,JN] using this⟩⟩)⟩⟩
theorem Fb{rd:List Nat}{ρ:Nat→Nm}{S:Nat→Nat→Prop}{w:World}{base:Nat}{m:Mem}{id:Nat}{D:Dat}(hR:RelOn base ρ S w (restr rd m))(hid:id∈rd)(hm:m id=some (.dat D)):D.holds [(ρ id).val] w (S id):=A6 hR hm hid
def AU(j:Nat)(v:Value):Value:=(v.cells[j]?).getD undef
end
end Go.Vx
namespace Go.Vx
open Go.RowKit Go.Toll
section
variable{P:Program}{w0:World}{ops:Array Oper}{o:Oper}{s:VS}
theorem Ct.trans2{s:VS}{B C:(Nat→Value)→VS}(h:Ct w0 s B)(k: ∀f,Ct w0 (B f) (fun _=>C f)):Ct w0 s C:=fun ρ w hr=>by
 obtain⟨f,ρ',h1,h2⟩:=h ρ w hr;obtain⟨_,ρ2,h3,h4⟩:=k f ρ' w h1;exact⟨f,ρ2,h3,h4.trans h2⟩
theorem oJ{ty e:TypeId}{x:Operand}{lo hi:Option Operand}{id id2 b n size:Nat}{l l':List Value}(_hd:o.dst=some id2)(ho:o.op= .slice ty x lo hi none)(hgd:AR ops o s)(hx:AC s x= .d id)(hm:s.mem id=some (.row n size e (.exact l)))
 (hu:P.underlying ty=some (.slice e))(hs: ∀w,(Go.sizeOf e).run P w= .ok size w)
 (hlo:lo=none)(hhi:(match hi with|none=>SV.v (.int .i64 (n:Nat))|some z=>AC s z)= .v (.int .i64 (b:Nat)))(h2:b≤n)(hl:l.take (b*size)=l')(hln:l.length=n*size):
 Ev P ops w0 o s ⟨.d id2,[(id2,.row b size e (.exact l'))],[id],[id2],[id]⟩:=by
 refine⟨by simp[Eff.ok],.inr ⟨hgd,fun ρ S w hb hR=> ?_⟩⟩;have hrun:=Q3 (a:=0) ho hx hu hs (BI hm) (by rw[hlo]) hhi (Nat.zero_le _) h2 ρ S w hb hR;obtain⟨xs,g1,g2,g3⟩:=A6 hR hm (by simp);have g2':xs=l:=g2;subst g2';have hmul:=Nat.mul_le_mul_right size h2
 have hrow:Ey w w0.heap.size ⟨(ρ id).g,As 0 b size (ρ id).val⟩ b size e l':=by
  rcases g3 with⟨h1,h2'⟩|⟨off,cap,cur,fz,h1',h2',h3',h4',h5',h6',h7',h8'⟩
  ·left;subst h2';refine⟨?_,by omega⟩;rw[h1];simp[As];omega
  ·right
   refine⟨off,cap,cur,fz,?_,h2',h3',h4',by omega,h6',h7',?_⟩
   ·rw[h1'];simp only[As,Nat.zero_mul,Nat.sub_zero]
    split<;>simp[Addr.add]
   ·rw[←hl,←h8',List.take_take];congr 1;omega
 have hnil:As 0 b size (ρ id).val≠ .slice none 0 0→(ρ id).val≠ .slice none 0 0:=fun h c=>by
  rcases g3 with⟨_,h0⟩|⟨off,cap,cur,fz,h1',_⟩
  ·apply h;rw[c];simp[As];omega
  ·rw[h1']at c;cases c
 refine .inl ⟨_,w,hrun,fun j=>if j=id2 then⟨(ρ id).g,As 0 b size (ρ id).val⟩else ρ j,fun _ _=>False,?_⟩
 have:=Cu (base:=w0.heap.size) (t:=s.mem) (ρ:=ρ) (S:=S) (w:=w) (w':=w) (val:= .d id2) (rd:=[id]) (up:=[id]) (id:=id2) (b:= .row b size e (.exact l')) (m:=⟨(ρ id).g,As 0 b size (ρ id).val⟩) (S1:=fun _=>False)
  rfl rfl rfl (Nat.le_refl _) (fun k hk _=>rfl) (fun ρ2 h1 _=>⟨l',by rw[←hl,List.length_take,hln];omega,rfl,by rw[h1];exact hrow⟩) (fun _ h=>h.elim)
  (fun hob=> .inl ⟨id,by simp,_,hm,hnil hob,rfl⟩)
 simpa[SV.c] using this
theorem ob{t ti e:TypeId}{x y:Operand}{id2 k:Nat}{z:Value}(_hd:o.dst=some id2)(ho:o.op= .call {callee:= .builtin .append,args:= #[x,y],argTypes:= #[t,ti]})(hgd:AR ops o s)
 (hx:AC s x= .v (.slice none 0 0))(hy:AC s y= .v (.int .i64 (k:Nat)))(ht:P.underlying t=some (.slice e))(hti:P.underlying ti=some (.int .i64))(hI:C2 P e 1 1)(hz: ∀w,(zeroValue e).run P w= .ok z w)(hzc:z.cells= #[z])(hk:0<k)(hb2:k≤140737488355328):
 Ev P ops w0 o s ⟨.d id2,[(id2,.row k 1 e (.exact (List.replicate k z)))],[],[id2],[]⟩:=
 ⟨by simp[Eff.ok],.inr ⟨hgd,fun ρ S w hb hR=>by
  obtain⟨i,z',hi,hz',hsize,hby,hzs⟩:=hI.get;have e1:=AH s ρ x;rw[hx]at e1;have e2:=AH s ρ y;rw[hy]at e2;simp only[SV.c]at e1 e2;have h63:IntKind.i64.wrap (k:Int)=(k:Int):=Af (by omega) (by omega);have hge:=grownCap_ge w k 0 e;have hcm:grownCap w k 0 e≤maxLen:=grownCap_le_maxLen w k 0 e (by simp only[maxLen];omega)
  have hzz:z=z':=by
   have:=hz w;simp[zeroValue,typeInfo,hi,hz']at this;exact this.symm
  subst hzz
  have hzl: ∀m,Builtin.zeroCells #[z] m=(List.replicate m z).toArray:=fun m=>by
   apply Array.ext
   ·simp[Builtin.zeroCells]
   ·intro j h1 h2;simp[Builtin.zeroCells,Nat.mod_one]
  have hr:(Builtin.append_ #[t,ti] o.type #[.slice none 0 0,.int .i64 (k:Nat)]).run P w= .ok (.slice (some ⟨w.heap.size,0,none⟩) k (grownCap w k 0 e)) (w.drew.alloc (.cells (List.replicate k z++List.replicate (grownCap w k 0 e-k) z).toArray e)):=by
   have hn: ¬((k:Int)<0):=by omega
   have h48: ¬((281474976710656:Int)<(k:Int)*(i.bytes:Int)):=by rw[hby];omega
   have h48': ¬(281474976710656<Builtin.nextslicecap k 0*i.bytes):=by rw[nextslicecap_zero hk,hby];omega
   have hk0:k≠0:=by omega
   have h63': ¬(9223372036854775807<(k:Int)):=by omega
   simp[Builtin.append_,run_underlying ht,run_underlying hti,sizeOf,typeInfo,zeroValue,hi,hz',hsize,asInt,asIntOf,h63,hn,h48,h48',hk0,h63',Question.forced,run_firstCells_none,newRow,grownCap,hzc,hzl]
  refine .inl ⟨.slice (some ⟨w.heap.size,0,none⟩) k (grownCap w k 0 e),w.drew.alloc (.cells (List.replicate k z++List.replicate (grownCap w k 0 e-k) z).toArray e),?_,fun j=>if j=id2 then⟨w.heap.size,.slice (some ⟨w.heap.size,0,none⟩) k (grownCap w k 0 e)⟩else ρ j,fun _ _=>False,?_⟩
  ·unfold execOp
   simp only[ho,resolve,invoke,builtin,Sem.run_bind,Sem.run_pure,Result.andThen_ok,List.map_toArray,List.map_cons,List.map_nil,e1,e2,hr]
  ·have hb1:w.heap.size≤(w.drew.alloc (.cells (List.replicate k z++List.replicate (grownCap w k 0 e-k) z).toArray e)).heap.size:=by simp
   have:=GO (t:=s.mem) (ρ:=ρ) (S:=S) (val:= .d id2) (rd:=[]) (id:=id2) (n:=k) (size:=1) (ty:=e) (l:=List.replicate k z) (w:=w) (w':=w.drew.alloc (.cells (List.replicate k z++List.replicate (grownCap w k 0 e-k) z).toArray e)) (v:= .slice (some ⟨w.heap.size,0,none⟩) k (grownCap w k 0 e)) (g:=w.heap.size) hb.size
    ⟨rfl,rfl,rfl,hb1,fun j hj=>heap_alloc_old w.drew _ hj⟩ (by simp) (.inr ⟨0,_,_,(0,0),rfl,Nat.le_refl _,heap_alloc_new w.drew _,.inl rfl,hge,hcm,by simp;omega,by simp⟩)
   simpa[SV.c] using this⟩⟩
theorem PC{m:Mem}{rd rd':List Nat}{x:SV}{n size:Nat}{l:List Value}(h:Rdg w0 m rd x n size l)(hs:rd.all (fun i=>rd'.contains i)=true):Rdg w0 m rd' x n size l:=fun ρ S w hb hR=>by
 refine h ρ S w hb ?_;have:=hR.restr rd
 have e:restr rd (restr rd' m)=restr rd m:=by
  funext j;unfold restr
  by_cases h1:j∈rd
  ·have h2:j∈rd':=by have:=List.all_eq_true.1 hs j h1;simpa using this
   simp[h1,h2]
  ·simp[h1]
 rwa [e]at this
theorem O9{m:Mem}{rd:List Nat}{x:SV}{n size:Nat}{l:List Value}(h:Rdg w0 m rd x n size l){ρ:Nat→Nm}{S:Nat→Nat→Prop}{w:World}(hb:Bw w0 w)(hR:RelOn w0.heap.size ρ S w (restr rd m)):(x.c ρ).cells= #[x.c ρ]:=by
 obtain⟨_,ao,cap,h1,_⟩:=h ρ S w hb hR;rw[h1];rfl
theorem oV{ty e:TypeId}{x0 x1 x2:Operand}{y0 y1 y2:SV}{n0 n1 n2:Nat}{l0 l1 l2:List Value}{id:Nat}(rd:List Nat)(_hd:o.dst=some id)(ho:o.op= .buildSlice ty 3 #[(0,x0),(1,x1),(2,x2)])(hgd:AR ops o s)
 (h0:AC s x0=y0)(h1:AC s x1=y1)(h2:AC s x2=y2)(r0:Rdg w0 s.mem rd y0 n0 1 l0)(r1:Rdg w0 s.mem rd y1 n1 1 l1)(r2:Rdg w0 s.mem rd y2 n2 1 l2)(hid:SV.hasL id [y0,y1,y2]=false)
 (hb: ∀v0 v1 v2 w,v0.cells= #[v0]→v1.cells= #[v1]→v2.cells= #[v2]→(Instr.buildSlice ty 3 #[(0,v0),(1,v1),(2,v2)]).run P w= .ok (.slice (some ⟨w.heap.size,0,none⟩) 3 3) (w.alloc (.cells #[v0,v1,v2] e))):Ev P ops w0 o s ⟨.s id 0 3 3,[(id,.cells [y0,y1,y2] e)],[],[id],rd⟩:=
 ⟨by simp[Eff.ok],.inr ⟨hgd,fun ρ S w hbw hR=>by
  have e0:=AH s ρ x0;have e1:=AH s ρ x1;have e2:=AH s ρ x2;rw[h0]at e0;rw[h1]at e1;rw[h2]at e2;have hrun:=hb _ _ _ w (O9 r0 hbw hR) (O9 r1 hbw hR) (O9 r2 hbw hR);refine .inl ⟨.slice (some ⟨w.heap.size,0,none⟩) 3 3,w.alloc (.cells #[y0.c ρ,y1.c ρ,y2.c ρ] e),?_,fun j=>if j=id then⟨w.heap.size,undef⟩else ρ j,fun _ _=>False,?_⟩
  ·simp only[execOp,ho,List.map_toArray,List.map_cons,List.map_nil,e0,e1,e2]
   rw[Sem.run_bind,hrun];rfl
  ·have:=Cu (base:=w0.heap.size) (t:=s.mem) (ρ:=ρ) (S:=S) (w:=w) (w':=w.alloc (.cells #[y0.c ρ,y1.c ρ,y2.c ρ] e)) (val:= .s id 0 3 3) (rd:=rd) (up:=[]) (id:=id) (b:= .cells [y0,y1,y2] e) (m:=⟨w.heap.size,undef⟩) (S1:=fun _=>False)
    rfl rfl rfl (by simp) (fun k hk _=>heap_alloc_old w _ hk) (fun ρ' g1 g2=>by
     refine⟨by rw[g1];exact hbw.size,?_⟩;rw[g1];simp only[Cb];rw[Ep (nw:=[id]) (fun i hi=>g2 i (by simpa using hi)) (fun i hi=>by simp at hi;rw[hi];exact hid)];exact heap_alloc_new w _) (fun _ h=>h.elim) (fun _=> .inr ⟨Nat.le_refl _,fun h=>h⟩)
   simpa[SV.c] using this⟩⟩
end
end Go.Vx
namespace Go.Vx
open Go.RowKit Go.Toll
section
variable{P:Program}{w0:World}{ops:Array Oper}{o:Oper}{s:VS}
abbrev L8:=Go.Lib.strCells
theorem bU(b:ByteArray):(L8 b).length=b.size:=Go.Lib.strCells_length b
theorem oN{st dt e:TypeId}{x:Operand}{id:Nat}{b:ByteArray}(_hd:o.dst=some id)(ho:o.op= .convert st dt x)(hgd:AR ops o s)(hx:AC s x= .v (.string b))
 (hs:P.underlying st=some .string)(hd:P.underlying dt=some (.slice e))(he:P.underlying e=some (.int .u8))(hm:b.size≤maxLen):Ev P ops w0 o s ⟨.d id,[(id,.row b.size 1 e (.exact (L8 b)))],[],[id],[]⟩:=
 ⟨by simp[Eff.ok],.inr ⟨hgd,fun ρ S w hb hR=>by
  have e1:=AH s ρ x;rw[hx]at e1;simp only[SV.c]at e1;have hr:=run_bytes_of_string (P:=P) w st dt e b hs hd he;obtain⟨C,hC⟩: ∃C,C=bytesRow b (grownCap w b.size 0 e):=⟨_,rfl⟩
  rw[←hC]at hr;refine .inl ⟨.slice (some ⟨w.heap.size,0,none⟩) b.size (grownCap w b.size 0 e),w.drew.alloc (.cells C e (C.size,C.size+1)),?_,fun j=>if j=id then⟨w.heap.size,.slice (some ⟨w.heap.size,0,none⟩) b.size (grownCap w b.size 0 e)⟩else ρ j,fun _ _=>False,?_⟩
  ·simp only[execOp,ho,e1]
   rw[Sem.run_bind,hr];rfl
  ·have hge:=grownCap_ge w b.size 0 e
   have hcm:=grownCap_le_maxLen w b.size 0 e hm;have hlen:=bU b;have hb1:w.heap.size≤(w.drew.alloc (.cells C e (C.size,C.size+1))).heap.size:=by rw[World.size_alloc];exact Nat.le_succ _
   have:=GO (t:=s.mem) (ρ:=ρ) (S:=S) (val:= .d id) (rd:=[]) (id:=id) (n:=b.size) (size:=1) (ty:=e) (l:=L8 b) (w:=w) (w':=w.drew.alloc (.cells C e (C.size,C.size+1))) (v:= .slice (some ⟨w.heap.size,0,none⟩) b.size (grownCap w b.size 0 e)) (g:=w.heap.size) hb.size
    ⟨rfl,rfl,rfl,hb1,fun j hj=>heap_alloc_old w.drew _ hj⟩ (by rw[hlen,Nat.mul_one]) (.inr ⟨0,_,_,_,rfl,Nat.le_refl _,heap_alloc_new w.drew _,.inr rfl,hge,hcm,by have:b.data.size=b.size:=rfl;rw[hC];simp only[bytesRow,Array.size_append,Array.size_map,Array.size_replicate];omega,by
     rw[hC,Nat.mul_one,List.drop_zero];simp only[bytesRow,Array.toList_append,Array.toList_map];rw[←hlen];exact List.take_left⟩)
   simpa[SV.c] using this⟩⟩
theorem JG{ty e:TypeId}{x:Operand}{n id:Nat}{sv:SV}{l:List SV}(rd:List Nat)(_hd:o.dst=some id)(ho:o.op= .buildSlice ty 1 #[(0,x)])(hgd:AR ops o s)
 (hx:AC s x=sv)(hc: ∀ρ S w,RelOn w0.heap.size ρ S w (restr rd s.mem)→(sv.c ρ).cells.toList=SV.cs ρ l)(hn:l.length=n)(hid:SV.hasL id l=false)
 (hb: ∀v w,v.cells.size=n→(Instr.buildSlice ty 1 #[(0,v)]).run P w= .ok (.slice (some ⟨w.heap.size,0,none⟩) 1 1) (w.alloc (.cells v.cells e))):Ev P ops w0 o s ⟨.s id 0 1 1,[(id,.cells l e)],[],[id],rd⟩:=
 ⟨by simp[Eff.ok],.inr ⟨hgd,fun ρ S w hbw hR=>by
  have e0:=AH s ρ x;rw[hx]at e0;have hcs:=hc ρ S w hR;have hln:(SV.cs ρ l).length=n:=by rw[A3,List.length_map];exact hn
  have hsz:(sv.c ρ).cells.size=n:=by rw[←Array.length_toList,hcs,hln]
  have hcells:(sv.c ρ).cells=(SV.cs ρ l).toArray:=by apply Array.ext';rw[hcs]
  have hrun:=hb _ w hsz;rw[hcells]at hrun;refine .inl ⟨.slice (some ⟨w.heap.size,0,none⟩) 1 1,w.alloc (.cells (SV.cs ρ l).toArray e),?_,fun j=>if j=id then⟨w.heap.size,undef⟩else ρ j,fun _ _=>False,?_⟩
  ·simp only[execOp,ho,List.map_toArray,List.map_cons,List.map_nil,e0]
   rw[Sem.run_bind,hrun];rfl
  ·have:=Cu (base:=w0.heap.size) (t:=s.mem) (ρ:=ρ) (S:=S) (w:=w) (w':=w.alloc (.cells (SV.cs ρ l).toArray e)) (val:= .s id 0 1 1) (rd:=rd) (up:=[]) (id:=id) (b:= .cells l e) (m:=⟨w.heap.size,undef⟩) (S1:=fun _=>False)
    rfl rfl rfl (by simp) (fun k hk _=>heap_alloc_old w _ hk) (fun ρ' g1 g2=>by
     refine⟨by rw[g1];exact hbw.size,?_⟩;rw[g1];simp only[Cb];rw[Ep (nw:=[id]) (fun i hi=>g2 i (by simpa using hi)) (fun i hi=>by simp at hi;rw[hi];exact hid)];exact heap_alloc_new w _) (fun _ h=>h.elim) (fun _=> .inr ⟨Nat.le_refl _,fun h=>h⟩)
   simpa[SV.c] using this⟩⟩
theorem XV{t e:TypeId}{x y:Operand}{id id2 ys n k k' size bytes:Nat}{l:List SV}{bt:TypeId}{D:Dat}(D':Dat)(rd:List Nat)(_hd:o.dst=some id2)(ho:o.op= .call {callee:= .builtin .append,args:= #[x,y],argTypes:= #[t,t]})(hgd:AR ops o s)
 (hx:AC s x= .d id)(hm:s.mem id=some (.row n size e D))(hy:AC s y= .s ys 0 k k')(hmy:s.mem ys=some (.cells l bt))(hl:l.length=k*size)(hkk:k≤k')
 (ht:P.underlying t=some (.slice e))(hI:C2 P e size bytes)(hsz:0<size)(h63:n+k≤maxLen)(hbytes:(n+k)*bytes≤140737488355328)(hid:id∈rd)(hys:ys∈rd)
 (h1: ∀ρ S w,RelOn w0.heap.size ρ S w (restr rd s.mem)→(SV.cs ρ l).all (·.oneCell')=true)
 (hD: ∀ρ S w xs,Bw w0 w→RelOn w0.heap.size ρ S w (restr rd s.mem)→D.holds xs w (S id)→D'.holds (xs++SV.cs ρ l) w (fun k=> ∃j∈rd,(s.mem j).isSome∧S j k)):
 Ev P ops w0 o s ⟨.d id2,[(id2,.row (n+k) size e D')],[id],[id2],rd⟩:=
 ⟨by simp[Eff.ok,hid],.inr ⟨hgd,fun ρ S w hb hR=>by
  obtain⟨i,z,hi,hz,hsize,hby,hzs⟩:=hI.get;obtain⟨xs,g1,g2,g3⟩:=A6 hR hm hid;have hcy:=(A6 hR hmy hys).2;have hlen:(SV.cs ρ l).length=k*size:=by rw[A3,List.length_map];exact hl
  have hsl:AJ w (.slice (some ⟨(ρ ys).g,0,none⟩) k k') k size (SV.cs ρ l) (fun j=>j=(ρ ys).g):=by
   refine⟨_,_,rfl,hkk,hlen,.inr ⟨_,rfl,rfl,fun i x hx=> ?_⟩⟩;rw[A3,List.getElem?_map]at hx;cases h:l[i]? with
   |none=>rw[h]at hx;cases hx
   |some y=>rw[h]at hx;simp only[Option.map_some,Option.some.injEq]at hx;rw[←hx,BX,Nat.zero_add];exact ET hcy h
  obtain⟨v',g',w',r1,r2,r3,r4,r5,r6,r7,r8⟩:=TE (P:=P) hb.size t o.type e i z size bytes ht hi hz hsize hby hzs hsz g3 g1 hsl (fun u hu=>List.all_eq_true.1 (h1 ρ S w hR) u hu) h63 hbytes;have hin: ∀j,j∈rd→restr rd s.mem j=s.mem j:=fun j hj=>by unfold restr;rw[if_pos hj]
  have hlt: ∀j,(∃q∈rd,(s.mem q).isSome∧S q j)→j<w.heap.size:=fun j ⟨q,h1,h2,h3⟩=>hR.lt q j (by rw[hin q h1];exact h2) h3
  have hD':=hD ρ S w xs hb hR g2
  have hD2:D'.holds (xs++SV.cs ρ l) w' (fun k=> ∃j∈rd,(s.mem j).isSome∧S j k):=D'.keep hD' fun j hj=>r7 j (hlt j hj) fun hv eg=>by
   obtain⟨q,q1,q2,q3⟩:=hj;exact hR.dis id (.row n size e D) q (by rw[hin id hid];exact hm) hv (by rw[hin q q1];exact q2) (eg▸q3)
  refine .inl ⟨v',w',?_,fun j=>if j=id2 then⟨g',v'⟩else ρ j,fun _ k=> ∃j∈rd,(s.mem j).isSome∧S j k,?_⟩
  ·have e1:=AH s ρ x
   rw[hx]at e1;have e2:=AH s ρ y;rw[hy]at e2;simp only[SV.c]at e1 e2;unfold execOp;simp only[ho,resolve,invoke,builtin,Sem.run_bind,Sem.run_pure,Result.andThen_ok,List.map_toArray,List.map_cons,List.map_nil,e1,e2,r1]
  ·have:=Cu (base:=w0.heap.size) (t:=s.mem) (ρ:=ρ) (S:=S) (w:=w) (w':=w') (val:= .d id2) (rd:=rd) (up:=[id]) (id:=id2) (b:= .row (n+k) size e D') (m:=⟨g',v'⟩) (S1:=fun k=> ∃j∈rd,(s.mem j).isSome∧S j k)
    r3 r4 r5 r6 (fun j hj hk=>r7 j hj fun hv=>hk id (by simp) _ hm hv) (fun ρ' h1 _=>⟨_,by rw[List.length_append,g1,hlen,Nat.add_mul],hD2,by rw[h1];exact r2⟩) (fun _ h=> .inl h)
    (fun hob=>(r8 hob).imp (fun⟨a,b⟩=>⟨id,by simp,_,hm,a,b⟩) (fun a=>⟨a,fun h=>Nat.lt_irrefl _ (Nat.lt_of_lt_of_le (hlt _ h) a)⟩))
   simpa[SV.c] using this⟩⟩
theorem Hm{ty:TypeId}{x y:Operand}{a c:Value}{sy:SV}{n size:Nat}{l:List Value}{rd:List Nat}(ho:o.op= .build ty #[(0,x),(1,y)])(hgd:AR ops o s)
 (hx:AC s x= .v a)(hy:AC s y=sy)(hr:Rdg w0 s.mem rd sy n size l)(hb: ∀p m q,P.built ty [(0,a),(1,.slice p m q)]=some #[a,.slice p m q,c]):Ev P ops w0 o s ⟨.agg [.v a,sy,.v c],[],[],[],rd⟩:=
 Ev.run _ _ hgd fun ρ S w hbw hR=>by
  have e0:=AH s ρ x;rw[hx]at e0;have e1:=AH s ρ y;rw[hy]at e1;obtain⟨_,ao,cap,h1,_⟩:=hr ρ S w hbw hR;rw[h1]at e1;simp only[execOp,ho,List.map_toArray,List.map_cons,List.map_nil,e0,e1,SV.c];rw[Sem.run_bind,run_build w ty _ #[a,.slice ao n cap,c] (hb _ _ _)];simp[SV.c,SV.cs,h1]
theorem BN{p ty id off n:Nat}{l:List SV}{bt:TypeId}{d:TypeDesc}(h:AC s (.tmp p)= .p id off)(hm:s.mem id=some (.cells l bt))(hu:P.underlying ty=some d)(hd:Bc d=true)(hs: ∀w,(Go.sizeOf ty).run P w= .ok n w)
 (hl:((l.drop off).take n).length=n):RV P w0 s (.cell p ty) (.agg ((l.drop off).take n)):=fun ρ w hw=>by
 obtain⟨_,_,hb⟩:=J4 hw hm
 have hl':(loadCells ⟨(ρ id).g,off,none⟩ (SV.cs ρ ((l.drop off).take n)).length).run P w= .ok (SV.cs ρ ((l.drop off).take n)).toArray w:=run_loadCells_list w _ _ fun j v hj=>by
  rw[BX];rw[A3,List.getElem?_map]at hj;cases h2:((l.drop off).take n)[j]? with
  |none=>rw[h2]at hj;cases hj
  |some y=>
   rw[h2]at hj;simp only[Option.map_some,Option.some.injEq]at hj;subst hj
   have h3:l[off+j]? =some y:=by
    rw[List.getElem?_take]at h2;split at h2
    ·rwa [List.getElem?_drop]at h2
    ·cases h2
   exact ET hb h3
 have hln:(SV.cs ρ ((l.drop off).take n)).length=n:=by rw[A3,List.length_map];exact hl
 rw[hln]at hl';simp only[C6,FJ,h,SV.c];simp[asAddr,loadVar,Bu hu,hd,hs,hl']
theorem qL{ρ:Nat→Nm}{id n:Nat}(h:((ρ id).val).cells.size=n):((ρ id).val).cells.toList=SV.cs ρ ((List.range n).map fun j=>SV.fn (AU j) (.d id)):=by
 rw[A3,List.map_map];apply List.ext_getElem?;intro j;rw[List.getElem?_map];by_cases hj:j<n
 ·rw[List.getElem?_range hj]
  simp only[Option.map_some,Function.comp,SV.c,AU];have hj':j<((ρ id).val).cells.size:=by omega
  rw[Array.getElem?_toList,Array.getElem?_eq_getElem hj'];rfl
 ·rw[List.getElem?_eq_none (by simp;omega),List.getElem?_eq_none (by simp;omega)]
  rfl
theorem Az{ty:TypeId}{x y:Operand}{id off n:Nat}{l vl:List SV}{bt:TypeId}{v:SV}(rd:List Nat)(ho:o.op= .store ty x y)(hgd:AR ops o s)(hx:AC s x= .p id off)(hm:s.mem id=some (.cells l bt))(hy:AC s y=v)
 (hs: ∀w,(Go.sizeOf ty).run P w= .ok n w)(hid:rd.contains id=true)(hc: ∀ρ S w,Bw w0 w→RelOn w0.heap.size ρ S w (restr rd s.mem)→(v.c ρ).cells.toList=SV.cs ρ vl∧(SV.cs ρ vl).all (·.oneCell')=true)(hn:vl.length=n)(hfit:off+n≤l.length):
 Ev P ops w0 o s ⟨.v undef,[(id,.cells (l.take off++vl++l.drop (off+n)) bt)],[id],[],rd⟩:=
 Ev.wr id _ _ _ _ hgd hm hid (fun _=>by simp[SV.c]) fun ρ S w hb hR=>by
  have e1:=AH s ρ x;rw[hx]at e1;have e2:=AH s ρ y;rw[hy]at e2;have hin:id∈rd:=by simpa using hid
  obtain⟨hg0,hg⟩:=A6 hR hm hin;obtain⟨hc1,hc2⟩:=hc ρ S w hb hR;have hlen:(SV.cs ρ vl).length=n:=by rw[A3,List.length_map];exact hn
  have hst:=run_storeCells_at P (ρ id).g off bt (SV.cs ρ vl) 0 (SV.cs ρ l).toArray w hg (by rw[hlen];simp[A3];omega) (fun u hu=>List.all_eq_true.1 hc2 u hu);have hsz:(v.c ρ).cells.size=n:=by rw[←Array.length_toList,hc1,hlen]
  refine⟨True.intro,w.setRow (ρ id).g ((SV.cs ρ l).toArray.toList.take (off+0)++SV.cs ρ vl++(SV.cs ρ l).toArray.toList.drop (off+0+(SV.cs ρ vl).length)).toArray,?_,⟨rfl,rfl,rfl,by simp,fun k hk=>setRow_other w _ k _ hk⟩,hg0,?_⟩
  ·simp only[execOp,ho,e1,e2,SV.c,Instr.storeAt,Instr.sureAddr,storeVar]
   rw[Sem.run_bind,Sem.run_bind,Sem.run_pure,Result.andThen_ok,Sem.run_bind,hs,Result.andThen_ok,if_neg (by rw[hsz];simp),hc1,hst];rfl
  ·rw[setRow_heap w (ρ id).g _ _ _ _ hg]
   simp[Cb,A3,hn,List.map_take,List.map_drop]
theorem Le{fr:List SV}{a b:Nat×Blk}{m:List (Nat×Blk)}(h:a.1≠b.1):Ct w0 ⟨fr,AK (a::b::m)⟩ (fun _=>⟨fr,AK (b::a::m)⟩):=
 OF (fun _=>undef) (by
  congr 1
  funext k
  simp only[AK];by_cases h1:k=a.1
  ·rw[if_pos h1,if_neg (by rw[h1];exact h),if_pos h1]
  ·rw[if_neg h1,if_neg h1])
theorem CO{w:World}{base:Nat}{ρ:Nat→Nm}{S:Nat→Nat→Prop}{m:Mem}{rd:List Nat}{id n size:Nat}{ty:TypeId}{D:Dat}(hR:RelOn base ρ S w (restr rd m))(hid:id∈rd)(hm:m id=some (.row n size ty D)):((ρ id).val).cells.toList=[(ρ id).val]∧((ρ id).val).oneCell'=true:=by
 obtain⟨xs,_,_,h⟩:=A6 hR hm hid;rcases h with⟨h,_⟩|⟨off,cap,cur,fz,h,_⟩
 ·rw[h];exact⟨rfl,rfl⟩
 ·rw[h];exact⟨rfl,rfl⟩
end
def fv(f:Nat→Value):Nat→Nat→List SV→List SV
 |0,_,l=>l
 |n+1,k,l=> .v (f k)::fv f n (k+1) l
def zs:Nat→List SV
 |0=>[]
 |n+1=> .v (.int .u8 0)::zs n
end Go.Vx
end
namespace Go.Proofs.YtefpajmkaaielaaGreatDoor
open Go.RowKit Go.Vx
variable{ops:Array Oper}{id:Nat}{o:Oper}{P:Program}{A B Q:Prop}{w0:World}
abbrev CBy(k:FuncId)(a:Array Value)(w:World)(v:Value):Prop:=Calls prog k a w fun e w'=>e= .returned v∧Bw w w'
abbrev CDy(k:FuncId)(a:Array Value)(w:World)(D:Dat):Prop:=Calls prog k a w fun e w'=>∃v,e= .returned v∧BO w w' v D∧Bw w w'
abbrev CRy(k:FuncId)(a:Array Value)(w:World)(n:Nat)(l:List Value):Prop:=Calls prog k a w fun e w'=>∃v,e= .returned v∧BJ w w' v n 1 5 l∧Bw w w'
abbrev dsc{t:TypeId}{d:TypeDesc}(_:prog.underlying t=some d):TypeDesc:=d
class UndT (t:TypeId) (d:outParam TypeDesc):Prop where
 h:prog.underlying t=some d
class SizT (t:TypeId) (n:outParam Nat):Prop where
 h: ∀w,(Go.sizeOf t).run prog w= .ok n w
instance:UndT 3 (dsc underlying3):=⟨underlying3⟩
instance:UndT 4 (dsc underlying4):=⟨underlying4⟩
instance:UndT 5 (dsc underlying5):=⟨underlying5⟩
instance:UndT 9 (dsc underlying9):=⟨underlying9⟩
instance:UndT 25 (dsc underlying25):=⟨underlying25⟩
instance:UndT 26 (dsc underlying26):=⟨underlying26⟩
instance:UndT 28 (dsc underlying28):=⟨underlying28⟩
instance:UndT 32 (dsc underlying32):=⟨underlying32⟩
instance:UndT 42 (dsc underlying42):=⟨underlying42⟩
instance:UndT 46 (dsc underlying46):=⟨underlying46⟩
instance:UndT 63 (dsc underlying63):=⟨underlying63⟩
instance:UndT 87 (dsc underlying87):=⟨underlying87⟩
instance:UndT 96 (dsc underlying96):=⟨underlying96⟩
instance:UndT 106 (dsc underlying106):=⟨underlying106⟩
instance:UndT 108 (dsc underlying108):=⟨underlying108⟩
instance:UndT 187 (dsc underlying187):=⟨underlying187⟩
instance:UndT 188 (dsc underlying188):=⟨underlying188⟩
instance:UndT 190 (dsc underlying190):=⟨underlying190⟩
instance:SizT 3 1:=⟨sizeOf3⟩
instance:SizT 4 1:=⟨sizeOf4⟩
instance:SizT 5 1:=⟨sizeOf5⟩
instance:SizT 9 1:=⟨sizeOf9⟩
instance:SizT 25 8:=⟨sizeOf25⟩
instance:SizT 26 1:=⟨sizeOf26⟩
instance:SizT 28 9:=⟨sizeOf28⟩
instance:SizT 32 1:=⟨sizeOf32⟩
instance:SizT 42 4:=⟨sizeOf42⟩
instance:SizT 46 32:=⟨sizeOf46⟩
instance:SizT 63 64:=⟨sizeOf63⟩
instance:SizT 87 64:=⟨sizeOf87⟩
instance:SizT 96 4:=⟨sizeOf96⟩
instance:SizT 106 1:=⟨sizeOf106⟩
instance:SizT 108 3:=⟨sizeOf108⟩
instance:SizT 188 8:=⟨sizeOf188⟩
def k_K(P:Program)(ops:Array Oper)(w0:World)(l:List Oper)(s:VS)(R:List Eff→VS→Prop):Prop:= ∃E s',VE P ops w0 l E s s'∧R E s'
theorem k_n{s:VS}{R:List Eff→VS→Prop}(h:R [] s):k_K P ops w0 [] s R:=⟨[],s,.nil s,h⟩
theorem k_c{l:List Oper}{s s1:VS}{e:Eff}{R:List Eff→VS→Prop}(h:Ev P ops w0 o s e)(hs:s.put o.dst e=s1)(r:k_K P ops w0 l s1 (fun E s'=>R (e::E) s')):k_K P ops w0 (o::l) s R:=by
 subst hs;obtain⟨E,s',h1,h2⟩:=r;exact⟨_,_,.cons h h1,h2⟩
theorem k_p{l:List Oper}{fr:List SV}{m:List (Nat×Blk)}{Q:Exit→VS→Prop}(h:k_K P l.toArray w0 l ⟨fr,AK m⟩ fun E s'=>(l.all (fun o=> !Dg o.op) && Co E && Ej fr m E)=true∧Q .normal s'):VOk P w0 ⟨fr,AK m⟩ (.region id l.toArray false) Q:=by
 obtain⟨E,s',h1,h2,h3⟩:=h;exact vrp h1 h2 h3
theorem k_d{l:List Oper}{fr:List SV}{m:List (Nat×Blk)}{Q:Exit→VS→Prop}(hm:P.follows .mixedOrders=true)(h:k_K P l.toArray w0 l ⟨fr,AK m⟩ fun E s'=>(veB l.toArray l E && Ej fr m E)=true∧Q .normal s'):VOk P w0 ⟨fr,AK m⟩ (.region id l.toArray true) Q:=by
 obtain⟨E,s',h1,h2,h3⟩:=h;exact vrd hm h1 h2 h3
theorem k_s{l:List Oper}{s s1:VS}{e:Eff}{R:List Eff→VS→Prop}(h:Ev P ops w0 o s e)(r:k_K P ops w0 l s1 (fun E s'=>R (e::E) s'))(hs:s.put o.dst e=s1:=by first|(simp only[nm,seval];exact rfl)|exact rfl):k_K P ops w0 (o::l) s R:=k_c h hs r
theorem k_i{l:List Oper}{s s1:VS}{e:Eff}{R:List Eff→VS→Prop}(h:Ev P ops w0 o s e)(hb:B→k_K P ops w0 l s1 (fun E s'=>R (e::E) s'))(hs:s.put o.dst e=s1:=by first|(simp only[nm,seval];exact rfl)|exact rfl):B→k_K P ops w0 (o::l) s R:=fun b=>k_c h hs (hb b)
theorem AB{l:List Oper}{s s1:VS}{e:Eff}{R:List Eff→VS→Prop}(h:Ev P ops w0 o s e)(r:k_K P ops w0 l s1 (fun E s'=>R (e::E) s'))(hs:s.put o.dst e=s1:=by first|(simp only[nmx,seval];exact rfl)|exact rfl):k_K P ops w0 (o::l) s R:=k_c h hs r
theorem AP{l:List Oper}{s s1:VS}{e:Eff}{R:List Eff→VS→Prop}(h:Ev P ops w0 o s e)(hb:B→k_K P ops w0 l s1 (fun E s'=>R (e::E) s'))(hs:s.put o.dst e=s1:=by first|(simp only[nmx,seval];exact rfl)|exact rfl):B→k_K P ops w0 (o::l) s R:=fun b=>k_c h hs (hb b)
theorem k_1(b:B)(c:B→A:=by exact AP (by first|exact JF (a:=1) (k:=1) (p:=fun xs=>xs.take 1=List.replicate 1 (Value.int .u8 1)) (q:=fun xs=>xs.take 2=List.replicate 2 (Value.int .u8 1)) (news:=List.replicate 1 (.int .u8 1)) rfl gg rfl (.inr rfl) rfl rfl (J6 rfl (fun xs h _=>by rw[List.drop_zero];exact h) (by decide) (by decide) rfl) underlying26 FI (by decide) (by decide) (by decide) (fun xs h hx=>K3 (by omega) h)|exact JF (a:=2) (k:=2) (p:=fun xs=>xs.take 2=List.replicate 2 (Value.int .u8 1)) (q:=fun xs=>xs.take 4=List.replicate 4 (Value.int .u8 1)) (news:=List.replicate 2 (.int .u8 1)) rfl gg rfl (.inr rfl) rfl rfl (J6 rfl (fun xs h _=>by rw[List.drop_zero];exact h) (by decide) (by decide) rfl) underlying26 FI (by decide) (by decide) (by decide) (fun xs h hx=>K3 (by omega) h)|exact JF (a:=4) (k:=4) (p:=fun xs=>xs.take 4=List.replicate 4 (Value.int .u8 1)) (q:=fun xs=>xs.take 8=List.replicate 8 (Value.int .u8 1)) (news:=List.replicate 4 (.int .u8 1)) rfl gg rfl (.inr rfl) rfl rfl (J6 rfl (fun xs h _=>by rw[List.drop_zero];exact h) (by decide) (by decide) rfl) underlying26 FI (by decide) (by decide) (by decide) (fun xs h hx=>K3 (by omega) h)|exact JF (a:=8) (k:=8) (p:=fun xs=>xs.take 8=List.replicate 8 (Value.int .u8 1)) (q:=fun xs=>xs.take 16=List.replicate 16 (Value.int .u8 1)) (news:=List.replicate 8 (.int .u8 1)) rfl gg rfl (.inr rfl) rfl rfl (J6 rfl (fun xs h _=>by rw[List.drop_zero];exact h) (by decide) (by decide) rfl) underlying26 FI (by decide) (by decide) (by decide) (fun xs h hx=>K3 (by omega) h)|exact JF (a:=16) (k:=16) (p:=fun xs=>xs.take 16=List.replicate 16 (Value.int .u8 1)) (q:=fun xs=>xs.take 32=List.replicate 32 (Value.int .u8 1)) (news:=List.replicate 16 (.int .u8 1)) rfl gg rfl (.inr rfl) rfl rfl (J6 rfl (fun xs h _=>by rw[List.drop_zero];exact h) (by decide) (by decide) rfl) underlying26 FI (by decide) (by decide) (by decide) (fun xs h hx=>K3 (by omega) h)) id):A:=c b
theorem k_3(b:B)(c:B→A:=by exact k_i (by first|exact Ev.skip (fun _=>rfl)|refine El (fun _=>rfl) (fun ρ w=>by simp only[VS.act,SV.c,List.map_cons,List.map_nil];go_simp;exact rfl) (fun _ _=>rfl)) id):A:=c b
theorem k_6(b:B)(c:B→A:=by exact k_i (by first|exact EA (l':=OL (F++[(X>>>24).toNat %256])) rfl gg rfl rfl rfl sizeOf5 rfl (by rw[EU (by first|omega|(simp;omega))];omega) rfl (OA _ (by first|omega|(simp;omega)) (by first|omega|(simp;omega)))|exact EA (l':=OL (F++[(X>>>24).toNat %256]++[(X>>>16).toNat %256])) rfl gg rfl rfl rfl sizeOf5 rfl (by rw[EU (by first|omega|(simp;omega))];omega) rfl (OA _ (by first|omega|(simp;omega)) (by first|omega|(simp;omega)))|exact EA (l':=OL (F++[(X>>>24).toNat %256]++[(X>>>16).toNat %256]++[(X>>>8).toNat %256])) rfl gg rfl rfl rfl sizeOf5 rfl (by rw[EU (by first|omega|(simp;omega))];omega) rfl (OA _ (by first|omega|(simp;omega)) (by first|omega|(simp;omega)))|exact EA (l':=OL (F++[(X>>>24).toNat %256]++[(X>>>16).toNat %256]++[(X>>>8).toNat %256]++[X.toNat %256])) rfl gg rfl rfl rfl sizeOf5 rfl (by rw[EU (by first|omega|(simp;omega))];omega) rfl (OA _ (by first|omega|(simp;omega)) (by first|omega|(simp;omega)))) id):A:=c b
theorem k_8(b:B)(c:B→A:=by exact k_i (by first|exact Be rfl gg rfl rfl rfl sizeOf108 rfl (by simp) rfl|exact Az (vl:=[.fn (AU 0) (.d 13),.fn (AU 1) (.d 13),.fn (AU 2) (.d 13)]) [4,13] rfl gg rfl rfl rfl sizeOf108 rfl (fun ρ S w' _ hR=>by obtain⟨c,h1,h2⟩:=CY (id:=13) hR (by simp) rfl;have hf:=fn3 h1 (CM h2);exact⟨hf.1,hf.2▸FR h2⟩) rfl (by simp)|exact Az (vl:=[.fn (AU 0) (.d 13),.fn (AU 1) (.d 13),.fn (AU 2) (.d 13)]) [2,13] rfl gg rfl rfl rfl sizeOf108 rfl (fun ρ S w' _ hR=>by obtain⟨c,h1,h2⟩:=CY (id:=13) hR (by simp) rfl;have hf:=fn3 h1 (CM h2);exact⟨CG _,hf.2▸FR h2⟩) rfl (by simp)) id):A:=c b
theorem k_9(b:B)(c:B→A:=by exact AP (by refine El gg (fun ρ w=>by simp only[VS.act,SV.c,List.map_cons,List.map_nil];go_simp;exact rfl) (fun _ _=>rfl)) id):A:=c b
theorem Kt(b:B)(c:B→A:=by exact AP (by first|exact FL (a:=1) (b:=32) rfl gg rfl rfl underlying26 sizeOf5 (by decide) rfl rfl (by decide) (by decide)|exact FL (a:=2) (b:=32) rfl gg rfl rfl underlying26 sizeOf5 (by decide) rfl rfl (by decide) (by decide)|exact FL (a:=4) (b:=32) rfl gg rfl rfl underlying26 sizeOf5 (by decide) rfl rfl (by decide) (by decide)|exact FL (a:=8) (b:=32) rfl gg rfl rfl underlying26 sizeOf5 (by decide) rfl rfl (by decide) (by decide)|exact FL (a:=16) (b:=32) rfl gg rfl rfl underlying26 sizeOf5 (by decide) rfl rfl (by decide) (by decide)) id):A:=c b
theorem Ks(b:B)(c:B→A:=by exact AP (by first|exact FL (a:=0) (b:=1) rfl gg rfl rfl underlying26 sizeOf5 (by decide) rfl rfl (by decide) (by decide)|exact FL (a:=0) (b:=2) rfl gg rfl rfl underlying26 sizeOf5 (by decide) rfl rfl (by decide) (by decide)|exact FL (a:=0) (b:=4) rfl gg rfl rfl underlying26 sizeOf5 (by decide) rfl rfl (by decide) (by decide)|exact FL (a:=0) (b:=8) rfl gg rfl rfl underlying26 sizeOf5 (by decide) rfl rfl (by decide) (by decide)|exact FL (a:=0) (b:=16) rfl gg rfl rfl underlying26 sizeOf5 (by decide) rfl rfl (by decide) (by decide)) id):A:=c b
theorem DX(b:B)(c:B→A:=by exact k_i (by first|exact Gk rfl gg rfl rfl underlying188 sizeOf187 (by decide) (by decide)|exact Gj rfl gg rfl rfl underlying188 sizeOf187 (by decide) (by decide)) id):A:=c b
theorem M2(b:B)(c:B→A:=by exact k_i (by first|exact Be rfl gg rfl rfl rfl sizeOf108 rfl (by simp) rfl|exact Az (vl:=[.fn (AU 0) (.d 67),.fn (AU 1) (.d 67),.fn (AU 2) (.d 67)]) [13,67] rfl gg rfl rfl rfl sizeOf108 rfl (fun ρ S w' _ hR=>by obtain⟨c,h1,h2⟩:=CY (id:=67) hR (by simp) rfl;have hf:=fn3 h1 (CM h2);exact⟨hf.1,hf.2▸FR h2⟩) rfl (by simp)|exact Az (vl:=[.v (.int .i64 (tg:Nat)),.v (.slice none 0 0),.d 900]) [4,900] rfl gg rfl rfl rfl sizeOf108 rfl (fun ρ S w' _ hR=>⟨CG _,by have hh:=CO (id:=900) hR (by simp) rfl;simp only[SV.cs,SV.c,List.all_cons,List.all_nil,hh.2];rfl⟩) rfl (by simp)) id):A:=c b
theorem DW(b:B)(c:B→A:=by exact AP (by first|exact Ev.skip (fun _=>rfl)|refine El (fun _=>rfl) (fun ρ w=>by simp only[VS.act,SV.c,List.map_cons,List.map_nil];go_simp;exact rfl) (fun _ _=>rfl)) id):A:=c b
theorem lA(b:B)(c:B→A:=by exact k_i (by first|exact Cl rfl gg rfl rfl underlying3 rfl rfl|exact Ck rfl gg rfl underlying3 rfl (by assumption)) id):A:=c b
theorem DV(b:B)(c:B→A:=by exact k_i (by first|exact Cl rfl gg rfl rfl underlying187 rfl rfl|exact Ck rfl gg rfl underlying187 rfl (by assumption)) id):A:=c b
theorem Kl(b:B)(c:B→A:=by exact AP (by first|exact A2 (a:=1) (b:=1) (c:=2) rfl gg rfl rfl (by decide)|exact A2 (a:=2) (b:=2) (c:=4) rfl gg rfl rfl (by decide)|exact A2 (a:=4) (b:=4) (c:=8) rfl gg rfl rfl (by decide)|exact A2 (a:=8) (b:=8) (c:=16) rfl gg rfl rfl (by decide)|exact A2 (a:=16) (b:=16) (c:=32) rfl gg rfl rfl (by decide)) id):A:=c b
theorem Kk(b:B)(c:B→A:=by exact AP (by first|exact Hk (a:=1) (b:=32) (c:=1) rfl gg rfl rfl rfl|exact Hk (a:=2) (b:=32) (c:=2) rfl gg rfl rfl rfl|exact Hk (a:=4) (b:=32) (c:=4) rfl gg rfl rfl rfl|exact Hk (a:=8) (b:=32) (c:=8) rfl gg rfl rfl rfl|exact Hk (a:=16) (b:=32) (c:=16) rfl gg rfl rfl rfl) id):A:=c b
theorem Vy(b:B)(c:B→A:=by exact k_i (by first|exact EA (l':=(sha ([I].flatten++ls.flatten)).map b8) rfl gg rfl rfl rfl sizeOf46 (by simp[Value.cells,sha_len]) (by rw[EU (by simp)];decide) (by show((sha ([I].flatten++ls.flatten)).map b8).toArray.toList.all _=true;exact DG _) (by rw[List.take_zero,List.nil_append,List.drop_of_length_le (by rw[EU (by simp)];decide),List.append_nil];simp[Value.cells])|exact EA (l':=(sha [O,sha ([I].flatten++ls.flatten)].flatten).map b8) rfl gg rfl rfl rfl sizeOf46 (by simp[Value.cells,sha_len]) (by rw[EU (by simp)];decide) (by show((sha [O,sha ([I].flatten++ls.flatten)].flatten).map b8).toArray.toList.all _=true;exact DG _) (by rw[List.take_zero,List.nil_append,List.drop_of_length_le (by rw[EU (by simp)];decide),List.append_nil];simp[Value.cells])) id):A:=c b
theorem Hb(b:B)(c:B→A:=by exact k_i (by first|exact Ev.skip (fun _=>rfl)|exact Bf (p:=false) rfl (fun _=>rfl) rfl rfl (decide_eq_false (by omega))) id):A:=c b
theorem FG(b:B)(c:B→A:=by exact k_i (by exact A2 (c:=((i+1:Nat):Int)) rfl gg rfl rfl (by rw[Af (by omega) (by omega)];omega)) id):A:=c b
theorem CQ(b:B)(c:B→A:=by exact k_i (by exact BM rfl gg rfl underlying26 (AW hv)) id):A:=c b
theorem P8(b:B)(c:B→A:=by exact AP (by exact JH (ys:=[.s 9 0 32 32]) (size:=1) (l:=[.s 9 0 32 32]) (ls:=[[.s 9 0 32 32]]) [] rfl rfl gg rfl rfl rfl (fun ρ S w' hb hR j y lj hy hl=>by rcases j with _|j<;>simp only[List.getElem?_cons_zero,List.getElem?_cons_succ,List.getElem?_nil,Option.some.injEq,reduceCtorEq]at hy hl<;>(subst hy hl;first|exact UG)) (by simp) rfl rfl underlying32 (by kernel_rfl) (by kernel_rfl) (by decide) (by decide)) id):A:=c b
theorem Mv(b:B)(c:B→A:=by exact k_i (by first|exact Cl rfl gg rfl rfl underlying26 rfl rfl|exact Ck rfl gg rfl underlying26 rfl (by assumption)) id):A:=c b
theorem Vw(b:B)(c:B→A:=by exact AP (by exact JH (ys:=[.s 9 0 32 32,.d 32,.s 2 0 32 32,.s 7 0 32 32]) (size:=1) (l:=[.s 9 0 32 32,.d 32,.s 2 0 32 32,.s 7 0 32 32]) (ls:=[[.s 9 0 32 32],[.d 32],[.s 2 0 32 32],[.s 7 0 32 32]]) [32] rfl rfl gg rfl rfl rfl (fun ρ S w' hb hR j y lj hy hl=>by have h32:=CO (id:=32) hR (by simp) rfl;rcases j with _|_|_|_|j<;>simp only[List.getElem?_cons_zero,List.getElem?_cons_succ,List.getElem?_nil,Option.some.injEq,reduceCtorEq]at hy hl<;>(subst hy hl;first|exact UG|exact h32.1)) (by simp) rfl rfl underlying32 (by kernel_rfl) (by kernel_rfl) (by decide) (by decide)) id):A:=c b
theorem Iw(b:B)(c:B→A:=by exact k_i (by exact A4 (p:=false) rfl gg rfl rfl (decide_eq_false (by simp only[List.length_cons];omega))) id):A:=c b
theorem Kj(b:B)(c:B→A:=by exact k_i (by exact Ah (v:= .tuple #[.int .i64 (tg:Nat),.int .i64 (n:Nat),.int .i64 (k:Nat)]) rfl gg rfl (eo func129) (fun w' hb=>by have:=mt w' (Aa hv hb) h8 hbl;rw[hh]at this;exact this)) id):A:=c b
theorem Eh(b:B)(c:B→A:=by exact k_i (by first|exact Ev.skip (fun _=>rfl)|exact BM rfl (fun _=>rfl) rfl underlying26 (AW hv)) id):A:=c b
theorem D8(b:B)(c:B→A:=by exact AP (by exact Qk rfl gg rfl underlying46 sizeOf5) id):A:=c b
theorem Fi(b:B)(c:B→A:=by exact AP (by first|exact A4 (p:=true) rfl gg rfl rfl (by decide)|exact A4 (p:=false) rfl gg rfl rfl (by decide)) id):A:=c b
theorem Vv(b:B)(c:B→A:=by exact k_i (by exact Cs [32,27,30,900] rfl rfl gg rfl (eo func112) (n:=1+(Am acc.length).length+acc.length) (size:=1) (l:=[b8 (tb t)]++(Am acc.length).map b8++acc.map b8) (by simp;omega) (fun ρ S w' hb hR=>by obtain⟨_,s0⟩:=Jv (id:=27) hR (by simp) rfl;obtain⟨_,s1⟩:=Jv (id:=30) hR (by simp) rfl;obtain⟨_,s2⟩:=Jv (id:=900) hR (by simp) rfl;exact p9 w' (bz (id:=32) hR (by simp) rfl) s0 s1 s2 rfl (DG _) (DG _) (by have:=Q4 acc.length;omega))) id):A:=c b
theorem Vu(b:B)(c:B→A:=by exact k_i (by first|exact Cs [16] rfl rfl gg rfl (eo func94) (n:=(0::AY bs).length) (size:=1) (l:=(0::AY bs).map b8) (by simp) (fun ρ S w' hb hR=>by obtain⟨_,s0⟩:=Jv (id:=16) hR (by simp) rfl;rw[Nat.add_comm]at s0;exact LM (bs:=0::AY bs) w' s0 (by simp;omega))|exact Cs [] rfl rfl gg rfl (eo func94) (n:=(AY bs).length) (size:=1) (l:=(AY bs).map b8) (by simp) (fun ρ S w' hb hR=>LM w' (Aa htv hb) (by omega))) id):A:=c b
theorem Eg(b:B)(c:B→A:=by exact k_i (by exact AN rfl gg rfl rfl (fun w=>uE _ _ _ _ w)) id):A:=c b
theorem Ha(b:B)(c:B→A:=by exact AP (by exact Cg (D:=Fu nn) (ys:=[N nn]) [] rfl rfl gg rfl (eo func38) (fun ρ S w' hb hR=>fP w' (hL.bw hb))) id):A:=c b
theorem HZ(b:B)(c:B→A:=by exact k_i (by first|exact Cn rfl gg rfl underlying190 rfl sizeOf26|exact Cm rfl gg rfl underlying190 rfl sizeOf26) id):A:=c b
theorem HY(b:B)(c:B→A:=by exact k_i (by exact B5 rfl gg rfl underlying5 rfl (AW hv) (rfl)) id):A:=c b
theorem Ki(b:B)(c:B→A:=by exact k_i (by exact Bf (p:=false) rfl gg rfl rfl (decide_eq_false (by omega))) id):A:=c b
theorem Vt(b:B)(c:B→A:=by exact k_i (by first|exact Az (vl:=[.d 29]) [801,29] rfl gg rfl rfl rfl sizeOf26 rfl (fun ρ S w' _ hR=>by have hh:=CO (id:=29) hR (by simp) rfl;exact⟨hh.1,by simp[SV.cs,SV.c,hh.2]⟩) rfl (by simp)|exact Az (vl:=[.d 56]) [801,56] rfl gg rfl rfl rfl sizeOf26 rfl (fun ρ S w' _ hR=>by have hh:=CO (id:=56) hR (by simp) rfl;exact⟨hh.1,by simp[SV.cs,SV.c,hh.2]⟩) rfl (by simp)) id):A:=c b
theorem Mu(b:B)(c:B→A:=by exact k_i (by exact A2 (c:=((k+n:Nat):Int)) rfl gg rfl rfl (by rw[Af (by omega) (by omega)];omega)) id):A:=c b
theorem EM(b:B)(c:B→A:=by exact k_i (by exact BM rfl gg rfl underlying26 (BI rfl)) id):A:=c b
theorem P7(b:B)(c:B→A:=by exact k_i (by first|exact Dw rfl gg rfl rfl underlying188 rfl sizeOf188 rfl rfl|exact CS rfl gg rfl underlying188 rfl sizeOf188 (by assumption) rfl|exact NP rfl gg rfl rfl underlying188 rfl sizeOf188 rfl) id):A:=c b
theorem Gg(b:B)(c:B→A:=by exact AP (by exact NM (a:=32) (b:=64) rfl gg rfl underlying63 sizeOf5 rfl rfl (by decide) (by decide) (by decide)) id):A:=c b
theorem Kh(b:B)(c:B→A:=by exact k_i (by first|exact Ev.skip (fun _=>rfl)|exact CF (c:=((b.length:Int)-(k:Int))) rfl (fun _=>rfl) rfl rfl (by rw[Af (by omega) (by omega)])) id):A:=c b
theorem Iv(b:B)(c:B→A:=by exact AP (by exact NM (a:=0) (b:=32) rfl gg rfl underlying63 sizeOf5 rfl rfl (by decide) (by decide) (by decide)) id):A:=c b
theorem Vs(b:B)(c:B→A:=by exact k_i (by first|exact Be rfl gg rfl rfl rfl sizeOf108 rfl (by simp) rfl|exact Az (vl:=[.v (.int .i64 (tg:Nat)),.d 53,.v (.slice none 0 0)]) [4,53] rfl gg rfl rfl rfl sizeOf108 rfl (fun ρ S w' _ hR=>⟨CG _,by have hh:=CO (id:=53) hR (by simp) rfl;simp only[SV.cs,SV.c,List.all_cons,List.all_nil,hh.2];rfl⟩) rfl (by simp)) id):A:=c b
theorem k9(b:B)(c:B→A:=by exact k_i (by exact BU (k:=1) rfl gg rfl rfl underlying26 sizeOf5 (AW hv) (by simp) (by decide)) id):A:=c b
theorem HX(b:B)(c:B→A:=by exact k_i (by exact Ar (cells:= #[.int .i64 0,.slice none 0 0,.slice none 0 0]) rfl gg rfl rG) id):A:=c b
theorem Mt(b:B)(c:B→A:=by exact k_i (by first|exact Ev.skip (fun _=>rfl)|exact Bf (p:=true) rfl (fun _=>rfl) rfl rfl (decide_eq_true (by omega))) id):A:=c b
theorem C9(b:B)(c:B→A:=by exact AP (by exact A0 (p:=false) rfl gg rfl rfl (by decide)) id):A:=c b
theorem Vr(b:B)(c:B→A:=by exact k_i (by exact Ax (p:=true) rfl gg rfl rfl (by decide)) id):A:=c b
theorem Kg(b:B)(c:B→A:=by exact AP (by exact Ah (v:= .tuple #[PT x y,.int .i64 0]) rfl gg rfl (eo func34) (fun w' hw'=>hrd w' hw')) id):A:=c b
theorem Iu(b:B)(c:B→A:=by exact k_i (by exact A4 (p:=false) rfl gg rfl rfl (decide_eq_false (by omega))) id):A:=c b
theorem Vq(b:B)(c:B→A:=by exact k_i (by first|exact EA (l':=WL (B8 b (i+1))) rfl gg rfl rfl rfl sizeOf187 rfl (by rw[ZL (by rw[row16_len];omega)];omega) rfl (hs1 i (by omega))|exact EA (l':=WL (M++[_])) rfl gg rfl rfl rfl sizeOf187 rfl (by rw[ZL (by omega)];omega) rfl (by rw[←hMl];exact ZK _ (by omega))) id):A:=c b
theorem P6(b:B)(c:B→A:=by exact k_i (by first|exact Ev.skip (fun _=>rfl)|exact Ah rfl (fun _=>rfl) rfl (eo func79) (fun w' hb=>by have:=MG _ hok 1 _ w' _ (by decide) (Dk hb hx);rw[h_q2]at this;exact this)) id):A:=c b
theorem Ms(b:B)(c:B→A:=by exact AP (by exact Ah (v:= .bool true) rfl gg rfl (eo func37) (fun w' hw'=>by have a:=I6 hr w' (hL.bw hw');rw[sr]at a;exact a)) id):A:=c b
theorem Mr(b:B)(c:B→A:=by exact k_i (by exact CF (c:=((c:Int)-128)) rfl gg rfl rfl (by rw[Af (by omega) (by omega)])) id):A:=c b
theorem HW(b:B)(c:B→A:=by exact k_i (by exact A5 rfl gg rfl (fun w=>Nh hc w)) id):A:=c b
theorem P5(b:B)(c:B→A:=by exact AP (by first|exact Ev.skip (fun _=>rfl)|exact Ah (v:= .bool true) rfl (fun _=>rfl) rfl (eo func37) (fun w' hw'=>by have a:=I6 ht w' (hL.bw hw');rw[st]at a;exact a)) id):A:=c b
theorem It(b:B)(c:B→A:=by exact k_i (by exact BU (k:=i) rfl gg rfl rfl underlying26 sizeOf5 (BI rfl) (hlt) (by decide)) id):A:=c b
theorem Vp(b:B)(c:B→A:=by exact k_i (by first|exact Ev.skip (fun _=>rfl)|exact Bf (p:=false) rfl (fun _=>rfl) rfl rfl (by decide)) id):A:=c b
theorem Vo(b:B)(c:B→A:=by exact k_i (by first|exact Hm (n:=(0::AY bs).length) (size:=1) (l:=(0::AY bs).map b8) rfl gg rfl rfl (BI rfl) (fun p m q=>Hs 2 p m q)|exact Hm (n:=(AY bs).length) (size:=1) (l:=(AY bs).map b8) rfl gg rfl rfl (BI rfl) (fun p m q=>Hs 2 p m q)) id):A:=c b
theorem FF(b:B)(c:B→A:=by exact k_i (by exact AN rfl gg rfl rfl (fun w=>Zi _ _ _ _ w)) id):A:=c b
theorem Gf(b:B)(c:B→A:=by exact k_i (by exact A5 rfl gg rfl (fun w=>pf _ w)) id):A:=c b
theorem Vn(b:B)(c:B→A:=by exact k_i (by first|exact Ev.skip (fun _=>rfl)|exact A4 (p:=false) rfl (fun _=>rfl) rfl rfl (decide_eq_false (by simp only[List.length_cons];omega))) id):A:=c b
theorem Vm(b:B)(c:B→A:=by exact k_i (by first|exact Ev.skip (fun _=>rfl)|exact K6 rfl (fun _=>rfl) rfl rfl h_q3') id):A:=c b
theorem FH(b:B)(c:B→A:=by exact AP (by exact K8 rfl gg rfl underlying46 (by decide)) id):A:=c b
theorem I2(b:B)(c:B→A:=by exact k_i (by exact A4 (p:=false) rfl gg rfl rfl (by decide)) id):A:=c b
theorem Wa(b:B)(c:B→A:=by exact k_i (by exact Az (vl:=[.v (.int .i64 2),.d 18,.v (.slice none 0 0)]) [2,18] rfl gg rfl rfl rfl sizeOf108 rfl (fun ρ S w' _ hR=>⟨CG _,by have hh:=CO (id:=18) hR (by simp) rfl;simp only[SV.cs,SV.c,List.all_cons,List.all_nil,hh.2];rfl⟩) rfl (by simp)) id):A:=c b
theorem M7(b:B)(c:B→A:=by exact AP (by exact NT rfl rfl gg rfl (eo func59) (Cc pp) 150 (fun w' hw'=>PX w' (hL.bw hw'))) id):A:=c b
theorem Kr(b:B)(c:B→A:=by exact k_i (by exact BU (k:=0) rfl gg rfl rfl underlying26 sizeOf5 (AW hv) (by simp) (by decide)) id):A:=c b
theorem Kq(b:B)(c:B→A:=by exact AP (by exact AS rfl gg rfl (eo func33) (fun w' hw'=>rm w' (hL.bw hw'))) id):A:=c b
theorem QS(b:B)(c:B→A:=by exact AP (by exact Aj (v:= .tuple #[N i,.int .i64 0]) [40] rfl gg rfl (eo func42) (fun ρ S w' hb hR=>YY (id:=40) hR (by simp) rfl ht hi hv)) id):A:=c b
theorem QR(b:B)(c:B→A:=by exact AP (by exact Aj (v:=N (i*h %nn)) [40] rfl gg rfl (eo func43) (fun ρ S w' hb hR=>Nk (id:=40) hR (by simp) rfl (Mj hi) hh)) id):A:=c b
theorem QQ(b:B)(c:B→A:=by exact AP (by exact Aj (v:=N (i*r %nn)) [40] rfl gg rfl (eo func43) (fun ρ S w' hb hR=>Nk (id:=40) hR (by simp) rfl (Mj hi) hr)) id):A:=c b
theorem Kp(b:B)(c:B→A:=by exact AP (by exact AS rfl gg rfl (eo func41) (fun w' hw'=>ofN h hh w')) id):A:=c b
theorem WZ(b:B)(c:B→A:=by exact k_i (by exact DC [] rfl rfl gg rfl (eo func130) (n:=8) (size:=1) (ty:=5) (l:=l.map b8) (y:= .int .i64 0) (by simp[hll]) (fun ρ S w' hb hR=>SI (sz:=8) w' hok (Dk hb hx) (by decide) h)) id):A:=c b
theorem WY(b:B)(c:B→A:=by exact k_i (by exact CF (c:=((sz-(AY b).length:Nat):Int)) rfl gg rfl rfl (by have:=of_decide_eq_false h_q4;rw[Af (by omega) (by omega)];omega)) id):A:=c b
theorem M6(b:B)(c:B→A:=by exact k_i (by first|exact Ev.skip (fun _=>rfl)|exact B5 rfl (fun _=>rfl) rfl underlying5 rfl (AW hv) (rfl)) id):A:=c b
theorem WX(b:B)(c:B→A:=by exact k_i (by exact Cg (D:=AQ t) (ys:=[rdV 8 v b,.bool true]) [] rfl rfl gg rfl (eo func117) (fun ρ S w' hb _=>by have:=O7 8 _ _ _ 1 w' rfl (Aa hv hb) h8 hbl;rw[hz]at this;exact this)) id):A:=c b
theorem QP(b:B)(c:B→A:=by exact k_i (by exact A5 rfl gg rfl (fun w=>Nh ht w)) id):A:=c b
theorem QO(b:B)(c:B→A:=by exact k_i (by first|exact Cn rfl gg rfl underlying190 rfl sizeOf188|exact Cm rfl gg rfl underlying190 rfl sizeOf188) id):A:=c b
theorem QN(b:B)(c:B→A:=by exact AP (by first|exact Ev.skip (fun _=>rfl)|exact BU rfl (fun _=>rfl) rfl rfl underlying26 sizeOf5 (AW hv) (by decide) (by decide)) id):A:=c b
theorem QM(b:B)(c:B→A:=by exact k_i (by first|exact Cn rfl gg rfl underlying190 rfl sizeOf3|exact Cm rfl gg rfl underlying190 rfl sizeOf3) id):A:=c b
theorem M5(b:B)(c:B→A:=by exact k_i (by exact A4 (p:=true) rfl gg rfl rfl (decide_eq_true (by omega))) id):A:=c b
theorem I1(b:B)(c:B→A:=by exact k_i (by exact B5 rfl gg rfl underlying26 rfl (AW hv) (rfl)) id):A:=c b
theorem WW(b:B)(c:B→A:=by exact k_i (by exact Cs [] rfl rfl gg rfl (eo func113) (n:=(Am acc.length).length) (l:=(Am acc.length).map b8) (by simp) (fun ρ S w' hb _=>pu acc.length (by omega) w')) id):A:=c b
theorem WV(b:B)(c:B→A:=by exact k_i (by exact A2 (c:=((d+1:Nat):Int)) rfl gg rfl rfl (by rw[Af (by omega) (by omega)];omega)) id):A:=c b
theorem WU(b:B)(c:B→A:=by exact AP (by first|exact Ev.skip (fun _=>rfl)|exact Aj (v:=N (xv X %nn)) [40] rfl (fun _=>rfl) rfl (eo func40) (fun ρ S w' hb hR=>YW (id:=40) hR (by simp) rfl (F3 X))) id):A:=c b
theorem QL(b:B)(c:B→A:=by exact AP (by exact AS rfl gg rfl (eo func32) (fun w' hw'=>Rl (GV _) hA TollEc.base_on w' (hL.bw hw'))) id):A:=c b
theorem WT(b:B)(c:B→A:=by exact k_i (by exact A2 (c:=((3:Nat):Int)) rfl gg rfl rfl (by rw[Af (by omega) (by omega)];omega)) id):A:=c b
theorem WS(b:B)(c:B→A:=by exact k_i (by exact A2 (c:=((1:Nat):Int)) rfl gg rfl rfl (by rw[Af (by omega) (by omega)];omega)) id):A:=c b
theorem lE(b:B)(c:B→A:=by exact k_i (by exact A2 (c:=((2:Nat):Int)) rfl gg rfl rfl (by rw[Af (by omega) (by omega)];omega)) id):A:=c b
theorem WR(b:B)(c:B→A:=by exact k_i (by exact Cs [] rfl rfl gg rfl (eo func80) (n:=(CI t).length) (l:=(CI t).map b8) (by simp) (fun ρ S w' hb _=>R4 t hok _ w' _ (Dk hb hx) hwt)) id):A:=c b
theorem WQ(b:B)(c:B→A:=by exact k_i (by exact C1 rfl rfl gg rfl rfl rfl (AW htv) underlying26 el5 (by decide) (by simp) (DG _) (by have:=hle h_q4;simp only[maxLen];omega) (by have:=hle h_q4;omega) (by simp)) id):A:=c b
theorem WP(b:B)(c:B→A:=by exact k_i (by exact XE rfl rfl gg rfl rfl underlying26 el5 zeroValue5 rfl (by omega)) id):A:=c b
theorem QK(b:B)(c:B→A:=by exact AP (by exact AS rfl gg rfl (eo func32) (fun w' hw'=>ZO (GV _) hx hy hB w' (hL.bw hw'))) id):A:=c b
theorem M4(b:B)(c:B→A:=by exact k_i (by exact Ax (p:=false) rfl gg rfl rfl (decide_eq_false (by omega))) id):A:=c b
theorem WO(b:B)(c:B→A:=by exact k_i (by first|exact Ev.skip (fun _=>rfl)|exact BU (k:=0) rfl (fun _=>rfl) rfl rfl underlying26 sizeOf5 (AW hv) (by have:=of_decide_eq_true h_p1;omega) (by decide)) id):A:=c b
theorem I0(b:B)(c:B→A:=by exact k_i (by exact A4 rfl gg rfl rfl h_q) id):A:=c b
theorem M3(b:B)(c:B→A:=by exact k_i (by exact B5 rfl gg rfl underlying5 rfl (AW (LG hv hb (by omega))) (rfl)) id):A:=c b
theorem WN(b:B)(c:B→A:=by exact k_i (by exact AN rfl gg rfl rfl (fun w=>S9 (v:=0) (u:=0) (by decide) rfl _ _ w)) id):A:=c b
theorem Iz(b:B)(c:B→A:=by exact AP (by exact BM rfl gg rfl underlying26 (AW hv)) id):A:=c b
theorem Iy(b:B)(c:B→A:=by exact k_i (by exact AN rfl gg rfl rfl (fun w=>fQ _ _ _ _ w)) id):A:=c b
theorem WM(b:B)(c:B→A:=by exact k_i (by exact ni (l':=(D4 (EL key) x (i+1)).map b8) rfl gg rfl rfl rfl sizeOf5 (sE _) rfl hlt (by rw[←e7 (by rw[hKl];exact hlt),List.map_set])) id):A:=c b
theorem Ix(b:B)(c:B→A:=by exact k_i (by exact Em (p:=true) rfl gg rfl rfl (by decide)) id):A:=c b
theorem WK(b:B)(c:B→A:=by exact k_i (by exact Gl (a:=k+n) (b:=b.length) (v':=As (k+n) (b.length) 1 v) rfl gg rfl underlying26 sizeOf5 (AW hv) rfl rfl (by omega) (by omega) rfl) id):A:=c b
theorem QJ(b:B)(c:B→A:=by exact AP (by exact AS rfl gg rfl (eo func99) (fun w' hw'=>vF hX oA oB w' (hL.bw hw'))) id):A:=c b
theorem WJ(b:B)(c:B→A:=by exact AP (by exact NO (vs:=l32 y) rfl gg rfl underlying46 rfl sizeOf46 (HJ (lo:=33) (hi:=65) (AW hv) (by decide) (by decide)) rfl rfl (by decide)) id):A:=c b
theorem lC(b:B)(c:B→A:=by exact k_i (by exact C1 rfl rfl gg rfl rfl rfl (BI rfl) underlying26 el5 (by decide) (by simp[CV];omega) rfl (by simp only[maxLen];omega) (by omega) (by simp)) id):A:=c b
theorem QI(b:B)(c:B→A:=by exact AP (by first|exact Ev.skip (fun _=>rfl)|exact B5 rfl (fun _=>rfl) rfl underlying5 rfl (AW hv) rfl) id):A:=c b
theorem WI(b:B)(c:B→A:=by exact AP (by exact NO (vs:=l32 x) rfl gg rfl underlying46 rfl sizeOf46 (HJ (lo:=1) (hi:=33) (AW hv) (by decide) (by decide)) rfl rfl (by decide)) id):A:=c b
theorem QH(b:B)(c:B→A:=by exact k_i (by exact A4 (p:=true) rfl gg rfl rfl (by decide)) id):A:=c b
theorem WH(b:B)(c:B→A:=by exact k_i (by exact C1 rfl rfl gg rfl rfl rfl (BI rfl) underlying26 el5 (by decide) (by simp;try omega) rfl (by simp only[maxLen];omega) (by omega) (by simp)) id):A:=c b
theorem lB(b:B)(c:B→A:=by exact k_i (by first|exact Ev.skip (fun _=>rfl)|exact Ax rfl (fun _=>rfl) rfl rfl h_q2') id):A:=c b
theorem Ko(b:B)(c:B→A:=by exact k_i (by exact K9 (l:=OL []) rfl rfl gg zeroValue46 rfl) id):A:=c b
theorem QG(b:B)(c:B→A:=by exact AP (by exact AS rfl gg rfl (eo func45) (fun w' hw'=>JS (i*h %nn) w')) id):A:=c b
theorem QF(b:B)(c:B→A:=by exact AP (by exact AS rfl gg rfl (eo func45) (fun w' hw'=>JS (i*r %nn) w')) id):A:=c b
theorem WG(b:B)(c:B→A:=by exact k_i (by exact BV rfl rfl gg rfl (e:=5) (l:=[b8 (tb t)]) rfl (by decide) (fun _=>by kernel_rfl)) id):A:=c b
theorem WF(b:B)(c:B→A:=by exact AP (by first|exact Ev.skip (fun _=>rfl)|exact AS rfl (fun _=>rfl) rfl (eo func58) (fun w' hw'=>P3 a nn ha (by decide) w')) id):A:=c b
theorem WE(b:B)(c:B→A:=by exact k_i (by exact Ah (v:= .bool true) rfl gg rfl (eo func79) (fun w' hb=>hr0▸MG t hok 1 _ w' _ (by omega) (Dk hb hx))) id):A:=c b
theorem WC(b:B)(c:B→A:=by exact k_i (by first|exact Ev.skip (fun _=>rfl)|exact BU (k:=0) rfl (fun _=>rfl) rfl rfl underlying26 sizeOf5 (AW hv) (hpos h_q1 h_q2) (by decide)) id):A:=c b
theorem WB(b:B)(c:B→A:=by exact k_i (by exact Gl (a:=k) (b:=k+n) (v':=As (k) (k+n) 1 v) rfl gg rfl underlying26 sizeOf5 (AW hv) rfl rfl (by omega) (by omega) rfl) id):A:=c b
theorem QE(b:B)(c:B→A:=by exact k_i (by first|exact Ev.skip (fun _=>rfl)|exact BM rfl (fun _=>rfl) rfl underlying26 (AW hrs)) id):A:=c b
theorem WA(b:B)(c:B→A:=by exact AP (by first|exact A2 (a:=0) (b:=1) (c:=1) rfl gg rfl rfl (by decide)|exact A2 (a:=1) (b:=1) (c:=2) rfl gg rfl rfl (by decide)) id):A:=c b
theorem V9(b:B)(c:B→A:=by exact AP (by first|exact Ev.skip (fun _=>rfl)|exact AS rfl (fun _=>rfl) rfl (eo func41) (fun w' hw'=>ofN (xv X) (F3 X) w')) id):A:=c b
theorem V8(b:B)(c:B→A:=by exact k_i (by exact oV [27,30,900] rfl rfl gg rfl rfl rfl (PC (BI rfl) rfl) (PC (BI rfl) rfl) (PC (BI rfl) rfl) rfl bs3) id):A:=c b
theorem V7(b:B)(c:B→A:=by exact k_i (by first|exact Ev.skip (fun _=>rfl)|exact BU (k:=1) rfl (fun _=>rfl) rfl rfl underlying26 sizeOf5 (AW hv) (by omega) (by decide)) id):A:=c b
theorem V6(b:B)(c:B→A:=by exact k_i (by exact A2 (c:=((4:Nat):Int)) rfl gg rfl rfl (by rw[Af (by omega) (by omega)];omega)) id):A:=c b
theorem Km(b:B)(c:B→A:=by exact k_i (by exact BM rfl gg rfl underlying26 (AW htv)) id):A:=c b
theorem M1(b:B)(c:B→A:=by exact k_i (by exact Em (p:=false) rfl gg rfl rfl (decide_eq_false (by omega))) id):A:=c b
theorem Mz(b:B)(c:B→A:=by exact k_i (by exact AN rfl gg rfl rfl (fun w=>Pj (n:=z) (by omega) _ _ w)) id):A:=c b
theorem QD(b:B)(c:B→A:=by exact AP (by exact AS rfl gg rfl (eo func41) (fun w' hw'=>ofN t ht w')) id):A:=c b
theorem QC(b:B)(c:B→A:=by exact AP (by exact AS rfl gg rfl (eo func41) (fun w' hw'=>ofN r hr w')) id):A:=c b
theorem V5(b:B)(c:B→A:=by exact k_i (by exact Bf (p:=true) rfl gg rfl rfl (decide_eq_true (by omega))) id):A:=c b
theorem My(b:B)(c:B→A:=by exact k_i (by exact Be rfl gg rfl rfl rfl sizeOf188 rfl (by simp) rfl) id):A:=c b
theorem V4(b:B)(c:B→A:=by exact k_i (by exact A0 rfl gg rfl rfl h_q1) id):A:=c b
theorem Mx(b:B)(c:B→A:=by exact k_i (by exact A5 rfl gg rfl (fun w=>pq (NJ h8 _) w)) id):A:=c b
theorem QA(b:B)(c:B→A:=by exact k_i (by exact Bf rfl gg rfl rfl h_q') id):A:=c b
theorem P9(b:B)(c:B→A:=by exact AP (by exact K9 rfl rfl gg zeroValue46 rfl) id):A:=c b
theorem Mw(b:B)(c:B→A:=by exact k_i (by exact A5 rfl gg rfl (fun w=>pn _ w)) id):A:=c b
theorem Vz(b:B)(c:B→A:=by exact k_i (by exact A5 rfl gg rfl (fun w=>Nh hx w)) id):A:=c b
theorem k_k{P:Prop}(h:Q)(c:Q→P:=by
 intro h'q;first
 |(refine k_s (by first|exact Hj rfl gg|exact JJ rfl gg|exact JI rfl rfl gg rfl|exact JD rfl gg rfl rfl|exact K7 rfl gg rfl rfl|exact I8 rfl gg rfl rfl|exact I9 rfl gg rfl rfl|exact Fq rfl gg rfl|exact JB rfl gg rfl|exact JA rfl gg rfl) ?_;exact h'q)
 |(refine k_n ⟨by kernel_rfl,?_⟩;(try change VOk _ _ _ _ _);exact h'q)
 |(refine H8 ?_;exact h'q)
 |(refine k_p ?_;exact h'q)
 |(refine k_d (by kernel_rfl) ?_;exact h'q)
 |(refine H6 ?_;(try change VOk _ _ _ _ _);exact h'q)
 |(refine IB ?_;exact h'q)
 |(refine H9 rfl ?_;exact h'q)
 |(refine IA rfl ?_;exact h'q)):P:=c h
theorem k_g{P:Prop}(h:Q)(c:Q→P:=by first|(intro h'q;first|(refine k_s (by first|exact Hj rfl (fun _=>rfl)|exact JJ rfl (fun _=>rfl)|exact JI rfl rfl (fun _=>rfl) rfl|exact JD rfl (fun _=>rfl) rfl rfl|exact K7 rfl (fun _=>rfl) rfl rfl|exact I8 rfl (fun _=>rfl) rfl rfl|exact I9 rfl (fun _=>rfl) rfl rfl|exact Fq rfl (fun _=>rfl) rfl|exact JB rfl (fun _=>rfl) rfl|exact JA rfl (fun _=>rfl) rfl) ?_;exact h'q)|(refine k_n ⟨by kernel_rfl,?_⟩;(try change VOk _ _ _ _ _);exact h'q)|(refine H8 ?_;exact h'q)|(refine k_p ?_;exact h'q)|(refine k_d (by kernel_rfl) ?_;exact h'q)|(refine H6 ?_;(try change VOk _ _ _ _ _);exact h'q)|(refine IB ?_;exact h'q)|(refine H9 rfl ?_;exact h'q)|(refine IA rfl ?_;exact h'q))|exact k_i (by first|exact Ev.skip (fun _=>rfl)|exact Cl rfl (fun _=>rfl) rfl rfl UndT.h rfl rfl|exact Ck rfl (fun _=>rfl) rfl UndT.h rfl (by assumption)|exact Dw rfl (fun _=>rfl) rfl rfl UndT.h rfl SizT.h rfl rfl|exact CS rfl (fun _=>rfl) rfl UndT.h rfl SizT.h (by assumption) rfl|exact NP rfl (fun _=>rfl) rfl rfl UndT.h rfl SizT.h rfl|exact Cn rfl (fun _=>rfl) rfl UndT.h rfl (by first|exact sizeOf3|exact sizeOf4|exact sizeOf5|exact sizeOf9|exact sizeOf26|exact sizeOf32|exact sizeOf46|exact sizeOf106|exact sizeOf188)|exact Cm rfl (fun _=>rfl) rfl UndT.h rfl (by first|exact sizeOf3|exact sizeOf4|exact sizeOf5|exact sizeOf9|exact sizeOf26|exact sizeOf32|exact sizeOf46|exact sizeOf106|exact sizeOf188)|exact Bq rfl rfl (fun _=>rfl) zeroValue28|exact Bq rfl rfl (fun _=>rfl) zeroValue46|exact Bq rfl rfl (fun _=>rfl) zeroValue63|exact Bq rfl rfl (fun _=>rfl) zeroValue87|exact Bq rfl rfl (fun _=>rfl) zeroValue96|exact Bq rfl rfl (fun _=>rfl) zeroValue108|exact Be rfl (fun _=>rfl) rfl rfl rfl SizT.h rfl (by simp) rfl) id):P:=c h
theorem AA{P:Prop}(h:Q)(c:Q→P:=by first|(intro h'q;first|(refine AB (by first|exact Hj rfl (fun _=>rfl)|exact JJ rfl (fun _=>rfl)|exact JI rfl rfl (fun _=>rfl) rfl|exact JD rfl (fun _=>rfl) rfl rfl|exact K7 rfl (fun _=>rfl) rfl rfl|exact I8 rfl (fun _=>rfl) rfl rfl|exact I9 rfl (fun _=>rfl) rfl rfl|exact Fq rfl (fun _=>rfl) rfl|exact JB rfl (fun _=>rfl) rfl|exact JA rfl (fun _=>rfl) rfl) ?_;exact h'q)|(refine k_n ⟨by kernel_rfl,?_⟩;(try change VOk _ _ _ _ _);exact h'q)|(refine H8 ?_;exact h'q)|(refine k_p ?_;exact h'q)|(refine k_d (by kernel_rfl) ?_;exact h'q)|(refine H6 ?_;(try change VOk _ _ _ _ _);exact h'q)|(refine IB ?_;exact h'q)|(refine H9 rfl ?_;exact h'q)|(refine IA rfl ?_;exact h'q))|exact AP (by first|exact Ev.skip (fun _=>rfl)|exact Cl rfl (fun _=>rfl) rfl rfl UndT.h rfl rfl|exact Ck rfl (fun _=>rfl) rfl UndT.h rfl (by assumption)|exact Dw rfl (fun _=>rfl) rfl rfl UndT.h rfl SizT.h rfl rfl|exact CS rfl (fun _=>rfl) rfl UndT.h rfl SizT.h (by assumption) rfl|exact NP rfl (fun _=>rfl) rfl rfl UndT.h rfl SizT.h rfl|exact Cn rfl (fun _=>rfl) rfl UndT.h rfl (by first|exact sizeOf3|exact sizeOf4|exact sizeOf5|exact sizeOf9|exact sizeOf26|exact sizeOf32|exact sizeOf46|exact sizeOf106|exact sizeOf188)|exact Cm rfl (fun _=>rfl) rfl UndT.h rfl (by first|exact sizeOf3|exact sizeOf4|exact sizeOf5|exact sizeOf9|exact sizeOf26|exact sizeOf32|exact sizeOf46|exact sizeOf106|exact sizeOf188)|exact Bq rfl rfl (fun _=>rfl) zeroValue28|exact Bq rfl rfl (fun _=>rfl) zeroValue46|exact Bq rfl rfl (fun _=>rfl) zeroValue63|exact Bq rfl rfl (fun _=>rfl) zeroValue87|exact Bq rfl rfl (fun _=>rfl) zeroValue96|exact Bq rfl rfl (fun _=>rfl) zeroValue108|exact Be rfl (fun _=>rfl) rfl rfl rfl SizT.h rfl (by simp) rfl) id):P:=c h
theorem AO(b:B)(c:B→A:=by intro b;refine OQ ?_;simp only[List.map_cons,List.map_nil];exact b):A:=c b
theorem CW(b:B)(c:B→A:=by intro b;refine DW ?_;refine k_9 ?_;exact b):A:=c b
theorem Ge(b:B)(c:B→A:=by intro b;refine k_k ?_;refine Eg ?_;exact b):A:=c b
theorem HV(b:B)(c:B→A:=by intro b;refine k9 ?_;refine HY ?_;exact b):A:=c b
theorem Mq(b:B)(c:B→A:=by intro b;change VOk _ _ _ _ _;(iterate 2 refine k_k ?_);exact b):A:=c b
end Go.Proofs.YtefpajmkaaielaaGreatDoor
