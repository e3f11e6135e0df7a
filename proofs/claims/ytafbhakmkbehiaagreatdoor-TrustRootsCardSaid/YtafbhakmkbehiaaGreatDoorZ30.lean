import Derived.Deep.RegionWith
import Derived.Test.YtafbhakmkbehiaaGreatDoorZ28
import Derived.Test.YtafbhakmkbehiaaGreatDoorZ29
open Go.Proofs.Tryz
set_option maxHeartbeats 4000000
set_option maxRecDepth 100000
namespace Go.Proofs.YtafbhakmkbehiaaGreatDoor
open Go.RowKit Go.Vx Go.Extern.Stop Go.Stop Go.Extern
variable{t:Addr}{ops:Array Oper}{xs:Array Operand}{ats:Array TypeId}{D:Dat}{f:FuncId}{a e:Int}{Bs:List (List Nat)}{b rd:List Nat}{ls vs:List Value}{id n size:Nat}{ρ:Nat→Nm}{S:Nat→Prop}{o:Oper}{x:Operand}{P:Program}{r:TypeId}{s:VS}{v:Value}{w w' w0:World}
def Cp(a e:Int):Dat:=⟨fun xs w S=> ∃p q,xs=[.iface 130 (.pointer (some ⟨p,0,none⟩))]∧S p∧S q∧w.heap[p]? =some (.cells #[.int .i64 a,.iface 131 (.pointer (some ⟨q,0,none⟩))] 136 (0,0))∧w.heap[q]? =some (.cells #[.int .i64 e] 138 (0,0)),
 fun⟨p,q,e,h1,h2,h3,h4⟩ hk=>⟨p,q,e,h1,h2,(hk p h1).trans h3,(hk q h2).trans h4⟩⟩
set_option maxHeartbeats 4000000 in
theorem OE(a e:Int)(w:World):Calls prog 116 #[.int .i64 a,.int .i64 e] w fun ev w'=>ev= .returned (.iface 130 (.pointer (some ⟨w.heap.size+1,0,none⟩)))∧w'=(w.alloc (.cells #[.int .i64 e] 138)).alloc (.cells #[.int .i64 a,.iface 131 (.pointer (some ⟨w.heap.size,0,none⟩))] 136):=by
 go_enter func116,ntmps116
 go_wp2
 go_ret
 exact⟨rfl,rfl⟩
theorem IW(a e:Int)(w:World):Calls prog 116 #[.int .i64 a,.int .i64 e] w fun ev w'=> ∃v,ev= .returned v∧Ae w w' v (Cp a e)∧Bw w w':=by
 refine(OE a e w).mono fun ev w' ⟨h1,h2⟩=>⟨_,h1,?_,?_⟩
 ·subst h2
  refine⟨fun k=>k=w.heap.size∨k=w.heap.size+1,⟨w.heap.size+1,w.heap.size,rfl,.inr rfl,.inl rfl,?_,?_⟩,?_⟩
  ·show((w.heap.push _).push _)[w.heap.size+1]? =_
   rw[Array.getElem?_push,if_pos (by simp)]
  ·show((w.heap.push _).push _)[w.heap.size]? =_
   rw[Array.getElem?_push,if_neg (by simp),Array.getElem?_push,if_pos rfl]
  ·intro k hk
   have:((w.alloc (.cells #[.int .i64 e] 138)).alloc (.cells #[.int .i64 a,.iface 131 (.pointer (some ⟨w.heap.size,0,none⟩))] 136)).heap.size=w.heap.size+2:=by simp
   rw[this];rcases hk with rfl|rfl<;>omega
 ·subst h2
  exact((Below.refl _ _).alloc (Nat.le_refl _) _).alloc (by simp) _
theorem hid{p:Prop}(h:p):Hid p:=h
structure Hit(w w':World)(t e:Addr):Prop where
 os:w'.os=w.os
 tape:w'.tape=w.tape
 output:w'.output=w.output
 size:w.heap.size≤w'.heap.size
 block: ∀k,k≠t.block→k<w.heap.size→w'.heap[k]? =w.heap[k]?
 at_:w'.cell? t=some (.pointer (some e))
theorem Hit.cell{w w':World}{t e a:Addr}(h:Hit w w' t e)(h1:a.block≠t.block)(h2:a.block<w.heap.size):w'.cell? a=w.cell? a:=
 World.cell?_of_block (w:=w) (h.block a.block h1 h2)
theorem Hit.frozen{w w':World}{t e a:Addr}(h:Hit w w' t e)(h1:a.block≠t.block)(h2:a.block<w.heap.size):w'.frozen? a=w.frozen? a:=
 World.frozen?_of_block (w:=w) (h.block a.block h1 h2)
theorem Hit.below{B:Nat}{e:Addr}(h:Hit w w' t e)(hB:B≤t.block)(hs:B≤w.heap.size):Below B w w':=
 ⟨h.os,h.tape,h.output,h.size,fun k hk=>h.block k (by omega) (by omega)⟩
theorem Mj{e:Addr}{old:Value}(o1 o2 o3 o4:Obj)(ht:w.cell? t=some old):Hit w (((((w.alloc o1).alloc o2).alloc o3).alloc o4).setCell t (.pointer (some e))) t e:=by
 have hlt:t.block<w.heap.size:=by
  rcases Nat.lt_or_ge t.block w.heap.size with h|h
  ·exact h
  ·simp[World.cell?,Array.getElem?_eq_none h]at ht
 refine⟨rfl,rfl,rfl,?_,fun k h1 h2=> ?_,?_⟩
 ·simp[World.setCell];omega
 ·rw[Below.heap_setCell _ _ _ _ h1,Below.heap_alloc _ _ _ (by simp;omega),Below.heap_alloc _ _ _ (by simp;omega),Below.heap_alloc _ _ _ (by simp;omega),Below.heap_alloc _ _ _ h2]
 ·refine World.cell?_setCell_same _ _ _ (u:=old) ?_
  rw[World.cell?_alloc_lt _ _ t (by simp;omega),World.cell?_alloc_lt _ _ t (by simp;omega),World.cell?_alloc_lt _ _ t (by simp;omega),World.cell?_alloc_lt _ _ t hlt];exact ht
theorem asF(e t:Addr)(old:Value)(w:World)(hg:w.cell? ⟨0,0,none⟩=some (.iface 229 (.agg #[.pointer (some ⟨11,92,none⟩)])))(ht0:w.cell? t=some old)(hf0:w.frozen? t=false):
 Calls prog 76 #[.iface 130 (.pointer (some e)),.iface 133 (.pointer (some t))] w fun ev w'=>ev= .returned (.bool true)∧Hit w w' t e:=
 (V6 e t old w hg ht0 hf0).mono fun _ev w' ⟨h1,h2⟩=>⟨h1,h2▸Mj _ _ _ _ ht0⟩
theorem asN(e t:Addr)(p:Nat)(old:Value)(w:World)(hp:w.cell? ⟨p,1,none⟩=some (.iface 131 (.pointer (some e))))(hg:w.cell? ⟨0,0,none⟩=some (.iface 229 (.agg #[.pointer (some ⟨11,92,none⟩)])))(ht0:w.cell? t=some old)(hf0:w.frozen? t=false):
 Calls prog 76 #[.iface 130 (.pointer (some ⟨p,0,none⟩)),.iface 134 (.pointer (some t))] w fun ev w'=>ev= .returned (.bool true)∧Hit w w' t e:=
 (V5 e t p old w hp hg ht0 hf0).mono fun _ev w' ⟨h1,h2⟩=>⟨h1,h2▸Mj _ _ _ _ ht0⟩
set_option maxHeartbeats 4000000 in
theorem OH(p q:Nat)(a e:Int)(w:World)(hp:w.heap[p]? =some (.cells #[.int .i64 a,.iface 131 (.pointer (some ⟨q,0,none⟩))] 136 (0,0)))(hq:w.heap[q]? =some (.cells #[.int .i64 e] 138 (0,0)))
 (hg:w.cell? ⟨0,0,none⟩=some (.iface 229 (.agg #[.pointer (some ⟨11,92,none⟩)]))):
 Calls prog 43 #[.iface 130 (.pointer (some ⟨p,0,none⟩))] w fun ev w'=>ev= .returned (.tuple #[.int .i64 a,.int .i64 e])∧Bw w w':=by
 have hpl:p<w.heap.size:=(Array.getElem?_eq_some_iff.1 hp).1;have hql:q<w.heap.size:=(Array.getElem?_eq_some_iff.1 hq).1;have h0l:0<w.heap.size:=by omega
 have cp0:w.cell? ⟨p,0,none⟩=some (.int .i64 a):=by simp[World.cell?,hp]
 have cp1:w.cell? ⟨p,1,none⟩=some (.iface 131 (.pointer (some ⟨q,0,none⟩))):=by simp[World.cell?,hp]
 have cq0:w.cell? ⟨q,0,none⟩=some (.int .i64 e):=by simp[World.cell?,hq]
 have old: ∀x:Addr,x.block<w.heap.size→((w.alloc (.cells #[.pointer none] 130)).alloc (.cells #[.pointer none] 131)).cell? x=w.cell? x:=fun x hx=>by
  rw[World.cell?_alloc_lt _ _ x (by simp;omega),World.cell?_alloc_lt _ _ x hx]
 have A:=asF ⟨p,0,none⟩ ⟨w.heap.size,0,none⟩ (.pointer none) ((w.alloc (.cells #[.pointer none] 130)).alloc (.cells #[.pointer none] 131)) (by rw[old _ h0l];exact hg) (by simp) (by simp)
 have B: ∀w2,Hit ((w.alloc (.cells #[.pointer none] 130)).alloc (.cells #[.pointer none] 131)) w2 ⟨w.heap.size,0,none⟩ ⟨p,0,none⟩→
  Calls prog 76 #[.iface 130 (.pointer (some ⟨p,0,none⟩)),.iface 134 (.pointer (some ⟨w.heap.size+1,0,none⟩))] w2 fun ev w'=>ev= .returned (.bool true)∧Hit w2 w' ⟨w.heap.size+1,0,none⟩ ⟨q,0,none⟩:=fun w2 h=>by
  refine asN ⟨q,0,none⟩ ⟨w.heap.size+1,0,none⟩ p (.pointer none) w2 ?_ ?_ ?_ ?_
  ·rw[h.cell (by show p≠w.heap.size;omega) (by simp;omega),old _ hpl];exact cp1
  ·rw[h.cell (by show 0≠w.heap.size;omega) (by simp),old _ h0l];exact hg
  ·rw[h.cell (by show w.heap.size+1≠w.heap.size;omega) (by simp)];simp
  ·rw[h.frozen (by show w.heap.size+1≠w.heap.size;omega) (by simp)];simp
 have C: ∀w2 w3,Hit ((w.alloc (.cells #[.pointer none] 130)).alloc (.cells #[.pointer none] 131)) w2 ⟨w.heap.size,0,none⟩ ⟨p,0,none⟩→Hit w2 w3 ⟨w.heap.size+1,0,none⟩ ⟨q,0,none⟩→
  w3.cell? ⟨w.heap.size,0,none⟩=some (.pointer (some ⟨p,0,none⟩))∧w3.cell? ⟨w.heap.size+1,0,none⟩=some (.pointer (some ⟨q,0,none⟩))∧w3.cell? ⟨p,0,none⟩=some (.int .i64 a)∧w3.cell? ⟨q,0,none⟩=some (.int .i64 e)∧Bw w w3:=fun w2 w3 h k=>by
  have s2:w.heap.size+2≤w2.heap.size:=by have:=h.size;simpa using this
  refine⟨?_,k.at_,?_,?_,?_⟩
  ·rw[k.cell (by show w.heap.size≠w.heap.size+1;omega) (by show w.heap.size<_;omega)];exact h.at_
  ·rw[k.cell (by show p≠w.heap.size+1;omega) (by show p<_;omega),h.cell (by show p≠w.heap.size;omega) (by simp;omega),old _ hpl];exact cp0
  ·rw[k.cell (by show q≠w.heap.size+1;omega) (by show q<_;omega),h.cell (by show q≠w.heap.size;omega) (by simp;omega),old _ hql];exact cq0
  ·refine Below.trans (((Below.refl _ _).alloc (Nat.le_refl _) _).alloc (by simp) _) (Below.trans (h.below (Nat.le_refl _) (by simp;omega)) (k.below (by show w.heap.size≤w.heap.size+1;omega) (by omega)))
 have HA:=hid A;have HB:=hid B;have HC:=hid C;clear A B C old cp0 cp1 cq0 hp hq hg
 go_enter func43,ntmps43
 go_wp2_with (first
  |(go_at_call 76;refine(HB.out _ HH.out).mono ?_;rintro ev w3 ⟨rfl,hB⟩;obtain⟨c1,c2,c3,c4,c5⟩:=HC.out _ _ HH.out hB;have H5:=hid c5;clear hB c5)
  |(go_at_call 76;refine HA.out.mono ?_;rintro ev w2 ⟨rfl,hA⟩;have HH:=hid hA;clear hA))
 all_goals (go_region;all_goals (try go_wp2);all_goals (exact bodyPost_ret (results_tmp2 results43 _ _ _) rfl ⟨rfl,H5.out.drew⟩))
open TollMont
open Go.Toll (Gw)
open TollEc (F pp cb Jp Pt Au add base nn neg)
open TollSha (sha CH)
def A7(w:World)(S:Nat→Prop):List (List Nat)→List Value→Prop
 | [],[]=>True
 |b::Bs,v::vs=>AO w v b.length 1 (b.map b8) S∧A7 w S Bs vs
 |_,_=>False
theorem A7.keep{w w':World}{S:Nat→Prop}(hk: ∀k,S k→w'.heap[k]? =w.heap[k]?): ∀{Bs:List (List Nat)} {vs:List Value},A7 w S Bs vs→A7 w' S Bs vs
 | [],[],_=>trivial
 |_::_,_::_,h=>⟨h.1.keep hk,A7.keep hk h.2⟩
theorem D1{l:List Value}{T:Nat→Prop}(hs: ∀k,S k→T k)(h:AO w v n size l S):AO w v n size l T:=by
 obtain⟨ao,cap,h1,h2,h3,h4⟩:=h;exact⟨ao,cap,h1,h2,h3,h4.imp id fun⟨g,a,b,c⟩=>⟨g,a,hs _ b,c⟩⟩
theorem A7.sub{w:World}{S T:Nat→Prop}(hs: ∀k,S k→T k): ∀{Bs:List (List Nat)} {vs:List Value},A7 w S Bs vs→A7 w T Bs vs
 | [],[],_=>trivial
 |_::_,_::_,h=>⟨D1 hs h.1,A7.sub hs h.2⟩
theorem A7.snoc{w:World}{S:Nat→Prop}{b:List Nat}{v:Value}(h:AO w v b.length 1 (b.map b8) S): ∀{Bs:List (List Nat)} {vs:List Value},A7 w S Bs vs→A7 w S (Bs++[b]) (vs++[v])
 | [],[],_=>⟨h,trivial⟩
 |_::_,_::_,hh=>⟨hh.1,A7.snoc h hh.2⟩
theorem A7.len{w:World}{S:Nat→Prop}: ∀{Bs:List (List Nat)} {vs:List Value},A7 w S Bs vs→vs.length=Bs.length
 | [],[],_=>rfl
 |_::_,_::_,h=>by simp[A7.len h.2]
theorem A7.get{w:World}{S:Nat→Prop}: ∀{Bs:List (List Nat)} {vs:List Value},A7 w S Bs vs→ ∀{i:Nat} {b:List Nat},Bs[i]? =some b→ ∃v,vs[i]? =some v∧AO w v b.length 1 (b.map b8) S
 |_::_,v::_,h,0,_,hb=>by simp at hb;subst hb;exact⟨v,rfl,h.1⟩
 |_::_,_::_,h,i+1,_,hb=>by simp at hb;obtain⟨v,h1,h2⟩:=A7.get h.2 hb;exact⟨v,by simpa using h1,h2⟩
def Cu(Bs:List (List Nat)):Dat:=⟨fun xs w S=>A7 w S Bs xs,fun h hk=>h.keep hk⟩
def BBw(w:World)(v:Value)(Bs:List (List Nat))(S:Nat→Prop):Prop:= ∃vs,AO w v Bs.length 1 vs S∧A7 w S Bs vs
def FA(Bs:List (List Nat)):Dat:=⟨fun xs w S=> ∃v,xs=[v]∧BBw w v Bs S,fun⟨v,e,vs,h1,h2⟩ hk=>⟨v,e,vs,h1.keep hk,h2.keep hk⟩⟩
theorem HO{l:List Value}(hl:l.length=n*1)(h:BN w w' v n 1 5 l):Ae w w' v (.sl n 1 l):=by
 obtain⟨g,h⟩:=h;have hs:=DX h hl;rcases h with⟨h1,h2⟩|⟨off,cap,cur,fz,h1,h2,h3,_⟩
 ·subst h2
  have h1':v= .slice none 0 0:=h1;refine⟨fun _=>False,⟨v,rfl,none,0,h1',Nat.le_refl _,hl,.inl (List.eq_nil_of_length_eq_zero (by simpa using hl))⟩,fun _ h=>h.elim⟩
 ·exact⟨fun k=>k=g,⟨v,rfl,hs⟩,fun k hk=>by subst hk;exact⟨h2,(Array.getElem?_eq_some_iff.1 h3).1⟩⟩
theorem IH:DT prog 23 1 24:=by unfold DT;kernel_rfl
theorem Dd{l:List Value}(h:AO w v n size l S):v.cells= #[v]∧v.oneCell'=true:=by
 obtain⟨ao,cap,rfl,_⟩:=h;exact⟨rfl,rfl⟩
theorem FC(v:Value)(w:World)(h:v.cells.size=1):(Instr.buildSlice 43 1 #[(0,v)]).run prog w= .ok (.slice (some ⟨w.heap.size,0,none⟩) 1 1) (w.alloc (.cells v.cells 23)):=by
 obtain⟨a,hl⟩: ∃a,v.cells.toList=[a]:=by
  have:v.cells.toList.length=1:=by simpa using h
  rcases hq:v.cells.toList with _|⟨a,_|⟨b,r⟩⟩<;>rw[hq]at this<;>simp at this
  exact⟨a,rfl⟩
 have hl':v.cells= #[a]:=by apply Array.ext';rw[hl]
 have hz: ∀w,(zeroValue 23).run prog w= .ok (.slice none 0 0) w:=zeroValue23;have hs: ∀w,(Go.sizeOf 23).run prog w= .ok 1 w:=sizeOf23;unfold Instr.buildSlice;have hzc:Value.cells (.slice none 0 0)= #[.slice none 0 0]:=rfl;have hr:Array.range 1= #[0]:=by decide
 simp[run_underlying underlying43,hs,hz,Instr.fill,hl',hzc,newRow,newObj,hr];rfl
theorem R5(hr:Rel w0 ρ s w)(hm:s.mem id=some (.row n 1 23 (Cu Bs)))(hn:n=Bs.length):Ae w0 w (ρ id).val (FA Bs):=by
 obtain⟨hb,S,hR⟩:=hr;obtain⟨xs,x1,x2,x3⟩:=hR.good id _ hm;have hs:=DX x3 x1;have hx:A7 w (S id) Bs xs:=x2;have own:=CR.own (b:= .row n 1 23 (Cu Bs)) (hR.good id _ hm);rcases Classical.em ((ρ id).val= .slice none 0 0)with hv|hv
 ·refine⟨S id,⟨_,rfl,xs,?_,hx⟩,fun k hk=>⟨hR.fr id k (by rw[hm];rfl) hk,hR.lt id k (by rw[hm];rfl) hk⟩⟩
  have:n=0:=by
   rcases x3 with⟨_,h⟩|⟨off,cap,cur,fz,h1,_⟩
   ·exact h
   ·rw[hv]at h1;cases h1
  subst this;have hx0:xs=[]:=List.eq_nil_of_length_eq_zero (by simpa using x1);subst hx0;rw[←hn];exact⟨none,0,hv,Nat.le_refl _,rfl,.inl rfl⟩
 ·refine⟨fun k=>k=(ρ id).g∨S id k,⟨_,rfl,xs,?_,hx.sub fun k hk=> .inr hk⟩,fun k hk=> ?_⟩
  ·rw[←hn];exact D1 (fun k hk=> .inl hk) hs
  ·rcases hk with rfl|hk
   ·exact own hv
   ·exact⟨hR.fr id k (by rw[hm];rfl) hk,hR.lt id k (by rw[hm];rfl) hk⟩
theorem RN{lv:Value}{F:Nat→Prop}{m:Nat}(w:World)(hm:Bs.length≤m)(hn:Bs.length≤20)(hv:AO w lv Bs.length 8 ls F)(hB: ∀i b,Bs[i]? =some b→((ls.drop (i*8)).take 8).length=8∧ ∀w',Bw w w'→Calls prog 16 #[.agg ((ls.drop (i*8)).take 8).toArray] w' fun e w''=> ∃v,e= .returned v∧BN w' w'' v b.length 1 5 (b.map b8)∧Bw w' w''):Calls prog 15 #[lv,.int .i64 (m:Nat)] w fun e w'=> ∃v,e= .returned v∧Ae w w' v (FA Bs)∧Bw w w':=by
 go_enter func15,ntmps15
 refine Cg ?_;apply vrp
 ·apply VE.cons
  ·exact CJ rfl gg
  simp only[nmx,seval];exact VE.nil _
 ·kernel_rfl
 refine AU ?_;apply vrp
 ·apply VE.cons
  ·exact CJ rfl gg
  simp only[nmx,seval];exact VE.nil _
 ·kernel_rfl
 refine BP ?_;apply vrp
 ·apply VE.cons
  ·exact CJ rfl gg
  simp only[nmx,seval];exact VE.nil _
 ·kernel_rfl
 refine FH ?_;refine Bo (α:={i:Nat // i≤Bs.length}) (fun(x:{i:Nat // i≤Bs.length}) f=>⟨(.v lv:: .v (.int .i64 (m:Nat)):: .v (f 2):: .v (f 3):: .v (f 4):: .d 900:: .v (.int .i64 (x.1:Nat)):: .v (f 7):: .v (f 8):: .v (f 9):: .v (f 10):: .v (f 11):: .v (f 12):: .v (f 13):: .v (f 14):: .v (f 15):: .v (f 16):: .v (f 17):: .v (f 18):: .v (f 19):: .v (f 20):: .v (f 21):: .v (f 22):: .v (f 23):: .v (f 24):: .v (f 25):: .v (f 26)::[]),AJ [(900,.row x.1 1 23 (Cu (Bs.take x.1)))]⟩) (fun x=>Bs.length-x.1) ?_ (⟨0,Nat.zero_le _⟩) ?_
 ·rintro⟨i,hi⟩ f
  obtain⟨q,h_q⟩: ∃q,decide (((i:Nat):Int)<((Bs.length:Nat):Int))=q:=⟨_,rfl⟩
  refine BP ?_;cases q
  ·have he:i=Bs.length:=by have:=of_decide_eq_false h_q;omega
   subst he;apply vrp
   ·apply VE.cons
    ·exact Ap rfl gg
    simp only[nmx,seval];apply VE.cons
    ·exact Ap rfl gg
    simp only[nmx,seval];apply VE.cons
    ·exact BU rfl gg rfl underlying47 (AW hv)
    simp only[nmx,seval];apply VE.cons
    ·exact BM rfl gg rfl rfl h_q
    simp only[nmx,seval];apply VE.cons
    ·exact Ap rfl gg
    simp only[nmx,seval];apply VE.cons
    ·first|exact Ev.skip (fun _=>rfl)|exact Ap rfl (fun _=>rfl)
    simp only[nmx,seval];apply VE.cons
    ·first|exact Ev.skip (fun _=>rfl)|exact Ap rfl (fun _=>rfl)
    simp only[nmx,seval];apply VE.cons
    ·first|exact Ev.skip (fun _=>rfl)|exact BM (p:=true) rfl (fun _=>rfl) rfl rfl (decide_eq_true (by omega))
    simp only[nmx,seval];apply VE.cons
    ·first|exact CY rfl gg rfl rfl|exact Ca rfl gg rfl rfl
    simp only[nmx,seval];exact VE.nil _
   ·kernel_rfl
   refine Fp ?_;refine As ?_;refine AU ?_;apply vrp
   ·apply VE.cons
    ·exact Ap rfl gg
    simp only[nmx,seval];apply VE.cons
    ·exact CJ rfl gg
    simp only[nmx,seval];exact VE.nil _
   ·kernel_rfl
   refine Ci ?_;refine AD (AH results15 (AF rfl)) ?_;intro ρ w' hr;exact⟨_,rfl,R5 hr (by rw[List.take_length];rfl) rfl,hr.1⟩
  ·have hlt:i<Bs.length:=by have:=of_decide_eq_true h_q;omega
   obtain⟨b,hb⟩: ∃b,Bs[i]? =some b:=⟨_,List.getElem?_eq_getElem hlt⟩
   apply vrp
   ·apply VE.cons
    ·exact Ap rfl gg
    simp only[nmx,seval];apply VE.cons
    ·exact Ap rfl gg
    simp only[nmx,seval];apply VE.cons
    ·exact BU rfl gg rfl underlying47 (AW hv)
    simp only[nmx,seval];apply VE.cons
    ·exact BM rfl gg rfl rfl h_q
    simp only[nmx,seval];apply VE.cons
    ·exact Ap rfl gg
    simp only[nmx,seval];apply VE.cons
    ·first|exact Ev.skip (fun _=>rfl)|exact Ap rfl (fun _=>rfl)
    simp only[nmx,seval];apply VE.cons
    ·first|exact Ev.skip (fun _=>rfl)|exact Ap rfl (fun _=>rfl)
    simp only[nmx,seval];apply VE.cons
    ·first|exact Ev.skip (fun _=>rfl)|exact BM (p:=true) rfl (fun _=>rfl) rfl rfl (decide_eq_true (by omega))
    simp only[nmx,seval];apply VE.cons
    ·first|exact CY rfl gg rfl rfl|exact Ca rfl gg rfl rfl
    simp only[nmx,seval];exact VE.nil _
   ·kernel_rfl
   refine EO ?_;refine E9 ?_;refine Hf ?_;apply vrp
   ·apply VE.cons
    ·exact Ap rfl gg
    simp only[nmx,seval];apply VE.cons
    ·exact Ap rfl gg
    simp only[nmx,seval];apply VE.cons
    ·exact Ap rfl gg
    simp only[nmx,seval];apply VE.cons
    ·exact Bc (k:=i) rfl gg rfl rfl underlying47 sizeOf46 (AW hv) (hlt) (by decide)
    simp only[nmx,seval];apply VE.cons
    ·exact LF rfl gg rfl underlying46 rfl sizeOf46 (AW hv) rfl (hB i b hb).1 (by decide)
    simp only[nmx,seval];apply VE.cons
    ·exact Al (D:= .sl b.length 1 (b.map b8)) [] rfl rfl gg rfl (eo func16) (fun ρ S w' hb' hR=>((hB i b hb).2 w' hb').mono fun e w2 ⟨v,h1,h2,h3⟩=>⟨v,h1,HO (by simp) h2,h3⟩)
    simp only[nmx,seval];apply VE.cons
    ·exact Ty (n:=1) (l:=[.d 23]) [23] rfl rfl gg rfl (fun ρ S w' hR=>by have hd:=T5 (id:=23) hR (by simp) rfl;exact congrArg Array.toList (Dd hd).1) rfl rfl FC
    simp only[nmx,seval];apply VE.cons
    ·exact af (id:=900) (ys:=24) (n:=i) (k:=1) (k':=1) (size:=1) (Cu (Bs.take i++[b])) [900,24,23] rfl rfl gg rfl rfl rfl rfl rfl (Nat.le_refl _) underlying43 IH (by decide) (by simp only[maxLen];omega) (by omega) (by simp) (by simp) (fun ρ S w' hR=>by have hd:=T5 (id:=23) hR (by simp) rfl;show((SV.c ρ (.d 23)).oneCell' && true)=true;rw[(Dd hd).2];rfl) (fun ρ S w' xs hb' hR hxs=>by have hd:=T5 (id:=23) hR (by simp) rfl;exact A7.snoc (D1 (fun k hk=>⟨23,by simp,rfl,hk⟩) hd) (A7.sub (fun k hk=>⟨900,by simp,rfl,hk⟩) hxs))
    simp only[nmx,seval];apply VE.cons
    ·exact CJ rfl gg
    simp only[nmx,seval];exact VE.nil _
   ·kernel_rfl
   change VOk _ _ _ _ _;apply vrp
   ·apply VE.cons
    ·exact Ap rfl gg
    simp only[nmx,seval];apply VE.cons
    ·exact BE (c:=((i+1:Nat):Int)) rfl gg rfl rfl (by rw[Ah (by omega) (by omega)];omega)
    simp only[nmx,seval];apply VE.cons
    ·exact CJ rfl gg
    simp only[nmx,seval];exact VE.nil _
   ·kernel_rfl
   rw[←Im hb];refine⟨⟨i+1,by omega⟩,by show Bs.length-(i+1)<Bs.length-i;omega,?_⟩;exact(Ar (fun i=>i==0||i==1||i==5||i==6) [24,23]).trans2 (fun f=>Dk 25 900 (by decide) rfl)
 ·refine(Ar (fun i=>i==0||i==1||i==5||i==6) []).trans2 (fun f=> ?_)
  refine(N1 900 1 23 (Cu []) (fun w=>by trivial) (m':=[]) rfl rfl (fun ρ hv=> ?_) (fun ρ hv=> ?_))
  ·simp[B0,SV.cs,SV.c,hv,Bg]
  ·simp[JG,BQ]
theorem Mn{vs:List SV}{y:Value}(rd:List Nat)(_hd:o.dst=some id)(ho:o.op= .call {callee:= .value (.func f),args:=xs,argTypes:=ats})(hgd:AQ ops o s)
 (hx:xs.toList.map (AE s)=vs)(he: ∀args w,(callFunc f args).run P w= .ok (.enter f args) w)
 (hc: ∀ρ S w,Bw w0 w→RelOn w0.heap.size ρ S w (restr rd s.mem)→Calls P f (SV.cs ρ vs).toArray w fun e w'=> ∃v,e= .returned (.tuple #[y,v])∧Ae w w' v D∧Bw w w'):Ev P ops w0 o s ⟨.tup [.v y,.d id],[(id,.dat D)],[],[id],rd⟩:=
 ⟨by simp[Eff.ok],.inr ⟨hgd,fun ρ S w hb hR=> .inr (.inr ⟨f,(SV.cs ρ vs).toArray,by
  obtain⟨dst,op,type,pos,after,guard⟩:=o;simp only at ho;subst ho;rw[execOp_call_go,G7,hx,←A8]
  simpa using he (SV.cs ρ vs).toArray w,(hc ρ S w hb hR).mono fun e w' ⟨v,h1,⟨S1,h2,h3⟩,h4⟩=>⟨_,h1,_,_,by
   have:=Xz (base:=w0.heap.size) (t:=s.mem) (ρ:=ρ) (S:=S) (val:= .tup [.v y,.d id]) (rd:=rd) (id:=id) h4 h2 h3;simpa[SV.c,SV.cs] using this⟩⟩)⟩⟩
theorem FF(id:Nat)(hr:Rel w0 ρ s w)(hm:s.mem id=some (.dat D)):Ae w0 w (ρ id).val D:=by
 obtain⟨hb,S,hR⟩:=hr;exact⟨S id,hR.good id _ hm,fun k hk=>⟨hR.fr id k (by rw[hm];rfl) hk,hR.lt id k (by rw[hm];rfl) hk⟩⟩
theorem J0{base:Nat}{S:Nat→Nat→Prop}{m:Mem}(hR:RelOn base ρ S w (restr rd m))(hid:id∈rd)(hm:m id=some (.dat (Cp a e))): ∃p q,(ρ id).val= .iface 130 (.pointer (some ⟨p,0,none⟩))∧w.heap[p]? =some (.cells #[.int .i64 a,.iface 131 (.pointer (some ⟨q,0,none⟩))] 136 (0,0))∧w.heap[q]? =some (.cells #[.int .i64 e] 138 (0,0)):=by
 obtain⟨p,q,h1,_,_,h2,h3⟩:=Gc hR hid hm;simp only[List.cons.injEq,and_true]at h1;exact⟨p,q,h1,h2,h3⟩
theorem H8(ho:o.op= .binOp .neq 92 x (.const .nilIface) r)(hgd:AQ ops o s)(hx:AE s x= .d id)(hm:s.mem id=some (.dat (Cp a e))):Ev prog ops w0 o s ⟨.v (.bool true),[],[],[],[id]⟩:=
 Ev.run _ _ hgd fun ρ S w hb hR=>by
  have e1:=AI s ρ x;rw[hx]at e1;obtain⟨p,q,h1,_,_⟩:=J0 hR (by simp) hm;simp only[SV.c,h1]at e1;simp only[execOp,ho,e1]
  go_simp
  try rfl
theorem Un(ho:o.op= .binOp .eql 92 x (.const .nilIface) r)(hgd:AQ ops o s)(hx:AE s x= .d id)(hm:s.mem id=some (.dat (Cp a e))):Ev prog ops w0 o s ⟨.v (.bool false),[],[],[],[id]⟩:=
 Ev.run _ _ hgd fun ρ S w hb hR=>by
  have e1:=AI s ρ x;rw[hx]at e1;obtain⟨p,q,h1,_,_⟩:=J0 hR (by simp) hm;simp only[SV.c,h1]at e1;simp only[execOp,ho,e1]
  go_simp
  try rfl
theorem L9(p:Operand)(w:World):(do eqGuard .neq 92 p (.const .nilIface) .nilIface .nilIface;binOp .neq 92 .nilIface .nilIface:Sem Value).run prog w= .ok (.bool false) w:=by
 go_simp
theorem Gg(p:Operand)(w:World):(do eqGuard .eql 92 p (.const .nilIface) .nilIface .nilIface;binOp .eql 92 .nilIface .nilIface:Sem Value).run prog w= .ok (.bool true) w:=by
 go_simp
def CHV(cv rv:Value)(now use:Int):Value:= .agg #[cv,rv,.int .i64 now,.int .i64 use]
theorem IY{cv rv:Value}{F G:Nat→Prop}{now use:Int}{i:Nat}(w:World)(hL:Laid w)(hc:AO w cv n 1 vs F)(hi:i<n)(hvi:vs[i]? =some v)(hv:AO w v b.length 1 (b.map b8) G)(h8: ∀x∈b,x<256)(hbl:b.length≤1048576){c:Crt}{r t:Nat}(hrd:rdC b=some (c,r,t)):Calls prog 73 #[CHV cv rv now use,.int .i64 (i:Nat)] w fun e w'=> ∃u,e= .returned (.tuple #[u,.nilIface])∧Ae w w' u (G5 c)∧Bw w w':=by
 go_enter func73,ntmps73
 refine Cg ?_;apply vrp
 ·apply VE.cons
  ·exact G3 rfl rfl gg rfl
  simp only[nmx,seval];apply VE.cons
  ·exact BZ rfl rfl gg zeroValue34
  simp only[nmx,seval];apply VE.cons
  ·exact CJ rfl gg
  simp only[nmx,seval];exact VE.nil _
 ·kernel_rfl
 refine AU ?_;apply vrp
 ·apply VE.cons
  ·first|exact BG rfl gg rfl underlying95 rfl sizeOf43|exact BF rfl gg rfl underlying95 rfl sizeOf43
  simp only[nmx,seval];apply VE.cons
  ·first|exact BK rfl gg rfl rfl underlying43 rfl rfl|exact BR rfl gg rfl underlying43 rfl (by assumption)
  simp only[nmx,seval];apply VE.cons
  ·exact Ap rfl gg
  simp only[nmx,seval];apply VE.cons
  ·exact Bc (k:=i) rfl gg rfl rfl underlying43 sizeOf23 (AW hc) (hi) (by decide)
  simp only[nmx,seval];apply VE.cons
  ·exact Cb rfl gg rfl underlying23 rfl (AW hc) hvi
  simp only[nmx,seval];apply VE.cons
  ·exact DL (D:=G5 c) (ys:=[.int .i64 0]) [] rfl rfl gg rfl (eo func12) (fun ρ S w' hb hR=>qE w' (hL.bw hb) (A5 hv hb) h8 hbl hrd)
  simp only[nmx,seval];apply VE.cons
  ·exact Ap rfl gg
  simp only[nmx,seval];apply VE.cons
  ·first|exact Cy rfl gg rfl rfl|exact C8 rfl gg rfl rfl
  simp only[nmx,seval];apply VE.cons
  ·first|exact Cy rfl gg rfl rfl|exact C8 rfl gg rfl rfl
  simp only[nmx,seval];apply VE.cons
  ·exact BZ rfl rfl gg zeroValue34
  simp only[nmx,seval];apply VE.cons
  ·first|exact Bh (vl:=[.v (.int .i64 c.se),.v (.string (AB c.is)),.v (.string (AB c.su)),.v (.int .i64 c.fr),.v (.int .i64 c.to),.fn (AN 5) (.d 14),.v (.bool c.ca),.v (.int .i64 c.pa),.v (.int .i64 c.us)]) [14,6] rfl gg rfl rfl rfl sizeOf34 rfl (fun ρ S w' _ hR=>by obtain⟨kv,e,h⟩:=Nb (id:=14) hR (by simp) rfl;exact QL e h) rfl (by simp)|exact Bh (vl:=[.v (.int .i64 c.se),.v (.string (AB c.is)),.v (.string (AB c.su)),.v (.int .i64 c.fr),.v (.int .i64 c.to),.fn (AN 5) (.d 14),.v (.bool c.ca),.v (.int .i64 c.pa),.v (.int .i64 c.us)]) [14,4] rfl gg rfl rfl rfl sizeOf34 rfl (fun ρ S w' _ hR=>⟨DC _,by obtain⟨kv,e,h⟩:=Nb (id:=14) hR (by simp) rfl;exact(QL e h).2⟩) rfl (by simp)
  simp only[nmx,seval];apply VE.cons
  ·exact CJ rfl gg
  simp only[nmx,seval];exact VE.nil _
 ·kernel_rfl
 refine BP ?_;apply vrp
 ·apply VE.cons
  ·exact Ap rfl gg
  simp only[nmx,seval];apply VE.cons
  ·exact BB (p:=false) rfl gg rfl rfl (by decide)
  simp only[nmx,seval];exact VE.nil _
 ·kernel_rfl
 refine Cx ?_;apply vrp
 ·apply VE.cons
  ·first|exact BD rfl gg rfl rfl underlying34 rfl sizeOf34 rfl rfl|exact A2 rfl gg rfl underlying34 rfl sizeOf34 (by assumption) rfl|exact Bi rfl gg rfl rfl underlying34 rfl sizeOf34 rfl
  simp only[nmx,seval];apply VE.cons
  ·first|exact Bh (vl:=[.v (.int .i64 c.se),.v (.string (AB c.is)),.v (.string (AB c.su)),.v (.int .i64 c.fr),.v (.int .i64 c.to),.fn (AN 5) (.d 14),.v (.bool c.ca),.v (.int .i64 c.pa),.v (.int .i64 c.us)]) [14,6] rfl gg rfl rfl rfl sizeOf34 rfl (fun ρ S w' _ hR=>by obtain⟨kv,e,h⟩:=Nb (id:=14) hR (by simp) rfl;exact QL e h) rfl (by simp)|exact Bh (vl:=[.v (.int .i64 c.se),.v (.string (AB c.is)),.v (.string (AB c.su)),.v (.int .i64 c.fr),.v (.int .i64 c.to),.fn (AN 5) (.d 14),.v (.bool c.ca),.v (.int .i64 c.pa),.v (.int .i64 c.us)]) [14,4] rfl gg rfl rfl rfl sizeOf34 rfl (fun ρ S w' _ hR=>⟨DC _,by obtain⟨kv,e,h⟩:=Nb (id:=14) hR (by simp) rfl;exact(QL e h).2⟩) rfl (by simp)
  simp only[nmx,seval];apply VE.cons
  ·exact CJ rfl gg
  simp only[nmx,seval];exact VE.nil _
 ·kernel_rfl
 refine Ci ?_;refine AD (Av results73 (Am rfl rfl underlying34 rfl sizeOf34 rfl) (AF rfl)) ?_;intro ρ w' hr;exact⟨_,rfl,gR 14 hr rfl,hr.1⟩
end Go.Proofs.YtafbhakmkbehiaaGreatDoor
