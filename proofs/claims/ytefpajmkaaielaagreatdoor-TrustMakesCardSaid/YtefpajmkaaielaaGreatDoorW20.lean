import Derived.Deep.RegionWith
import Derived.Test.YtefpajmkaaielaaGreatDoorW18
import Derived.Test.YtefpajmkaaielaaGreatDoorW19
open Go.Proofs.Tryz
set_option maxHeartbeats 4000000
set_option maxRecDepth 100000
namespace Go.Proofs.YtefpajmkaaielaaGreatDoor
open Go.RowKit Go.Vx Go.Extern.Stop Go.Stop Go.Extern
variable{t:Addr}{ops:Array Oper}{xs:Array Operand}{ats:Array TypeId}{D:Dat}{f:FuncId}{a e:Int}{Bs:List (List Nat)}{b rd:List Nat}{ls vs:List Value}{id n size:Nat}{ρ:Nat→Nm}{S:Nat→Prop}{o:Oper}{x:Operand}{P:Program}{r:TypeId}{s:VS}{v:Value}{w w' w0:World}
def EB(a e:Int):Dat:=⟨fun xs w S=> ∃p q,xs=[.iface 53 (.pointer (some ⟨p,0,none⟩))]∧S p∧S q∧w.heap[p]? =some (.cells #[.int .i64 a,.iface 54 (.pointer (some ⟨q,0,none⟩))] 59 (0,0))∧w.heap[q]? =some (.cells #[.int .i64 e] 61 (0,0)),
 fun⟨p,q,e,h1,h2,h3,h4⟩ hk=>⟨p,q,e,h1,h2,(hk p h1).trans h3,(hk q h2).trans h4⟩⟩
set_option maxHeartbeats 4000000 in
theorem Zm(a e:Int)(w:World):Calls prog 23 #[.int .i64 a,.int .i64 e] w fun ev w'=>ev= .returned (.iface 53 (.pointer (some ⟨w.heap.size+1,0,none⟩)))∧w'=(w.alloc (.cells #[.int .i64 e] 61)).alloc (.cells #[.int .i64 a,.iface 54 (.pointer (some ⟨w.heap.size,0,none⟩))] 59):=by
 go_enter func23,ntmps23
 go_wp2
 go_ret
 exact⟨rfl,rfl⟩
theorem R2(a e:Int)(w:World):Calls prog 23 #[.int .i64 a,.int .i64 e] w fun ev w'=> ∃v,ev= .returned v∧BO w w' v (EB a e)∧Bw w w':=by
 refine(Zm a e w).mono fun ev w' ⟨h1,h2⟩=>⟨_,h1,?_,?_⟩
 ·subst h2
  refine⟨fun k=>k=w.heap.size∨k=w.heap.size+1,⟨w.heap.size+1,w.heap.size,rfl,.inr rfl,.inl rfl,?_,?_⟩,?_⟩
  ·show((w.heap.push _).push _)[w.heap.size+1]? =_
   rw[Array.getElem?_push,if_pos (by simp)]
  ·show((w.heap.push _).push _)[w.heap.size]? =_
   rw[Array.getElem?_push,if_neg (by simp),Array.getElem?_push,if_pos rfl]
  ·intro k hk
   have:((w.alloc (.cells #[.int .i64 e] 61)).alloc (.cells #[.int .i64 a,.iface 54 (.pointer (some ⟨w.heap.size,0,none⟩))] 59)).heap.size=w.heap.size+2:=by simp
   rw[this];rcases hk with rfl|rfl<;>omega
 ·subst h2
  exact((Below.refl _ _).alloc (Nat.le_refl _) _).alloc (by simp) _
theorem hid{p:Prop}(h:p):Hid p:=h
structure Hit(w w':World)(t e:Addr):Prop where
 os:w'.os=w.os
 tape:w'.tape=w.tape
 output:w'.output=w.output
 size:w.heap.size≤w'.heap.size
 block: ∀k,k≠t.block→k<w.heap.size→w'.heap[k]? =w.heap[k]?
 at_:w'.cell? t=some (.pointer (some e))
theorem Hit.cell{w w':World}{t e a:Addr}(h:Hit w w' t e)(h1:a.block≠t.block)(h2:a.block<w.heap.size):w'.cell? a=w.cell? a:=
 World.cell?_of_block (w:=w) (h.block a.block h1 h2)
theorem Hit.frozen{w w':World}{t e a:Addr}(h:Hit w w' t e)(h1:a.block≠t.block)(h2:a.block<w.heap.size):w'.frozen? a=w.frozen? a:=
 World.frozen?_of_block (w:=w) (h.block a.block h1 h2)
theorem Hit.below{B:Nat}{e:Addr}(h:Hit w w' t e)(hB:B≤t.block)(hs:B≤w.heap.size):Below B w w':=
 ⟨h.os,h.tape,h.output,h.size,fun k hk=>h.block k (by omega) (by omega)⟩
theorem Wp{e:Addr}{old:Value}(o1 o2 o3 o4:Obj)(ht:w.cell? t=some old):Hit w (((((w.alloc o1).alloc o2).alloc o3).alloc o4).setCell t (.pointer (some e))) t e:=by
 have hlt:t.block<w.heap.size:=by
  rcases Nat.lt_or_ge t.block w.heap.size with h|h
  ·exact h
  ·simp[World.cell?,Array.getElem?_eq_none h]at ht
 refine⟨rfl,rfl,rfl,?_,fun k h1 h2=> ?_,?_⟩
 ·simp[World.setCell];omega
 ·rw[Below.heap_setCell _ _ _ _ h1,Below.heap_alloc _ _ _ (by simp;omega),Below.heap_alloc _ _ _ (by simp;omega),Below.heap_alloc _ _ _ (by simp;omega),Below.heap_alloc _ _ _ h2]
 ·refine World.cell?_setCell_same _ _ _ (u:=old) ?_
  rw[World.cell?_alloc_lt _ _ t (by simp;omega),World.cell?_alloc_lt _ _ t (by simp;omega),World.cell?_alloc_lt _ _ t (by simp;omega),World.cell?_alloc_lt _ _ t hlt];exact ht
theorem asF(e t:Addr)(old:Value)(w:World)(hg:w.cell? ⟨0,0,none⟩=some (.iface 118 (.agg #[.pointer (some ⟨11,39,none⟩)])))(ht0:w.cell? t=some old)(hf0:w.frozen? t=false):
 Calls prog 16 #[.iface 53 (.pointer (some e)),.iface 56 (.pointer (some t))] w fun ev w'=>ev= .returned (.bool true)∧Hit w w' t e:=
 (sK e t old w hg ht0 hf0).mono fun _ev _w' ⟨h1,h2⟩=>⟨h1,h2▸Wp _ _ _ _ ht0⟩
theorem asN(e t:Addr)(p:Nat)(old:Value)(w:World)(hp:w.cell? ⟨p,1,none⟩=some (.iface 54 (.pointer (some e))))(hg:w.cell? ⟨0,0,none⟩=some (.iface 118 (.agg #[.pointer (some ⟨11,39,none⟩)])))(ht0:w.cell? t=some old)(hf0:w.frozen? t=false):
 Calls prog 16 #[.iface 53 (.pointer (some ⟨p,0,none⟩)),.iface 57 (.pointer (some t))] w fun ev w'=>ev= .returned (.bool true)∧Hit w w' t e:=
 (sJ e t p old w hp hg ht0 hf0).mono fun _ev _w' ⟨h1,h2⟩=>⟨h1,h2▸Wp _ _ _ _ ht0⟩
set_option maxHeartbeats 4000000 in
theorem Jf(p q:Nat)(a e:Int)(w:World)(hp:w.heap[p]? =some (.cells #[.int .i64 a,.iface 54 (.pointer (some ⟨q,0,none⟩))] 59 (0,0)))(hq:w.heap[q]? =some (.cells #[.int .i64 e] 61 (0,0)))
 (hg:w.cell? ⟨0,0,none⟩=some (.iface 118 (.agg #[.pointer (some ⟨11,39,none⟩)]))):
 Calls prog 10 #[.iface 53 (.pointer (some ⟨p,0,none⟩))] w fun ev w'=>ev= .returned (.tuple #[.int .i64 a,.int .i64 e])∧Bw w w':=by
 have hpl:p<w.heap.size:=(Array.getElem?_eq_some_iff.1 hp).1;have hql:q<w.heap.size:=(Array.getElem?_eq_some_iff.1 hq).1;have h0l:0<w.heap.size:=by omega
 have cp0:w.cell? ⟨p,0,none⟩=some (.int .i64 a):=by simp[World.cell?,hp]
 have cp1:w.cell? ⟨p,1,none⟩=some (.iface 54 (.pointer (some ⟨q,0,none⟩))):=by simp[World.cell?,hp]
 have cq0:w.cell? ⟨q,0,none⟩=some (.int .i64 e):=by simp[World.cell?,hq]
 have old: ∀x:Addr,x.block<w.heap.size→((w.alloc (.cells #[.pointer none] 53)).alloc (.cells #[.pointer none] 54)).cell? x=w.cell? x:=fun x hx=>by
  rw[World.cell?_alloc_lt _ _ x (by simp;omega),World.cell?_alloc_lt _ _ x hx]
 have A:=asF ⟨p,0,none⟩ ⟨w.heap.size,0,none⟩ (.pointer none) ((w.alloc (.cells #[.pointer none] 53)).alloc (.cells #[.pointer none] 54)) (by rw[old _ h0l];exact hg) (by simp) (by simp)
 have B: ∀w2,Hit ((w.alloc (.cells #[.pointer none] 53)).alloc (.cells #[.pointer none] 54)) w2 ⟨w.heap.size,0,none⟩ ⟨p,0,none⟩→
  Calls prog 16 #[.iface 53 (.pointer (some ⟨p,0,none⟩)),.iface 57 (.pointer (some ⟨w.heap.size+1,0,none⟩))] w2 fun ev w'=>ev= .returned (.bool true)∧Hit w2 w' ⟨w.heap.size+1,0,none⟩ ⟨q,0,none⟩:=fun w2 h=>by
  refine asN ⟨q,0,none⟩ ⟨w.heap.size+1,0,none⟩ p (.pointer none) w2 ?_ ?_ ?_ ?_
  ·rw[h.cell (by show p≠w.heap.size;omega) (by simp;omega),old _ hpl];exact cp1
  ·rw[h.cell (by show 0≠w.heap.size;omega) (by simp),old _ h0l];exact hg
  ·rw[h.cell (by show w.heap.size+1≠w.heap.size;omega) (by simp)];simp
  ·rw[h.frozen (by show w.heap.size+1≠w.heap.size;omega) (by simp)];simp
 have C: ∀w2 w3,Hit ((w.alloc (.cells #[.pointer none] 53)).alloc (.cells #[.pointer none] 54)) w2 ⟨w.heap.size,0,none⟩ ⟨p,0,none⟩→Hit w2 w3 ⟨w.heap.size+1,0,none⟩ ⟨q,0,none⟩→
  w3.cell? ⟨w.heap.size,0,none⟩=some (.pointer (some ⟨p,0,none⟩))∧w3.cell? ⟨w.heap.size+1,0,none⟩=some (.pointer (some ⟨q,0,none⟩))∧w3.cell? ⟨p,0,none⟩=some (.int .i64 a)∧w3.cell? ⟨q,0,none⟩=some (.int .i64 e)∧Bw w w3:=fun w2 w3 h k=>by
  have s2:w.heap.size+2≤w2.heap.size:=by have:=h.size;simpa using this
  refine⟨?_,k.at_,?_,?_,?_⟩
  ·rw[k.cell (by show w.heap.size≠w.heap.size+1;omega) (by show w.heap.size<_;omega)];exact h.at_
  ·rw[k.cell (by show p≠w.heap.size+1;omega) (by show p<_;omega),h.cell (by show p≠w.heap.size;omega) (by simp;omega),old _ hpl];exact cp0
  ·rw[k.cell (by show q≠w.heap.size+1;omega) (by show q<_;omega),h.cell (by show q≠w.heap.size;omega) (by simp;omega),old _ hql];exact cq0
  ·refine Below.trans (((Below.refl _ _).alloc (Nat.le_refl _) _).alloc (by simp) _) (Below.trans (h.below (Nat.le_refl _) (by simp;omega)) (k.below (by show w.heap.size≤w.heap.size+1;omega) (by omega)))
 have HA:=hid A;have HB:=hid B;have HC:=hid C;clear A B C old cp0 cp1 cq0 hp hq hg
 go_enter func10,ntmps10
 go_wp2_with (first
  |(go_at_call 16;refine(HB.out _ HH.out).mono ?_;rintro ev w3 ⟨rfl,hB⟩;obtain⟨c1,c2,c3,c4,c5⟩:=HC.out _ _ HH.out hB;have H5:=hid c5;clear hB c5)
  |(go_at_call 16;refine HA.out.mono ?_;rintro ev w2 ⟨rfl,hA⟩;have HH:=hid hA;clear hA))
 all_goals (go_region;all_goals (try go_wp2);all_goals (exact bodyPost_ret (results_tmp2 results10 _ _ _) rfl ⟨rfl,H5.out.drew⟩))
open TollMont
open Go.Toll (Gw)
open TollEc (F pp cb Jp Pt AZ add base nn neg)
open TollSha (sha Ap)
def BZ(w:World)(S:Nat→Prop):List (List Nat)→List Value→Prop
 | [],[]=>True
 |b::Bs,v::vs=>AJ w v b.length 1 (b.map b8) S∧BZ w S Bs vs
 |_,_=>False
theorem BZ.keep{w w':World}{S:Nat→Prop}(hk: ∀k,S k→w'.heap[k]? =w.heap[k]?): ∀{Bs:List (List Nat)} {vs:List Value},BZ w S Bs vs→BZ w' S Bs vs
 | [],[],_=>trivial
 |_::_,_::_,h=>⟨h.1.keep hk,BZ.keep hk h.2⟩
theorem Fa{l:List Value}{T:Nat→Prop}(hs: ∀k,S k→T k)(h:AJ w v n size l S):AJ w v n size l T:=by
 obtain⟨ao,cap,h1,h2,h3,h4⟩:=h;exact⟨ao,cap,h1,h2,h3,h4.imp id fun⟨g,a,b,c⟩=>⟨g,a,hs _ b,c⟩⟩
theorem BZ.sub{w:World}{S T:Nat→Prop}(hs: ∀k,S k→T k): ∀{Bs:List (List Nat)} {vs:List Value},BZ w S Bs vs→BZ w T Bs vs
 | [],[],_=>trivial
 |_::_,_::_,h=>⟨Fa hs h.1,BZ.sub hs h.2⟩
theorem BZ.snoc{w:World}{S:Nat→Prop}{b:List Nat}{v:Value}(h:AJ w v b.length 1 (b.map b8) S): ∀{Bs:List (List Nat)} {vs:List Value},BZ w S Bs vs→BZ w S (Bs++[b]) (vs++[v])
 | [],[],_=>⟨h,trivial⟩
 |_::_,_::_,hh=>⟨hh.1,BZ.snoc h hh.2⟩
theorem BZ.get{w:World}{S:Nat→Prop}: ∀{Bs:List (List Nat)} {vs:List Value},BZ w S Bs vs→ ∀{i:Nat} {b:List Nat},Bs[i]? =some b→ ∃v,vs[i]? =some v∧AJ w v b.length 1 (b.map b8) S
 |_::_,v::_,h,0,_,hb=>by simp at hb;subst hb;exact⟨v,rfl,h.1⟩
 |_::_,_::_,h,i+1,_,hb=>by simp at hb;obtain⟨v,h1,h2⟩:=BZ.get h.2 hb;exact⟨v,by simpa using h1,h2⟩
def LD(Bs:List (List Nat)):Dat:=⟨fun xs w S=>BZ w S Bs xs,fun h hk=>h.keep hk⟩
def BBw(w:World)(v:Value)(Bs:List (List Nat))(S:Nat→Prop):Prop:= ∃vs,AJ w v Bs.length 1 vs S∧BZ w S Bs vs
def FN(Bs:List (List Nat)):Dat:=⟨fun xs w S=> ∃v,xs=[v]∧BBw w v Bs S,fun⟨v,e,vs,h1,h2⟩ hk=>⟨v,e,vs,h1.keep hk,h2.keep hk⟩⟩
theorem O5{l:List Value}(hl:l.length=n*1)(h:BJ w w' v n 1 5 l):BO w w' v (.sl n 1 l):=by
 obtain⟨g,h⟩:=h;have hs:=DL h hl;rcases h with⟨h1,h2⟩|⟨off,cap,cur,fz,h1,h2,h3,_⟩
 ·subst h2
  have h1':v= .slice none 0 0:=h1;refine⟨fun _=>False,⟨v,rfl,none,0,h1',Nat.le_refl _,hl,.inl (List.eq_nil_of_length_eq_zero (by simpa using hl))⟩,fun _ h=>h.elim⟩
 ·exact⟨fun k=>k=g,⟨v,rfl,hs⟩,fun k hk=>by subst hk;exact⟨h2,(Array.getElem?_eq_some_iff.1 h3).1⟩⟩
theorem oz:C2 prog 26 1 24:=by unfold C2;kernel_rfl
theorem Jw{l:List Value}(h:AJ w v n size l S):v.cells= #[v]∧v.oneCell'=true:=by
 obtain⟨ao,cap,rfl,_⟩:=h;exact⟨rfl,rfl⟩
theorem Nw(v:Value)(w:World)(h:v.cells.size=1):(Instr.buildSlice 32 1 #[(0,v)]).run prog w= .ok (.slice (some ⟨w.heap.size,0,none⟩) 1 1) (w.alloc (.cells v.cells 26)):=by
 obtain⟨a,hl⟩: ∃a,v.cells.toList=[a]:=by
  have:v.cells.toList.length=1:=by simpa using h
  rcases hq:v.cells.toList with _|⟨a,_|⟨b,r⟩⟩<;>rw[hq]at this<;>simp at this
  exact⟨a,rfl⟩
 have hl':v.cells= #[a]:=by apply Array.ext';rw[hl]
 have hz: ∀w,(zeroValue 26).run prog w= .ok (.slice none 0 0) w:=zeroValue26;have hs: ∀w,(Go.sizeOf 26).run prog w= .ok 1 w:=sizeOf26;unfold Instr.buildSlice;have hzc:Value.cells (.slice none 0 0)= #[.slice none 0 0]:=rfl;have hr:Array.range 1= #[0]:=by decide
 simp[run_underlying underlying32,hs,hz,Instr.fill,hl',hzc,newRow,newObj,hr];rfl
theorem dA(hr:Rel w0 ρ s w)(hm:s.mem id=some (.row n 1 26 (LD Bs)))(hn:n=Bs.length):BO w0 w (ρ id).val (FN Bs):=by
 obtain⟨hb,S,hR⟩:=hr;obtain⟨xs,x1,x2,x3⟩:=hR.good id _ hm;have hs:=DL x3 x1;have hx:BZ w (S id) Bs xs:=x2;have own:=CH.own (b:= .row n 1 26 (LD Bs)) (hR.good id _ hm);rcases Classical.em ((ρ id).val= .slice none 0 0)with hv|hv
 ·refine⟨S id,⟨_,rfl,xs,?_,hx⟩,fun k hk=>⟨hR.fr id k (by rw[hm];rfl) hk,hR.lt id k (by rw[hm];rfl) hk⟩⟩
  have:n=0:=by
   rcases x3 with⟨_,h⟩|⟨off,cap,cur,fz,h1,_⟩
   ·exact h
   ·rw[hv]at h1;cases h1
  subst this;have hx0:xs=[]:=List.eq_nil_of_length_eq_zero (by simpa using x1);subst hx0;rw[←hn];exact⟨none,0,hv,Nat.le_refl _,rfl,.inl rfl⟩
 ·refine⟨fun k=>k=(ρ id).g∨S id k,⟨_,rfl,xs,?_,hx.sub fun k hk=> .inr hk⟩,fun k hk=> ?_⟩
  ·rw[←hn];exact Fa (fun k hk=> .inl hk) hs
  ·rcases hk with rfl|hk
   ·exact own hv
   ·exact⟨hR.fr id k (by rw[hm];rfl) hk,hR.lt id k (by rw[hm];rfl) hk⟩
theorem cX{lv:Value}{F:Nat→Prop}{m:Nat}(w:World)(hm:Bs.length≤m)(hn:Bs.length≤20)(hv:AJ w lv Bs.length 8 ls F)(hB: ∀i b,Bs[i]? =some b→((ls.drop (i*8)).take 8).length=8∧ ∀w',Bw w w'→CRy 6 #[.agg ((ls.drop (i*8)).take 8).toArray] w' b.length (b.map b8)):CDy 5 #[lv,.int .i64 (m:Nat)] w (FN Bs):=by
 go_enter func5,ntmps5
 refine AO ?_;iterate 14 refine AA ?_
 refine B7 (α:={i:Nat // i≤Bs.length}) (fun(x:{i:Nat // i≤Bs.length}) f=>⟨(.v lv:: .v (.int .i64 (m:Nat)):: .v (f 2):: .v (f 3):: .v (f 4):: .d 900:: .v (.int .i64 (x.1:Nat))::fv f 20 7 []),AK [(900,.row x.1 1 26 (LD (Bs.take x.1)))]⟩) (fun x=>Bs.length-x.1) ?_ (⟨0,Nat.zero_le _⟩) ?_
 ·rintro⟨i,hi⟩ f
  obtain⟨q,h_q⟩: ∃q,decide (((i:Nat):Int)<((Bs.length:Nat):Int))=q:=⟨_,rfl⟩
  change VOk _ _ _ _ _;simp only[fv,Nat.reduceAdd];iterate 2 refine k_g ?_
  cases q
  ·have he:i=Bs.length:=by have:=of_decide_eq_false h_q;omega
   subst he;iterate 3 refine AA ?_
   refine X9 ?_;refine Q2 ?_;iterate 3 refine AA ?_
   refine Xv ?_;iterate 3 refine AA ?_
   refine Aq ?_;change VOk _ _ _ _ _;iterate 5 refine AA ?_
   refine AG ?_;refine AD (AM results5 (AE rfl)) ?_;intro ρ w' hr;exact⟨_,rfl,dA hr (by rw[List.take_length];rfl) rfl,hr.1⟩
  ·have hlt:i<Bs.length:=by have:=of_decide_eq_true h_q;omega
   obtain⟨b,hb⟩: ∃b,Bs[i]? =some b:=⟨_,List.getElem?_eq_getElem hlt⟩
   iterate 3 refine AA ?_
   refine X9 ?_;refine Q2 ?_;iterate 3 refine AA ?_
   refine Xv ?_;iterate 10 refine AA ?_
   refine pc ?_;refine AB (by exact NN rfl gg rfl underlying25 rfl sizeOf25 (AW hv) rfl (hB i b hb).1 (by decide)) ?_;refine pe ?_;refine pd ?_;refine pS ?_;iterate 4 refine AA ?_
   refine Fc ?_;iterate 2 refine AA ?_
   rw[←F8 hb];refine⟨⟨i+1,by omega⟩,by show Bs.length-(i+1)<Bs.length-i;omega,?_⟩;exact(Al (fun i=>i==0||i==1||i==5||i==6) [24,23]).trans2 (fun f=>DI 25 900 (by decide) rfl)
 ·refine(Al (fun i=>i==0||i==1||i==5||i==6) []).trans2 (fun f=> ?_)
  refine(Jc 900 1 26 (LD []) (fun w=>by trivial) (m':=[]) rfl rfl (fun ρ hv=> ?_) (fun ρ hv=> ?_))
  ·simp[fv,CC,SV.cs,SV.c,hv,Bb]
  ·simp[GW,BS]
theorem oS{vs:List SV}{y:Value}(rd:List Nat)(_hd:o.dst=some id)(ho:o.op= .call {callee:= .value (.func f),args:=xs,argTypes:=ats})(hgd:AR ops o s)
 (hx:xs.toList.map (AC s)=vs)(he: ∀args w,(callFunc f args).run P w= .ok (.enter f args) w)
 (hc: ∀ρ S w,Bw w0 w→RelOn w0.heap.size ρ S w (restr rd s.mem)→Calls P f (SV.cs ρ vs).toArray w fun e w'=> ∃v,e= .returned (.tuple #[y,v])∧BO w w' v D∧Bw w w'):Ev P ops w0 o s ⟨.tup [.v y,.d id],[(id,.dat D)],[],[id],rd⟩:=
 ⟨by simp[Eff.ok],.inr ⟨hgd,fun ρ S w hb hR=> .inr (.inr ⟨f,(SV.cs ρ vs).toArray,by
  obtain⟨dst,op,type,pos,after,guard⟩:=o;simp only at ho;subst ho;rw[execOp_call_go,Eu,hx,←A3]
  simpa using he (SV.cs ρ vs).toArray w,(hc ρ S w hb hR).mono fun e w' ⟨v,h1,⟨S1,h2,h3⟩,h4⟩=>⟨_,h1,_,_,by
   have:=PR (base:=w0.heap.size) (t:=s.mem) (ρ:=ρ) (S:=S) (val:= .tup [.v y,.d id]) (rd:=rd) (id:=id) h4 h2 h3;simpa[SV.c,SV.cs] using this⟩⟩)⟩⟩
theorem J1(id:Nat)(hr:Rel w0 ρ s w)(hm:s.mem id=some (.dat D)):BO w0 w (ρ id).val D:=by
 obtain⟨hb,S,hR⟩:=hr;exact⟨S id,hR.good id _ hm,fun k hk=>⟨hR.fr id k (by rw[hm];rfl) hk,hR.lt id k (by rw[hm];rfl) hk⟩⟩
theorem Qv{base:Nat}{S:Nat→Nat→Prop}{m:Mem}(hR:RelOn base ρ S w (restr rd m))(hid:id∈rd)(hm:m id=some (.dat (EB a e))): ∃p q,(ρ id).val= .iface 53 (.pointer (some ⟨p,0,none⟩))∧w.heap[p]? =some (.cells #[.int .i64 a,.iface 54 (.pointer (some ⟨q,0,none⟩))] 59 (0,0))∧w.heap[q]? =some (.cells #[.int .i64 e] 61 (0,0)):=by
 obtain⟨p,q,h1,_,_,h2,h3⟩:=Fb hR hid hm;simp only[List.cons.injEq,and_true]at h1;exact⟨p,q,h1,h2,h3⟩
theorem oH(ho:o.op= .binOp .neq 39 x (.const .nilIface) r)(hgd:AR ops o s)(hx:AC s x= .d id)(hm:s.mem id=some (.dat (EB a e))):Ev prog ops w0 o s ⟨.v (.bool true),[],[],[],[id]⟩:=
 Ev.run _ _ hgd fun ρ S w hb hR=>by
  have e1:=AH s ρ x;rw[hx]at e1;obtain⟨p,q,h1,_,_⟩:=Qv hR (by simp) hm;simp only[SV.c,h1]at e1;simp only[execOp,ho,e1]
  go_simp
  try rfl
theorem oI(ho:o.op= .binOp .eql 39 x (.const .nilIface) r)(hgd:AR ops o s)(hx:AC s x= .d id)(hm:s.mem id=some (.dat (EB a e))):Ev prog ops w0 o s ⟨.v (.bool false),[],[],[],[id]⟩:=
 Ev.run _ _ hgd fun ρ S w hb hR=>by
  have e1:=AH s ρ x;rw[hx]at e1;obtain⟨p,q,h1,_,_⟩:=Qv hR (by simp) hm;simp only[SV.c,h1]at e1;simp only[execOp,ho,e1]
  go_simp
  try rfl
theorem fq(p:Operand)(w:World):(do eqGuard .neq 39 p (.const .nilIface) .nilIface .nilIface;binOp .neq 39 .nilIface .nilIface:Sem Value).run prog w= .ok (.bool false) w:=by
 go_simp
theorem ft(p:Operand)(w:World):(do eqGuard .eql 39 p (.const .nilIface) .nilIface .nilIface;binOp .eql 39 .nilIface .nilIface:Sem Value).run prog w= .ok (.bool true) w:=by
 go_simp
def CHV(cv rv:Value)(now use:Int):Value:= .agg #[cv,rv,.int .i64 now,.int .i64 use]
theorem Lk{cv rv:Value}{F G:Nat→Prop}{now use:Int}{i:Nat}(w:World)(hL:Laid w)(hc:AJ w cv n 1 vs F)(hi:i<n)(hvi:vs[i]? =some v)(hv:AJ w v b.length 1 (b.map b8) G)(h8: ∀x∈b,x<256)(hbl:b.length≤1048576){c:Crt}{r t:Nat}(hrd:rdC b=some (c,r,t)):Calls prog 13 #[CHV cv rv now use,.int .i64 (i:Nat)] w fun e w'=> ∃u,e= .returned (.tuple #[u,.nilIface])∧BO w w' u (Bg c)∧Bw w w':=by
 go_enter func13,ntmps13
 refine AO ?_;iterate 11 refine AA ?_
 refine X8 ?_;refine AB (by exact B5 rfl gg rfl underlying26 rfl (AW hc) hvi) ?_;refine AB (by exact Cg (D:=Bg c) (ys:=[.int .i64 0]) [] rfl rfl gg rfl (eo func22) (fun ρ S w' hb hR=>Yc w' (hL.bw hb) (Aa hv hb) h8 hbl hrd)) ?_;iterate 4 refine AA ?_
 refine X4 ?_;iterate 6 refine AA ?_
 refine C9 ?_;iterate 5 refine k_g ?_
 refine AA ?_;refine X4 ?_;iterate 2 refine AA ?_
 refine AG ?_;refine AD (Av results13 (BN rfl rfl underlying28 rfl sizeOf28 rfl) (AE rfl)) ?_;intro ρ w' hr;exact⟨_,rfl,HI 14 hr rfl,hr.1⟩
end Go.Proofs.YtefpajmkaaielaaGreatDoor
