import Derived.Deep.RegionWith
import Derived.Test.YtafbhakmkbehiaaGreatDoorW18
import Derived.Test.YtafbhakmkbehiaaGreatDoorW20
open Go.Proofs.Tryz
set_option maxHeartbeats 4000000
set_option maxRecDepth 100000
namespace Go.Proofs.YtafbhakmkbehiaaGreatDoor
open Go.RowKit Go.Vx Go.Extern.Stop Go.Stop Go.Extern
variable{t:Addr}{ops:Array Oper}{xs:Array Operand}{ats:Array TypeId}{D:Dat}{Q:Exit->VS->Prop}{f:FuncId}{a e now use:Int}{Bs:List (List Nat)}{b rd:List Nat}{fr:List SV}{ls vs:List Value}{g i id n size:Nat}{S:Nat->Nat->Prop}{ρ:Nat->Nm}{G T:Nat->Prop}{o:Oper}{x:Operand}{P:Program}{r ty:TypeId}{s:VS}{cv rv v:Value}{w w' w0:World}
def AL(a e:Int):Dat:=⟨λxs w S=> ∃p q,xs=[.iface 130 (.pointer (some ⟨p,0,none⟩))]/\S p/\S q/\w.heap[p]? =some (.cells #[.int .i64 a,.iface 131 (.pointer (some ⟨q,0,none⟩))] 136 (0,0))/\w.heap[q]? =some (.cells #[.int .i64 e] 138 (0,0)),
 λ⟨p,q,e,h1,h2,h3,h4⟩ hk=>⟨p,q,e,h1,h2,(hk p h1).trans h3,(hk q h2).trans h4⟩⟩
set_option maxHeartbeats 4000000 in
theorem tW(a e:Int)(w:World):Calls prog 116 #[.int .i64 a,.int .i64 e] w λc w'=>c=.returned (.iface 130 (.pointer (some ⟨w.heap.size+1,0,none⟩)))/\w'=(w.alloc (.cells #[.int .i64 e] 138)).alloc (.cells #[.int .i64 a,.iface 131 (.pointer (some ⟨w.heap.size,0,none⟩))] 136):=by
 go_enter func116,ntmps116
 go_wp2
 go_ret
 exact⟨rfl,rfl⟩
theorem FA(a e:Int)(w:World):Calls prog 116 #[.int .i64 a,.int .i64 e] w λc w'=> ∃v,c=.returned v/\Ae w w' v (AL a e)/\Bw w w':=by
 refine(tW a e w).mono λc w' ⟨d,h2⟩=>⟨_,d,?_,?_⟩
 .subst h2
  refine⟨λk=>k=w.heap.size\/k=w.heap.size+1,⟨w.heap.size+1,w.heap.size,rfl,.inr rfl,.inl rfl,?_,?_⟩,?_⟩
  .show((w.heap.push _).push _)[w.heap.size+1]? =_
   rw[Array.getElem?_push,x9 (by simp)]
  .show((w.heap.push _).push _)[w.heap.size]? =_
   rw[Array.getElem?_push,x8 (by simp),Array.getElem?_push,x9 rfl]
  .intro k h
   have:((w.alloc (.cells #[.int .i64 e] 138)).alloc (.cells #[.int .i64 a,.iface 131 (.pointer (some ⟨w.heap.size,0,none⟩))] 136)).heap.size=w.heap.size+2:=by simp
   rw[this];rcases h with rfl|rfl<;>omega
 .subst h2
  exact((Below.refl _ _).alloc (yD _) _).alloc (by simp) _
theorem hid{p:Prop}(h:p):Hid p:=h
structure Hit(w w':World)(t e:Addr):Prop where
 os:w'.os=w.os
 tape:w'.tape=w.tape
 output:w'.output=w.output
 size:w.heap.size<=w'.heap.size
 block:∀k,k≠t.block->k<w.heap.size->w'.heap[k]? =w.heap[k]?
 at_:w'.cell? t=some (.pointer (some e))
theorem Hit.cell{w w':World}{t e a:Addr}(h:Hit w w' t e)(c:a.block≠t.block)(d:a.block<w.heap.size):w'.cell? a=w.cell? a:=
 World.cell?_of_block (w:=w) (h.block a.block c d)
theorem Hit.frozen{w w':World}{t e a:Addr}(h:Hit w w' t e)(c:a.block≠t.block)(d:a.block<w.heap.size):w'.frozen? a=w.frozen? a:=
 World.frozen?_of_block (w:=w) (h.block a.block c d)
theorem Hit.below{B:Nat}{e:Addr}(h:Hit w w' t e)(c:B<=t.block)(j:B<=w.heap.size):Below B w w':=
 ⟨h.os,h.tape,h.output,h.size,λk d=>h.block k (by omega) (by omega)⟩
theorem gj{e:Addr}{c:Value}(p q y z:Obj)(j:w.cell? t=some c):Hit w (((((w.alloc p).alloc q).alloc y).alloc z).setCell t (.pointer (some e))) t e:=by
 have d:t.block<w.heap.size:=by
  rcases Nat.lt_or_ge t.block w.heap.size with h|h
  .exact h
  .simp[World.cell?,uF0 h]at j
 refine⟨rfl,rfl,rfl,?_,λk l m=> ?_,?_⟩
 .simp[World.setCell];omega
 .rw[Below.heap_setCell _ _ _ _ l,Below.heap_alloc _ _ _ (by simp;omega),Below.heap_alloc _ _ _ (by simp;omega),Below.heap_alloc _ _ _ (by simp;omega),Below.heap_alloc _ _ _ m]
 .refine World.cell?_setCell_same _ _ _ (u:=c) ?_
  rw[zU _ _ t (by simp;omega),zU _ _ t (by simp;omega),zU _ _ t (by simp;omega),zU _ _ t d];exact j
theorem asF(e t:Addr)(d:Value)(w:World)(l:w.cell? ⟨0,0,none⟩=some (.iface 229 (.agg #[.pointer (some ⟨11,92,none⟩)])))(c:w.cell? t=some d)(h:w.frozen? t=false):
 Calls prog 76 #[.iface 130 (.pointer (some e)),.iface 133 (.pointer (some t))] w λj w'=>j=.returned (.bool true)/\Hit w w' t e:=
 (wh e t d w l c h).mono λ_j _w' ⟨k,h2⟩=>⟨k,h2▸gj _ _ _ _ c⟩
theorem asN(e t:Addr)(p:Nat)(d:Value)(w:World)(m:w.cell? ⟨p,1,none⟩=some (.iface 131 (.pointer (some e))))(l:w.cell? ⟨0,0,none⟩=some (.iface 229 (.agg #[.pointer (some ⟨11,92,none⟩)])))(c:w.cell? t=some d)(h:w.frozen? t=false):
 Calls prog 76 #[.iface 130 (.pointer (some ⟨p,0,none⟩)),.iface 134 (.pointer (some t))] w λj w'=>j=.returned (.bool true)/\Hit w w' t e:=
 (wg e t p d w m l c h).mono λ_j _w' ⟨k,h2⟩=>⟨k,h2▸gj _ _ _ _ c⟩
set_option maxHeartbeats 4000000 in
theorem tn(p q:Nat)(a e:Int)(w:World)(F:w.heap[p]? =some (.cells #[.int .i64 a,.iface 131 (.pointer (some ⟨q,0,none⟩))] 136 (0,0)))(I:w.heap[q]? =some (.cells #[.int .i64 e] 138 (0,0)))
 (H:w.cell? ⟨0,0,none⟩=some (.iface 229 (.agg #[.pointer (some ⟨11,92,none⟩)]))):
 Calls prog 43 #[.iface 130 (.pointer (some ⟨p,0,none⟩))] w λy w'=>y=.returned (.tuple #[.int .i64 a,.int .i64 e])/\Bw w w':=by
 have E:p<w.heap.size:=(z8.1 F).1;have J:q<w.heap.size:=(z8.1 I).1;have z:0<w.heap.size:=by omega
 have l:w.cell? ⟨p,0,none⟩=some (.int .i64 a):=by simp[World.cell?,F]
 have m:w.cell? ⟨p,1,none⟩=some (.iface 131 (.pointer (some ⟨q,0,none⟩))):=by simp[World.cell?,F]
 have u:w.cell? ⟨q,0,none⟩=some (.int .i64 e):=by simp[World.cell?,I]
 have c:∀x:Addr,x.block<w.heap.size->((w.alloc (.cells #[.pointer none] 130)).alloc (.cells #[.pointer none] 131)).cell? x=w.cell? x:=λx N=>by
  rw[zU _ _ x (by simp;omega),zU _ _ x N]
 have A:=asF ⟨p,0,none⟩ ⟨w.heap.size,0,none⟩ (.pointer none) ((w.alloc (.cells #[.pointer none] 130)).alloc (.cells #[.pointer none] 131)) (by rw[c _ z];exact H) (by simp) (by simp)
 have B:∀d,Hit ((w.alloc (.cells #[.pointer none] 130)).alloc (.cells #[.pointer none] 131)) d ⟨w.heap.size,0,none⟩ ⟨p,0,none⟩->
  Calls prog 76 #[.iface 130 (.pointer (some ⟨p,0,none⟩)),.iface 134 (.pointer (some ⟨w.heap.size+1,0,none⟩))] d λy w'=>y=.returned (.bool true)/\Hit d w' ⟨w.heap.size+1,0,none⟩ ⟨q,0,none⟩:=λd h=>by
  refine asN ⟨q,0,none⟩ ⟨w.heap.size+1,0,none⟩ p (.pointer none) d ?_ ?_ ?_ ?_
  .rw[h.cell (by show p≠w.heap.size;omega) (by simp;omega),c _ E];exact m
  .rw[h.cell (by show 0≠w.heap.size;omega) (by simp),c _ z];exact H
  .rw[h.cell (by show w.heap.size+1≠w.heap.size;omega) (by simp)];simp
  .rw[h.frozen (by show w.heap.size+1≠w.heap.size;omega) (by simp)];simp
 have C:∀d j,Hit ((w.alloc (.cells #[.pointer none] 130)).alloc (.cells #[.pointer none] 131)) d ⟨w.heap.size,0,none⟩ ⟨p,0,none⟩->Hit d j ⟨w.heap.size+1,0,none⟩ ⟨q,0,none⟩->
  j.cell? ⟨w.heap.size,0,none⟩=some (.pointer (some ⟨p,0,none⟩))/\j.cell? ⟨w.heap.size+1,0,none⟩=some (.pointer (some ⟨q,0,none⟩))/\j.cell? ⟨p,0,none⟩=some (.int .i64 a)/\j.cell? ⟨q,0,none⟩=some (.int .i64 e)/\Bw w j:=λd j h k=>by
  have W:w.heap.size+2<=d.heap.size:=by have:=h.size;simpa using this
  refine⟨?_,k.at_,?_,?_,?_⟩
  .rw[k.cell (by show w.heap.size≠w.heap.size+1;omega) (by show w.heap.size<_;omega)];exact h.at_
  .rw[k.cell (by show p≠w.heap.size+1;omega) (by show p<_;omega),h.cell (by show p≠w.heap.size;omega) (by simp;omega),c _ E];exact l
  .rw[k.cell (by show q≠w.heap.size+1;omega) (by show q<_;omega),h.cell (by show q≠w.heap.size;omega) (by simp;omega),c _ J];exact u
  .refine Below.trans (((Below.refl _ _).alloc (yD _) _).alloc (by simp) _) (Below.trans (h.below (yD _) (by simp;omega)) (k.below (by show w.heap.size<=w.heap.size+1;omega) (by omega)))
 have HA:=hid A;have HB:=hid B;have HC:=hid C;clear A B C c l m u F I H
 go_enter func43,ntmps43
 go_wp2_with (first
  |(go_at_call 76;refine(HB.out _ HH.out).mono ?_;rintro y j ⟨rfl,M⟩;obtain⟨O,R,U,V,K⟩:=HC.out _ _ HH.out M;have H5:=hid K;clear M K)
  |(go_at_call 76;refine HA.out.mono ?_;rintro y d ⟨rfl,L⟩;have HH:=hid L;clear L))
 all_goals (go_region;all_goals (try go_wp2);all_goals (exact bodyPost_ret (results_tmp2 results43 _ _ _) rfl ⟨rfl,H5.out.drew⟩))
open TollMont
open TollEc (F base)
def B9(w:World)(S:Nat->Prop):List (List Nat)->List Value->Prop
 | [],[]=>True
 |b::Bs,v::vs=>AO w v b.length 1 (b.map b8) S/\B9 w S Bs vs
 |_,_=>False
theorem Fy{l:List Value}{S:Nat->Prop}(y:∀k,S k->T k)(h:AO w v n size l S):AO w v n size l T:=by
 obtain⟨j,d,m,p,q,u⟩:=h;exact⟨j,d,m,p,q,u.imp id λ⟨g,a,b,c⟩=>⟨g,a,y _ b,c⟩⟩
theorem B9.get{w:World}{S:Nat->Prop}:∀{Bs:List (List Nat)} {vs:List Value},B9 w S Bs vs-> ∀{i:Nat} {b:List Nat},Bs[i]? =some b-> ∃v,vs[i]? =some v/\AO w v b.length 1 (b.map b8) S
 |_::_,v::_,h,0,_,hb=>by simp at hb;subst hb;exact⟨v,rfl,h.1⟩
 |_::_,_::_,h,i+1,_,hb=>by simp at hb;obtain⟨v,c,d⟩:=B9.get h.2 hb;exact⟨v,by simpa using c,d⟩
theorem dn{l:List Value}(j:l.length=n*1)(h:BN w w' v n 1 5 l):Ae w w' v (.sl n 1 l):=by
 obtain⟨g,h⟩:=h;have z:=DX h j;rcases h with⟨m,d⟩|⟨A,p,q,B,m,d,u,_⟩
 .subst d
  have c:v=.slice none 0 0:=m;refine⟨λ_=>False,⟨v,rfl,none,0,c,yD _,j,.inl (zJ (by simpa using j))⟩,λ_ h=>h.elim⟩
 .exact⟨λk=>k=g,⟨v,rfl,z⟩,λk y=>by subst y;exact⟨d,(z8.1 u).1⟩⟩
theorem Ov:DT prog 23 1 24:=by unfold DT;kernel_rfl
theorem Hy{l:List Value}{S:Nat->Prop}(h:AO w v n size l S):v.cells=#[v]/\v.oneCell'=true:=by
 obtain⟨d,c,rfl,_⟩:=h;exact⟨rfl,rfl⟩
theorem Mr(v:Value)(w:World)(h:v.cells.size=1):(Instr.buildSlice 43 1 #[(0,v)]).run prog w=.ok (.slice (some ⟨w.heap.size,0,none⟩) 1 1) (w.alloc (.cells v.cells 23)):=by
 obtain⟨a,j⟩:∃a,v.cells.toList=[a]:=by
  have:v.cells.toList.length=1:=by simpa using h
  rcases k:v.cells.toList with _|⟨a,_|⟨b,r⟩⟩<;>rw[k]at this<;>simp at this
  exact⟨a,rfl⟩
 have c:v.cells=#[a]:=by apply Array.ext';rw[j]
 have p:∀w,(zeroValue 23).run prog w=.ok (.slice none 0 0) w:=zeroValue23;have m:∀w,(Go.sizeOf 23).run prog w=.ok 1 w:=y7;unfold Instr.buildSlice;have d:Value.cells (.slice none 0 0)=#[.slice none 0 0]:=rfl;have l:Array.range 1=#[0]:=by decide
 simp[yU yX,m,p,Instr.fill,c,d,newRow,newObj,l];rfl
theorem Kk{vs:List SV}{y:Value}(rd:List Nat)(_hd:o.dst=some id)(k:o.op=.call {callee:=.value (.func f),args:=xs,argTypes:=ats})(j:AQ ops o s)
 (z:xs.toList.map (AE s)=vs)(u:∀args w,(callFunc f args).run P w=.ok (.enter f args) w)
 (q:∀ρ S w,Bw w0 w->RelOn w0.heap.size ρ S w (restr rd s.mem)->Calls P f (SV.cs ρ vs).toArray w λe w'=> ∃v,e=.returned (.tuple #[y,v])/\Ae w w' v D/\Bw w w'):Ev P ops w0 o s ⟨.tup [.v y,.d id],[(id,.dat D)],[],[id],rd⟩:=
 ⟨by simp[Eff.ok],.inr ⟨j,λρ S w hb p=>.inr (.inr ⟨f,(SV.cs ρ vs).toArray,by
  obtain⟨m,B,l,A,h,guard⟩:=o;simp only at k;subst k;rw[DH,G7,z,<-A8]
  simpa using u (SV.cs ρ vs).toArray w,(q ρ S w hb p).mono λe w' ⟨v,h1,⟨S1,h2,h3⟩,h4⟩=>⟨_,h1,_,_,by
   have:=Xz (base:=w0.heap.size) (t:=s.mem) (ρ:=ρ) (S:=S) (val:=.tup [.v y,.d id]) (rd:=rd) (id:=id) h4 h2 h3;simpa[SV.c,SV.cs] using this⟩⟩)⟩⟩
theorem Aa(id:Nat)(j:Rel w0 ρ s w)(d:s.mem id=some (.dat D)):Ae w0 w (ρ id).val D:=by
 obtain⟨hb,S,c⟩:=j;exact⟨S id,c.good id _ d,λk h=>⟨c.fr id k (by rw[d];rfl) h,c.lt id k (by rw[d];rfl) h⟩⟩
theorem Ow{c:Nat}{m:Mem}(l:RelOn c ρ S w (restr rd m))(d:id∈rd)(u:m id=some (.dat (AL a e))):∃p q,(ρ id).val=.iface 130 (.pointer (some ⟨p,0,none⟩))/\w.heap[p]? =some (.cells #[.int .i64 a,.iface 131 (.pointer (some ⟨q,0,none⟩))] 136 (0,0))/\w.heap[q]? =some (.cells #[.int .i64 e] 138 (0,0)):=by
 obtain⟨p,q,h,_,_,j,k⟩:=Gc l d u;simp only[zX,zS]at h;exact⟨p,q,h,j,k⟩
theorem v9(u:o.op=.binOp .neq 92 x (.const .nilIface) r)(j:AQ ops o s)(y:AE s x=.d id)(m:s.mem id=some (.dat (AL a e))):Ev prog ops w0 o s ⟨.v (.bool true),[],[],[],[id]⟩:=
 Ev.run _ _ j λρ S w hb l=>by
  have h:=AI s ρ x;rw[y]at h;obtain⟨p,q,k,_,_⟩:=Ow l (by simp) m;simp only[SV.c,k]at h;simp only[execOp,u,h]
  go_simp
  try rfl
theorem JX(u:o.op=.binOp .eql 92 x (.const .nilIface) r)(j:AQ ops o s)(y:AE s x=.d id)(m:s.mem id=some (.dat (AL a e))):Ev prog ops w0 o s ⟨.v (.bool false),[],[],[],[id]⟩:=
 Ev.run _ _ j λρ S w hb l=>by
  have h:=AI s ρ x;rw[y]at h;obtain⟨p,q,k,_,_⟩:=Ow l (by simp) m;simp only[SV.c,k]at h;simp only[execOp,u,h]
  go_simp
  try rfl
theorem uf(p:Operand)(w:World):(do eqGuard .neq 92 p (.const .nilIface) .nilIface .nilIface;binOp .neq 92 .nilIface .nilIface:Sem Value).run prog w=.ok (.bool false) w:=by
 go_simp
theorem ug(p:Operand)(w:World):(do eqGuard .eql 92 p (.const .nilIface) .nilIface .nilIface;binOp .eql 92 .nilIface .nilIface:Sem Value).run prog w=.ok (.bool true) w:=by
 go_simp
def CHV(cv rv:Value)(now use:Int):Value:=.agg #[cv,rv,.int .i64 now,.int .i64 use]
theorem XU{F:Nat->Prop}(w:World)(q:Laid w)(hc:AO w cv n 1 vs F)(hi:i<n)(j:vs[i]? =some v)(y:AO w v b.length 1 (b.map b8) G)(m:∀x∈b,x<256)(d:b.length<=1048576)(h:rdC b=none):Calls prog 73 #[CHV cv rv now use,.int .i64 (i:Nat)] w λe w'=> ∃u,e=.returned (.tuple #[CZ,u])/\Ae w w' u (AL i 2)/\Bw w w':=by
 go_enter func73,ntmps73
 refine A4 ?_;iterate 11 refine AA ?_
 refine SC ?_;refine AX (by exact Cb rfl gg rfl x7 rfl (AW hc) j) ?_;refine AX (by exact Ad (v:=.tuple #[CZ,.int .i64 2]) rfl gg rfl (eo func12) (λw' c=>qF w' (q.bw c) (A5 y c) m d h)) ?_;iterate 11 refine AA ?_
 refine Lj ?_;iterate 4 refine aT ?_
 refine MG ?_;iterate 2 refine AA ?_
 refine AX (by exact Al (D:=AL i 2) [] rfl rfl gg rfl (eo func116) (λρ S w' hb z=>FA _ _ w')) ?_;iterate 3 refine AA ?_
 refine AG ?_;refine AD (Av results73 (Ac rfl rfl zB rfl yN rfl rfl) (AF rfl)) ?_;intro ρ w' l;exact⟨_,rfl,Aa 22 l rfl,l.1⟩
theorem KP{F:Nat->Prop}(w:World)(y:Laid w)(hc:AO w cv n 1 vs F)(hi:i<n)(l:vs[i]? =some v)(z:AO w v b.length 1 (b.map b8) G)(q:∀x∈b,x<256)(d:b.length<=1048576){c:Crt}{r t:Nat}(j:rdC b=some (c,r,t)):Calls prog 73 #[CHV cv rv now use,.int .i64 (i:Nat)] w λe w'=> ∃u,e=.returned (.tuple #[u,.nilIface])/\Ae w w' u (G5 c)/\Bw w w':=by
 go_enter func73,ntmps73
 refine A4 ?_;iterate 11 refine AA ?_
 refine SC ?_;refine AX (by exact Cb rfl gg rfl x7 rfl (AW hc) l) ?_;refine AX (by exact DL (D:=G5 c) (ys:=[.int .i64 0]) [] rfl rfl gg rfl (eo func12) (λρ S w' hb A=>qE w' (y.bw hb) (A5 z hb) q d j)) ?_;iterate 4 refine AA ?_
 refine mx ?_;iterate 6 refine AA ?_
 refine IM ?_;iterate 5 refine aT ?_
 refine AA ?_;refine mx ?_;iterate 2 refine AA ?_
 refine AG ?_;refine AD (Av results73 (Am rfl rfl zB rfl yN rfl) (AF rfl)) ?_;intro ρ w' m;exact⟨_,rfl,gR 14 m rfl,m.1⟩
def Byt(w:World)(g:Nat)(v:Value)(b:List Nat):Prop:= ∃h d c j,v=.slice (some ⟨g,h,none⟩) b.length d/\w.heap[g]? =some (.cells c 5 j)/\(j=(0,0)\/j=(c.size,c.size+1))/\b.length<=d/\d<=maxLen/\h+d<=c.size/\(c.toList.drop h).take b.length=b.map b8
theorem Byt.keep(h:Byt w g v b)(q:w'.heap[g]? =w.heap[g]?):Byt w' g v b:=by
 obtain⟨j,c,d,k,l,m,p⟩:=h;exact⟨j,c,d,k,l,q.trans m,p⟩
theorem Byt.at(h:Byt w g v b):EC w 0 ⟨g,v⟩ b.length 1 5 (b.map b8):=by
 obtain⟨j,c,d,k,l,m,p,q,u,y,z⟩:=h;exact .inr ⟨j,c,d,k,l,y6 _,m,p,q,u,by rw[yQ];exact y,by rw[yQ];exact z⟩
theorem Byt.sl(h:Byt w g v b):AO w v b.length 1 (b.map b8) (λk=>k=g):=DX h.at (by simp)
theorem Byt.of(B:b≠[])(h:BN w w' v b.length 1 5 (b.map b8)):∃g,Byt w' g v b/\w.heap.size<=g/\g<w'.heap.size:=by
 obtain⟨g,h⟩:=h;rcases h with⟨_,h⟩|⟨j,c,d,p,q,u,k,y,z,A,l,m⟩
 .exact absurd (zJ h) B
 .exact⟨g,⟨j,c,d,p,q,k,y,z,A,by rw[yQ]at l;exact l,by rw[yQ]at m;exact m⟩,u,(z8.1 k).1⟩
def O0(m:Nat)(b:List Nat):Dat:=⟨λxs w S=> ∃v g,xs=[v]/\Byt w g v b/\S g/\m<=g,λ⟨v,g,e,h,hs,hm⟩ hk=>⟨v,g,e,h.keep (hk g hs),hs,hm⟩⟩
theorem uY{m:Nat}(l:b≠[])(q:m<=w.heap.size)(h:BN w w' v b.length 1 5 (b.map b8)):Ae w w' v (O0 m b):=by
 obtain⟨g,c,d,j⟩:=Byt.of l h;exact⟨λk=>k=g,⟨v,g,rfl,c,rfl,by omega⟩,λk p=>by subst p;exact⟨d,j⟩⟩
theorem Te{c:Nat}{m:Mem}(p:RelOn c ρ S w (restr rd m))(d:id∈rd)(q:m id=some (.dat (O0 n b))):∃g,Byt w g (ρ id).val b/\S id g/\n<=g:=by
 obtain⟨v,g,h,j,k,l⟩:=Gc p d q;simp only[zX,zS]at h;subst h;exact⟨g,j,k,l⟩
def BXw(w:World)(S:Nat->Prop)(Bs:List (List Nat))(xs:List Value):Prop:= ∃c:List Nat,c.length=Bs.length/\xs.length=Bs.length/\c.Nodup/\ ∀(i g:Nat) (v:Value) (b:List Nat),c[i]? =some g->xs[i]? =some v->Bs[i]? =some b->S g/\Byt w g v b
def Kl(Bs:List (List Nat)):Dat:=⟨λxs w S=>BXw w S Bs xs,λ⟨j,h1,h2,h3,h4⟩ hk=>⟨j,h1,h2,h3,λi g v b c d h=>⟨(h4 i g v b c d h).1,(h4 i g v b c d h).2.keep (hk g (h4 i g v b c d h).1)⟩⟩⟩
def below(D:Dat)(m:Nat):Dat:=⟨λxs w S=>D.holds xs w S/\ ∀k,S k->k<m,λh c=>⟨D.keep h.1 c,h.2⟩⟩
theorem wO(w:World)(S:Nat->Prop):BXw w S [] []:=⟨[],rfl,rfl,List.nodup_nil,λi g v b h=>by simp at h⟩
theorem wN{S:Nat->Prop}{xs:List Value}{m:Nat}(N:BXw w S Bs xs)(H:∀k,S k->k<m)(M:Byt w g v b)(O:m<=g)(I:∀k,S k->T k)(q:T g):BXw w T (Bs++[b]) (xs++[v]):=by
 obtain⟨z,A,B,E,p⟩:=N;refine⟨z++[g],by simp[A],by simp[B],?_,?_⟩
 .refine List.nodup_append.2 ⟨E,by simp,?_⟩
  intro a J c K;rcases RK.1 K with rfl
  intro e;subst e;obtain⟨i,L,e⟩:=List.getElem_of_mem J;have F:=p i a xs[i] Bs[i] (by rw[zK L,e]) (zK (by omega)) (zK (by omega));have:=H a F.1;omega
 .intro i y C u d j l
  rcases Nat.lt_trichotomy i z.length with h|h|h
  .rw[uB5 h]at d
   rw[uB5 (by omega)]at j;rw[uB5 (by omega)]at l;exact⟨I _ (p i y C u d j l).1,(p i y C u d j l).2⟩
  .subst h
   rw[uC2 (yD _)]at d;rw[uC2 (by omega)]at j;rw[uC2 (by omega)]at l;simp only[Nat.sub_self,A,B,List.getElem?_cons_zero,yT]at d j l;subst d j l;exact⟨q,M⟩
  .rw[D0 (by simp;omega)]at d;cases d
theorem tc{c:Code}(h:∀m,VOk P w0 ⟨fr,AJ [(900,.row n size ty (below D m)),(805,.floor m)]⟩ c Q):VOk P w0 ⟨fr,AJ [(900,.row n size ty D)]⟩ c Q:=λρ w R E B=>by
 refine h w.heap.size ρ w R ?_ B;obtain⟨hb,S,p⟩:=E;have z:AJ [(900,Blk.row n size ty D)] 900=some (.row n size ty D):=rfl;have y:(AJ [(900,Blk.row n size ty D)] 900).isSome:=rfl
 have q:∀i b,AJ [(900,Blk.row n size ty (below D w.heap.size)),(805,.floor w.heap.size)] i=some b->(i=900/\b=.row n size ty (below D w.heap.size))\/(i=805/\b=.floor w.heap.size):=by
  intro i b h;simp only[AJ]at h;split at h
  .rename_i e;injection h with h;exact .inl ⟨e,h.symm⟩
  .split at h
   .rename_i e;injection h with h;exact .inr ⟨e,h.symm⟩
   .cases h
 refine⟨hb,λi=>if i=900 then S 900 else λ_=>False,⟨?_,?_,?_,?_,?_⟩⟩
 .intro i b l
  rcases q i b l with⟨rfl,rfl⟩|⟨rfl,rfl⟩
  .obtain⟨xs,F,H,I⟩:=p.good 900 _ z
   exact⟨xs,F,⟨H,λk d=>p.lt 900 k y d⟩,I⟩
  .exact yD _
 .intro i k l d
  change (if i=900 then S 900 else λ_=>False) k at d;split at d
  .exact p.lt 900 k y d
  .exact d.elim
 .intro i k l d
  change (if i=900 then S 900 else λ_=>False) k at d;split at d
  .exact p.fr 900 k y d
  .exact d.elim
 .intro i b j l u A d
  change (if j=900 then S 900 else λ_=>False) (ρ i).g at d;split at d
  .rcases q i b l with⟨rfl,rfl⟩|⟨rfl,rfl⟩
   .exact p.dis 900 _ 900 z u y d
   .exact u.elim
  .exact d.elim
 .intro i b j c l u A C _
  rcases q i b l with⟨rfl,rfl⟩|⟨rfl,rfl⟩
  .rcases q j c A with⟨rfl,rfl⟩|⟨rfl,rfl⟩
   .rfl
   .exact C.elim
  .exact u.elim
def RXw(w:World)(v:Value)(Bs:List (List Nat))(S:Nat->Prop):Prop:= ∃gl vs,EC w 0 ⟨gl,v⟩ Bs.length 1 23 vs/\vs.length=Bs.length*1/\S gl/\ ∃T,BXw w T Bs vs/\(∀k,T k->S k)/\ ¬T gl
def Jx(Bs:List (List Nat)):Dat:=⟨λxs w S=> ∃v,xs=[v]/\RXw w v Bs S,fun{xs w w' S} ⟨v,e,gl,vs,h,h2,h3,T,h4,h5,h6⟩ hk=>by
 refine⟨v,e,gl,vs,?_,h2,h3,T,(Kl Bs).keep h4 λk j=>hk k (h5 k j),h5,h6⟩;rcases h with h|⟨l,c,d,y,m,p,q,u⟩
 .exact .inl h
 .exact .inr ⟨l,c,d,y,m,p,(hk gl h3).trans q,u⟩⟩
theorem uX(I:Rel w0 ρ s w)(m:s.mem id=some (.row n 1 23 D))(F:∀{xs w S},D.holds xs w S->BXw w S Bs xs)(H:n=Bs.length)(E:Bs≠[]):Ae w0 w (ρ id).val (Jx Bs):=by
 subst H;obtain⟨hb,S,j⟩:=I;obtain⟨xs,K,L,A⟩:=j.good id _ m
 have z:Blk.owns (ρ id) (.row Bs.length 1 23 D):=by
  intro J;rcases A with⟨_,h⟩|⟨l,c,d,u,y,_⟩
  .exact E (zJ h)
  .rw[J]at y;cases y
 have p:=CR.own (j.good id _ m) z;have q:(s.mem id).isSome:=by rw[m];rfl
 refine⟨λk=>k=(ρ id).g\/S id k,⟨_,rfl,(ρ id).g,xs,?_,K,.inl rfl,S id,F L,λk hk=>.inr hk,j.dis id _ id m z q⟩,λk hk=> ?_⟩
 .rcases A with h|⟨l,c,d,u,B,M,C⟩
  .exact .inl h
  .exact .inr ⟨l,c,d,u,B,y6 _,C⟩
 .rcases hk with rfl|hk
  .exact p
  .exact⟨j.fr id k q hk,j.lt id k q hk⟩
theorem uU{I:Value}{F:Nat->Prop}{m:Nat}(w:World)(O:Bs.length<=m)(R:Bs.length<=20)(K:Bs≠[])(hv:AO w I Bs.length 8 ls F)(H:∀i b,Bs[i]? =some b->b≠[]/\((ls.drop (i*8)).take 8).length=8/\ ∀w',Bw w w'->CRy 16 #[.agg ((ls.drop (i*8)).take 8).toArray] w' b.length (b.map b8)):CDy 15 #[I,.int .i64 (m:Nat)] w (Jx Bs):=by
 go_enter func15,ntmps15
 refine A4 ?_;iterate 14 refine AA ?_
 refine Bo (α:={i:Nat // i<=Bs.length}) (fun(x:{i:Nat // i<=Bs.length}) f=>⟨(.v I::.v (.int .i64 (m:Nat))::.v (f 2)::.v (f 3)::.v (f 4)::.d 900::.v (.int .i64 (x.1:Nat))::fv f 20 7 []),AJ [(900,.row x.1 1 23 (Kl (Bs.take x.1)))]⟩) (λx=>Bs.length-x.1) ?_ (⟨0,y6 _⟩) ?_
 .rintro⟨i,N⟩ f
  refine tc λfl=> ?_
  obtain⟨q,h_q⟩:∃q,decide (((i:Nat):Int)<((Bs.length:Nat):Int))=q:=⟨_,rfl⟩
  change VOk _ _ _ _ _;simp only[fv,Nat.reduceAdd];iterate 2 refine aT ?_
  cases q
  .have L:i=Bs.length:=by have:=yC h_q;omega
   subst L;iterate 3 refine AA ?_
   refine oz ?_;refine KL ?_;iterate 3 refine AA ?_
   refine mp ?_;iterate 3 refine AA ?_
   refine As ?_;change VOk _ _ _ _ _;iterate 5 refine AA ?_
   refine AG ?_;refine AD (AH results15 (AF rfl)) ?_;intro ρ w' J;exact⟨_,rfl,uX J rfl (λh=>by have E:=h.1;rw[List.take_length]at E;exact E) rfl K,J.1⟩
  .have hlt:i<Bs.length:=by have:=yA h_q;omega
   obtain⟨b,hb⟩:∃b,Bs[i]? =some b:=⟨_,zK hlt⟩
   iterate 3 refine AA ?_
   refine oz ?_;refine KL ?_;iterate 3 refine AA ?_
   refine mp ?_;iterate 10 refine AA ?_
   refine wK ?_;refine AX (by exact LF rfl gg rfl underlying46 rfl sizeOf46 (AW hv) rfl (H i b hb).2.1 (by decide)) ?_;refine AX (by exact Al (D:=O0 fl b) [805] rfl rfl gg rfl (eo func16) (λρ S w' A j=>((H i b hb).2.2 w' A).mono λe U ⟨v,E,h2,h3⟩=>⟨v,E,uY (H i b hb).1 (w4 (id:=805) (b:=.floor fl) j rfl (by simp)) h2,h3⟩)) ?_;refine AX (by exact Ty (n:=1) (l:=[.d 23]) [23] rfl rfl gg rfl (λρ S w' j=>by obtain⟨g,B,z,u⟩:=Te (id:=23) j (by simp) rfl;exact BT Array.toList (Hy B.sl).1) rfl rfl Mr) ?_;refine AX (by exact af (id:=900) (ys:=24) (n:=i) (k:=1) (k':=1) (size:=1) (Kl (Bs.take i++[b])) [900,24,23] rfl rfl gg rfl rfl rfl rfl rfl (yD _) yX Ov (by decide) (by simp only[maxLen];omega) (by omega) (by simp) (by simp) (λρ S w' j=>by obtain⟨g,B,z,u⟩:=Te (id:=23) j (by simp) rfl;show((ρ 23).val.oneCell' && true)=true;rw[(Hy B.sl).2];rfl) (λρ S w' xs A j C=>by obtain⟨g,B,z,u⟩:=Te (id:=23) j (by simp) rfl;exact wN C.1 C.2 B u (λk M=>⟨900,by simp,rfl,M⟩) ⟨23,by simp,rfl,z⟩)) ?_;iterate 4 refine AA ?_
   refine SS ?_;iterate 2 refine AA ?_
   rw[<-Im hb];refine⟨⟨i+1,by omega⟩,by show Bs.length-(i+1)<Bs.length-i;omega,?_⟩;exact(Ar (λi=>i==0||i==1||i==5||i==6) [24,23,805]).trans2 (λf=>Dk 25 900 (by decide) rfl)
 .refine(Ar (λi=>i==0||i==1||i==5||i==6) []).trans2 (λf=> ?_)
  refine(N1 900 1 23 (Kl []) (λw=>wO _ _) (m':=[]) rfl rfl (λρ hv=> ?_) (λρ hv=> ?_))
  .simp[fv,B0,SV.cs,SV.c,hv,Bg]
  .simp[JG,BQ]
end Go.Proofs.YtafbhakmkbehiaaGreatDoor
