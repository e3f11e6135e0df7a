import Derived.Lib.MakeNoZero
import Derived.Great.BuildSlice
import Derived.ChangeKeysEq
import Derived.WideShapes
import Derived.Laws.MakeOwn
import Derived.Test.YtefpajmkaaielaaGreatDoorW7
open Go.Proofs.Tryz
set_option maxHeartbeats 4000000
set_option maxRecDepth 100000
namespace Go.Proofs.YtefpajmkaaielaaGreatDoor
section
open Go.RowKit Go.Toll TollMont
def pl(x y:Nat):Nat:=(x+y) %18446744073709551616
variable{m:Nat}
end
end Go.Proofs.YtefpajmkaaielaaGreatDoor
namespace Go.Vx
open Go.RowKit Go.Toll
variable{parts:Array (Nat×Operand)}{Q:Exit→VS→Prop}{f:FuncId}{ls:List (List SV)}{m':List (Nat×Blk)}{rd:List Nat}{fr ys:List SV}{news:List Value}{p q:List Value→Prop}{a b id k n size:Nat}{ρ:Nat→Nm}{x y:Operand}{hi lo:Option Operand}{e:TypeId}
section
variable{P:Program}{w0:World}{ops:Array Oper}{o:Oper}{s:VS}
def FM(p:List Value→Prop):Dat:=⟨fun xs _ _=>p xs,fun h _=>h⟩
theorem nl{t:TypeId}(_hd:o.dst=some id)(ho:o.op= .call {callee:= .value (.func f),args:= #[x],argTypes:= #[t]})(hgd:AR ops o s)
 (hx:AC s x= .v (.int .i64 (n:Nat)))(_hn0:0<n)
 (hr: ∀w,∃cs:Array Value,(callFunc f #[.int .i64 (n:Nat)]).run P w= .ok (.value (.slice (some ⟨w.heap.size,0,none⟩) n cs.size)) (w.drew.drew.alloc (.cells cs e))∧n≤cs.size∧cs.size≤maxLen):
 Ev P ops w0 o s ⟨.d id,[(id,.row n 1 e (FM fun _=>True))],[],[id],[]⟩:=
 ⟨by simp[Eff.ok],.inr ⟨hgd,fun ρ S w hb hR=>by
  have e1:=AH s ρ x;rw[hx]at e1;simp only[SV.c]at e1;obtain⟨cs,h1,h2,h3⟩:=hr w;refine .inl ⟨.slice (some ⟨w.heap.size,0,none⟩) n cs.size,w.drew.drew.alloc (.cells cs e),?_,fun j=>if j=id then⟨w.heap.size,.slice (some ⟨w.heap.size,0,none⟩) n cs.size⟩else ρ j,fun _ _=>False,?_⟩
  ·obtain⟨dst,op,type,pos,after,guard⟩:=o
   simp only at ho;subst ho;rw[execOp_call_go];simp only[List.map_toArray,List.map_cons,List.map_nil,e1];exact h1
  ·have hs:(w.drew.drew.alloc (.cells cs e)).heap[w.heap.size]? =some (.cells cs e):=heap_alloc_new w.drew.drew _
   have:=Cu (base:=w0.heap.size) (t:=s.mem) (ρ:=ρ) (S:=S) (w:=w) (w':=w.drew.drew.alloc (.cells cs e)) (val:= .d id) (rd:=[]) (up:=[]) (id:=id) (b:= .row n 1 e (FM fun _=>True)) (m:=⟨w.heap.size,.slice (some ⟨w.heap.size,0,none⟩) n cs.size⟩) (S1:=fun _=>False)
    rfl rfl rfl (by simp) (fun k hk _=>heap_alloc_old w.drew.drew _ hk) (fun ρ' g1 g2=>by
     refine⟨cs.toList.take n,by simp;omega,True.intro,.inr ⟨0,cs.size,cs,(0,0),by rw[g1],by rw[g1];exact hb.size,by rw[g1];exact hs,.inl rfl,h2,h3,by omega,by simp⟩⟩) (fun _ h=>h.elim) (fun _=> .inr ⟨Nat.le_refl _,fun h=>h⟩)
   simpa[SV.c] using this⟩⟩
theorem oK{ty:TypeId}{z:Operand}{id2:Nat}(_hd:o.dst=some id2)(ho:o.op= .slice ty x none (some y) (some z))(hgd:AR ops o s)(hx:AC s x= .d id)(hm:s.mem id=some (.row n 1 e (FM p)))
 (hu:P.underlying ty=some (.slice e))(hs: ∀w,(Go.sizeOf e).run P w= .ok 1 w)(hy:AC s y= .v (.int .i64 (n:Nat)))(hz:AC s z= .v (.int .i64 (n:Nat)))(hn0:0<n):
 Ev P ops w0 o s ⟨.d id2,[(id2,.row n 1 e (FM p))],[id],[id2],[id]⟩:=by
 refine⟨by simp[Eff.ok],.inr ⟨hgd,fun ρ S w hb hR=> ?_⟩⟩;obtain⟨xs,g1,g2,g3⟩:=A6 hR hm (by simp);have e1:=AH s ρ x;rw[hx]at e1;have e2:=AH s ρ y;rw[hy]at e2;have e3:=AH s ρ z;rw[hz]at e3;simp only[SV.c]at e1 e2 e3;rcases g3 with⟨_,h⟩|⟨off,cap,cur,fz,h1',h2',h3',h4',h5',h6',h7',h8'⟩
 ·omega
 ·have hbd: ∀(k m:Nat) (c:BoundsCode),k≤m→(Instr.sliceBound (.int .i64 (k:Nat)) m c).run P w= .ok k w:=by
   intro k m c hk;unfold Instr.sliceBound;rw[Sem.run_bind];simp only[asIntOf,Sem.run_pure,Result.andThen_ok];rw[if_pos ⟨by omega,by omega⟩];rfl
  have hrun:(execOp (s.act ρ).eval o).run P w= .ok (.value (.slice (some ⟨(ρ id).g,off,none⟩) n n)) w:=by
   rw[h1']at e1
   have key:(Instr.sliceBounds true n cap none (some (.int .i64 (n:Nat))) (some (.int .i64 (n:Nat)))).run P w= .ok (0,n,n) w:=by
    unfold Instr.sliceBounds;simp[hbd n cap _ h5',hbd n n _ (Nat.le_refl _)]
   simp[execOp,ho,e1,e2,e3,Instr.sliceAt,Instr.slice,run_underlying hu,hs,key,Addr.add];try omega
  refine .inl ⟨_,w,hrun,fun j=>if j=id2 then⟨(ρ id).g,.slice (some ⟨(ρ id).g,off,none⟩) n n⟩else ρ j,fun _ _=>False,?_⟩
  have:=Cu (base:=w0.heap.size) (t:=s.mem) (ρ:=ρ) (S:=S) (w:=w) (w':=w) (val:= .d id2) (rd:=[id]) (up:=[id]) (id:=id2) (b:= .row n 1 e (FM p)) (m:=⟨(ρ id).g,.slice (some ⟨(ρ id).g,off,none⟩) n n⟩) (S1:=fun _=>False)
   rfl rfl rfl (Nat.le_refl _) (fun k hk _=>rfl) (fun ρ2 q1 _=>⟨xs,g1,g2,by rw[q1];exact .inr ⟨off,n,cur,fz,rfl,h2',h3',h4',Nat.le_refl _,by omega,by omega,h8'⟩⟩) (fun _ h=>h.elim)
   (fun hob=> .inl ⟨id,by simp,_,hm,by rw[Blk.owns,h1'];simp,rfl⟩)
  simpa[SV.c] using this
theorem pr{ty:TypeId}{y:SV}(ho:o.op= .slice ty x lo hi none)(hx:AC s x=y)
 (hu:P.underlying ty=some (.slice e))(hs: ∀w,(Go.sizeOf e).run P w= .ok size w)(hr: ∀ρ S w,Bw w0 w→RelOn w0.heap.size ρ S w (restr rd s.mem)→ ∃ao cap,y.c ρ= .slice ao n cap∧n≤cap)
 (hlo:(match lo with|none=>SV.v (.int .i64 (0:Nat))|some z=>AC s z)= .v (.int .i64 (a:Nat)))(hhi:(match hi with|none=>SV.v (.int .i64 (n:Nat))|some z=>AC s z)= .v (.int .i64 (b:Nat)))(h1:a≤b)(h2:b≤n):
 ∀ρ S w,Bw w0 w→RelOn w0.heap.size ρ S w (restr rd s.mem)→(execOp (s.act ρ).eval o).run P w= .ok (.value ((SV.fn (As a b size) y).c ρ)) w:=fun ρ S w hb hR=>by
 have e1:=AH s ρ x;rw[hx]at e1;obtain⟨ao,cap,h3,h4⟩:=hr ρ S w hb hR;rw[h3]at e1
 have hbd: ∀(k m:Nat) (c:BoundsCode),k≤m→(Instr.sliceBound (.int .i64 (k:Nat)) m c).run P w= .ok k w:=by
  intro k m c hk;unfold Instr.sliceBound;rw[Sem.run_bind];simp only[asIntOf,Sem.run_pure,Result.andThen_ok];rw[if_pos ⟨by omega,by omega⟩];rfl
 have e2: ∀z,lo=some z→(s.act ρ).eval z= .int .i64 (a:Nat):=fun z hz=>by rw[AH];rw[hz]at hlo;simp only at hlo;rw[hlo];simp[SV.c]
 have e3: ∀z,hi=some z→(s.act ρ).eval z= .int .i64 (b:Nat):=fun z hz=>by rw[AH];rw[hz]at hhi;simp only at hhi;rw[hhi];simp[SV.c]
 have ea:lo=none→a=0:=fun hz=>by
  rw[hz]at hlo;simp only[SV.v.injEq,Value.int.injEq,true_and]at hlo;omega
 have eb:hi=none→b=n:=fun hz=>by
  rw[hz]at hhi;simp only[SV.v.injEq,Value.int.injEq,true_and]at hhi;omega
 have key:(Instr.sliceBounds true n cap (lo.map (s.act ρ).eval) (hi.map (s.act ρ).eval) none).run P w= .ok (a,b,cap) w:=by
  unfold Instr.sliceBounds;cases hi with
  |none=>
   have:=eb rfl;subst this;cases lo with
   |none=>have:=ea rfl;subst this;simp
   |some z=>simp[e2 z rfl,hbd a b _ h1]
  |some y'=>
   cases lo with
   |none=>have:=ea rfl;subst this;simp[e3 y' rfl,hbd b cap _ (by omega)]
   |some z=>simp[e2 z rfl,e3 y' rfl,hbd a b _ h1,hbd b cap _ (by omega)]
 simp[execOp,ho,e1,Instr.sliceAt,Instr.slice,run_underlying hu,hs,key,SV.c,h3,As]
theorem FL{ty:TypeId}(ho:o.op= .slice ty x lo hi none)(hgd:AR ops o s)(hx:AC s x= .d id)(hm:s.mem id=some (.row n 1 e (FM p)))
 (hu:P.underlying ty=some (.slice e))(hs: ∀w,(Go.sizeOf e).run P w= .ok 1 w)(hn0:0<n)
 (hlo:(match lo with|none=>SV.v (.int .i64 (0:Nat))|some z=>AC s z)= .v (.int .i64 (a:Nat)))(hhi:(match hi with|none=>SV.v (.int .i64 (n:Nat))|some z=>AC s z)= .v (.int .i64 (b:Nat)))(h1:a≤b)(h2:b≤n):
 Ev P ops w0 o s ⟨.fn (As a b 1) (.d id),[],[],[],[id]⟩:=
 Ev.run _ _ hgd (pr ho hx hu hs (fun ρ S w _ hR=>by
  obtain⟨xs,g1,g2,g3⟩:=A6 hR hm (by simp);rcases g3 with⟨_,h⟩|⟨off,cap,cur,fz,h1',h2',h3',h4',h5',_⟩
  ·omega
  ·exact⟨_,cap,h1',h5'⟩) hlo hhi h1 h2)
theorem J6{m:Mem}(hm:m id=some (.row n 1 e (FM p)))(hp: ∀xs,p xs→xs.length=n→(xs.drop a).take (b-a)=news)(hab:a<b)(hbn:b≤n)(hk:b-a=k):
 Rdg w0 m [id] (.fn (As a b 1) (.d id)) k 1 news:=fun ρ S w _ hR=>by
 obtain⟨xs,g1,g2,g3⟩:=A6 hR hm (by simp);rw[Nat.mul_one]at g1;rcases g3 with⟨_,h⟩|⟨off,cap,cur,fz,h1',h2',h3',h4',h5',h6',h7',h8'⟩
 ·omega
 ·subst hk
  have hx:=hp xs g2 g1;have hl:news.length=b-a:=by rw[←hx,List.length_take,List.length_drop];omega
  refine⟨fun k=>k=(ρ id).g,some ⟨(ρ id).g,off+a,none⟩,cap-a,?_,by omega,by omega,.inr ⟨_,rfl,rfl,fun i x hi=> ?_⟩⟩
  ·simp only[SV.c,h1',As]
   rw[if_neg (by omega)];simp[Addr.add];try omega
  ·have hi':i<b-a:=by
    have:=(List.getElem?_eq_some_iff.1 hi).1;omega
   rw[←hx,List.getElem?_take,if_pos hi',List.getElem?_drop,←h8',Nat.mul_one,List.getElem?_take,if_pos (by omega),List.getElem?_drop]at hi;have e:(Addr.add ⟨(ρ id).g,off+a,none⟩ i)=⟨(ρ id).g,off+a+i,none⟩:=by unfold Addr.add;split<;>simp_all
   rw[e];have hc:cur[off+a+i]? =some x:=by rw[←hi,←Array.getElem?_toList];congr 1;omega
   simp[World.cell?,h3',hc]
theorem JF{dT sT:TypeId}{sx sv:SV}(ho:o.op= .call {callee:= .builtin .copy,args:= #[x,y],argTypes:= #[dT,sT]})(hgd:AR ops o s)
 (hx:AC s x=sx)(hsx:sx= .d id∧a=0∨sx= .fn (As a n 1) (.d id))(hm:s.mem id=some (.row n 1 e (FM p)))(hy:AC s y=sv)(hr:Rdg w0 s.mem rd sv k 1 news)(hu:P.underlying dT=some (.slice e))(hs:(P.info? e).map (·.size)=some 1)
 (hkn:a+k≤n)(hk0:0<k)(h1:news.all (·.oneCell')=true)(hq: ∀xs,p xs→xs.length=n→q (xs.take a++news++xs.drop (a+k))):
 Ev P ops w0 o s ⟨.v (.int .i64 (k:Nat)),[(id,.row n 1 e (FM q))],[id],[],id::rd⟩:=
 Ev.wrv id _ _ _ _ hgd hm (by simp) fun ρ S w hb hR=>by
  have e1:=AH s ρ x;rw[hx]at e1;have e2:=AH s ρ y;rw[hy]at e2;obtain⟨xs,hxl,hxe,hrow⟩:=A6 hR hm (by simp)
  have hR2:RelOn w0.heap.size ρ S w (restr rd s.mem):=by
   have:=hR.restr rd
   have e:restr rd (restr (id::rd) s.mem)=restr rd s.mem:=by
    funext j;unfold restr
    by_cases h:j∈rd<;>simp[h]
   rwa [e]at this
  obtain⟨S1,ao,cp,h3,h4,h5,h6⟩:=hr ρ S w hb hR2;rw[Nat.mul_one]at h5 hxl;rcases h6 with h6|⟨ad,rfl,_,h6⟩
  ·exfalso;rw[h6]at h5;simp at h5;omega
  rcases hrow with⟨_,h⟩|⟨off,cap,cur,fz,h1',h2',h3',h4',h5',h6',h7',h8'⟩
  ·omega
  ·rw[h3]at e2
   have hdst: ∃cap',(s.act ρ).eval x= .slice (some ⟨(ρ id).g,off+a,none⟩) (n-a) cap':=by
    rw[e1];rcases hsx with⟨rfl,rfl⟩|rfl
    ·exact⟨cap,by simp only[SV.c,h1'];simp⟩
    ·refine⟨cap-a,?_⟩
     simp only[SV.c,h1',As];rw[if_neg (by omega)];simp[Addr.add];try omega
   obtain⟨cap',e1'⟩:=hdst;have hrun:=TD (P:=P) w dT sT o.type e (ρ id).g (off+a) (n-a) cap' ad k cp cur e fz news hu hs h3' (NK h4') (by rw[h5];simp[Nat.min_def];omega) h6 (by rw[h5];omega) (fun u hu=>List.all_eq_true.1 h1 u hu);rw[h5]at hrun
   have hsz2:(cur.toList.take (off+a)++news++cur.toList.drop (off+a+k)).toArray.size=cur.size:=by
    simp only[List.size_toArray,List.length_append,List.length_take,List.length_drop,Array.length_toList,h5];omega
   refine⟨by simp only[Blk.owns];rw[h1'];simp,w.setRow (ρ id).g (cur.toList.take (off+a)++news++cur.toList.drop (off+a+k)).toArray,?_,⟨rfl,rfl,rfl,by simp,fun j hj=>setRow_other w _ j _ hj⟩,?_⟩
   ·unfold execOp
    simp only[ho,resolve,invoke,builtin,Sem.run_bind,Sem.run_pure,Result.andThen_ok,List.map_toArray,List.map_cons,List.map_nil,e1',e2,hrun,SV.c,goInt]
   ·refine⟨xs.take a++news++xs.drop (a+k),by simp only[List.length_append,List.length_take,List.length_drop,h5,hxl];omega,hq xs hxe hxl,.inr ⟨off,cap,_,fz,h1',h2',setRow_heap w (ρ id).g cur _ e _ h3',by rw[hsz2];exact h4',h5',h6',by rw[hsz2];exact h7',?_⟩⟩
    rw[Nat.mul_one]at h8'⊢;have hcl:cur.toList.length=cur.size:=Array.length_toList;apply List.ext_getElem?;intro i
    have hg: ∀j,j<n→cur.toList[off+j]? =xs[j]? :=fun j hj=>by
     rw[←h8',List.getElem?_take,if_pos hj,List.getElem?_drop]
    simp only[];rw[List.getElem?_take];by_cases hi:i<n
    ·rw[if_pos hi,List.getElem?_drop]
     by_cases c1:i<a
     ·rw[List.append_assoc,List.getElem?_append_left (by simp;omega),List.getElem?_take,if_pos (by omega),hg i hi,List.append_assoc,List.getElem?_append_left (by simp;omega),List.getElem?_take,if_pos c1]
     ·by_cases c2:i<a+k
      ·rw[List.append_assoc,List.getElem?_append_right (by simp;omega),List.getElem?_append_left (by simp;omega),List.append_assoc,List.getElem?_append_right (by simp;omega),List.getElem?_append_left (by simp;omega)]
       congr 1
       simp;omega
      ·rw[List.getElem?_append_right (by simp;omega),List.getElem?_drop,List.getElem?_append_right (by simp;omega),List.getElem?_drop]
       rw[show off+a+k+(off+i-(List.take (off+a) cur.toList++news).length)=off+i by simp;omega,show a+k+(i-(List.take a xs++news).length)=i by simp;omega];exact hg i hi
    ·rw[if_neg hi,List.getElem?_eq_none (by simp;omega)]
theorem cn{w:World}{ty:TypeId}{l:List Value}(hr:Rel w0 ρ s w)(hm:s.mem id=some (.row n 1 ty (FM p)))(hp: ∀xs,p xs→xs.length=n→xs=l):BJ w0 w (ρ id).val n 1 ty l:=by
 obtain⟨S,xs,h1,h2,h3⟩:=J4 hr hm;obtain rfl:=hp xs h2 (by simpa using h1);exact⟨(ρ id).g,h3⟩
theorem TB(off:Nat): ∀(cs:List Value) (j:Nat) (l:List Value),off+j+cs.length≤l.length→
 (cs.zipIdx j).foldl (fun(a:Array Value) (x:Value×Nat)=>a.setIfInBounds (off+x.2) x.1) l.toArray=(l.take (off+j)++cs++l.drop (off+j+cs.length)).toArray
 | [],j,l,h=>by simp
 |c::cs,j,l,h=>by
  simp only[List.zipIdx_cons,List.foldl_cons,List.length_cons]at h⊢;rw[List.setIfInBounds_toArray,TB off cs (j+1) _ (by simp;omega)];congr 1
  rw[List.take_set,List.drop_set,if_pos (by omega)]
  have e1:(l.take (off+(j+1))).set (off+j) c=l.take (off+j)++[c]:=by
   rw[show off+(j+1)=off+j+1 by omega,List.take_add_one,List.set_append_right _ _ (by simp;omega)];have:(l.take (off+j)).length=off+j:=by simp;omega
   rw[this,Nat.sub_self,List.getElem?_eq_getElem (by omega)];rfl
  rw[e1,show off+(j+1)+cs.length=off+j+(cs.length+1) by omega];simp
theorem XC(size:Nat): ∀(vs:List Value) (k:Nat) (pre rest:List Value),(∀v∈vs,v.cells.size=size)→pre.length=k*size→rest.length=vs.length*size→
 Instr.fill (fun i=>some (i*size,size)) (pre++rest).toArray ((vs.zipIdx k).map fun x=>(x.2,x.1))=some (pre++vs.flatMap (·.cells.toList)).toArray
 | [],k,pre,rest,_,_,hr=>by
   simp at hr;subst hr;simp[Instr.fill]
 |v::vs,k,pre,rest,hv,hp,hr=>by
  have hsz:=hv v (by simp);simp only[List.zipIdx_cons,List.map_cons,Instr.fill,List.length_cons,Nat.add_mul,Nat.one_mul]at hr⊢;rw[if_neg (by simp[hsz];omega)];have hf:=TB (k*size) v.cells.toList 0 (pre++rest) (by simp[hsz];omega)
  have hz:Array.foldl (fun cs (x:Value×Nat)=>match x with|(c,j)=>cs.setIfInBounds (k*size+j) c) (pre++rest).toArray v.cells.zipIdx=(pre++v.cells.toList++rest.drop size).toArray:=by
   have e0:v.cells.zipIdx.toList=v.cells.toList.zipIdx 0:=by simp
   rw[←Array.foldl_toList,e0];refine Eq.trans ?_ (hf.trans ?_)
   ·rfl
   ·congr 1
    have hvl:v.cells.toList.length=size:=by rw[Array.length_toList];exact hsz
    rw[Nat.add_zero,←hp,List.take_left,hvl,List.drop_append,List.drop_of_length_le (by omega),List.nil_append,Nat.add_sub_cancel_left]
  rw[hz];have:=XC size vs (k+1) (pre++v.cells.toList) (rest.drop size) (fun u hu=>hv u (by simp[hu])) (by simp[hsz,hp,Nat.add_mul]) (by simp;omega);rw[this];simp
theorem JH{ty:TypeId}{l:List SV}(rd:List Nat)(_hd:o.dst=some id)(ho:o.op= .buildSlice ty n parts)(hgd:AR ops o s)
 (hp:parts.toList.map (·.1)=List.range' 0 n)(hx:parts.toList.map (fun p=>AC s p.2)=ys)(hls:ys.length=ls.length)
 (hc: ∀ρ S w,Bw w0 w→RelOn w0.heap.size ρ S w (restr rd s.mem)→ ∀(j:Nat) (y:SV) (lj:List SV),ys[j]? =some y→ls[j]? =some lj→(y.c ρ).cells.toList=SV.cs ρ lj)
 (hn: ∀lj∈ls,lj.length=size)(hl:ls.flatten=l)(hid:SV.hasL id l=false)
 (hu:P.underlying ty=some (.slice e))(hsz:(P.info? e).map (·.size)=some size)(hz:((P.info? e).bind (·.zero)).isSome=true)(hpos:0<n*size)(hsm:n*size≤2^24):
 Ev P ops w0 o s ⟨.s id 0 n n,[(id,.cells l e)],[],[id],rd⟩:=
 ⟨by simp[Eff.ok],.inr ⟨hgd,fun ρ S w hbw hR=>by
  have hyn:ys.length=n:=by
   have:=congrArg List.length hp;rw[List.length_map,List.length_range']at this;rw[←hx,List.length_map,this]
  have hvs: ∀v∈ys.map (SV.c ρ),v.cells.size=size:=by
   intro v hv;obtain⟨y,hy,rfl⟩:=List.mem_map.1 hv;obtain⟨j,hj,rfl⟩:=List.getElem_of_mem hy;have hjl:j<ls.length:=by omega
   have:=hc ρ S w hbw hR j ys[j] ls[j] (List.getElem?_eq_getElem hj) (List.getElem?_eq_getElem hjl);rw[←Array.length_toList,this,A3,List.length_map];exact hn _ (List.getElem_mem hjl)
  have hflat:(ys.map (SV.c ρ)).flatMap (·.cells.toList)=SV.cs ρ l:=by
   rw[←hl,A3,List.map_flatten];rw[List.flatMap_def,List.map_map];congr 1
   apply List.ext_getElem (by simp[hls]);intro j h1 h2;simp only[List.length_map]at h1 h2;have:=hc ρ S w hbw hR j ys[j] ls[j] (List.getElem?_eq_getElem h1) (List.getElem?_eq_getElem h2);simp[this,A3]
  have hparts:(parts.map fun(p:Nat×Operand)=>(p.1,(s.act ρ).eval p.2)).toList=((ys.map (SV.c ρ)).zipIdx 0).map fun x=>(x.2,x.1):=by
   apply List.ext_getElem?;intro j;have hpl:parts.toList.length=n:=by have:=congrArg List.length hp;simpa using this
   rw[Array.toList_map];by_cases hj:j<n
   ·have hjp:j<parts.toList.length:=by omega
    have h1:(parts.toList[j]).1=j:=by
     have h2:=congrArg (fun(q:List Nat)=>q[j]?) hp;simp only[List.getElem?_map,List.getElem?_eq_getElem hjp,Option.map_some]at h2;rw[List.getElem?_range' hj]at h2;simp at h2;simpa using h2
    have hjy:j<ys.length:=by omega
    have h3:AC s (parts.toList[j]).2=ys[j]:=by
     have h2:=congrArg (fun(q:List SV)=>q[j]?) hx;simp only[List.getElem?_map,List.getElem?_eq_getElem hjp,Option.map_some,List.getElem?_eq_getElem hjy,Option.some.injEq]at h2;exact h2
    rw[List.getElem?_map,List.getElem?_eq_getElem hjp,Option.map_some,List.getElem?_map,List.getElem?_zipIdx,List.getElem?_map,List.getElem?_eq_getElem hjy];simp only[Option.map_some,h1,AH,h3,Nat.zero_add]
   ·rw[List.getElem?_eq_none (by simp at hpl ⊢; omega),List.getElem?_eq_none (by simp;omega)]
  cases hie:P.info? e with
  |none=>simp[hie]at hsz
  |some ie=>
   have hsz':ie.size=size:=by simpa[hie] using hsz
   simp only[hie,Option.bind_some]at hz;obtain⟨z,hzz⟩:=Option.isSome_iff_exists.1 hz
   have hrun:=run_buildSlice (P:=P) w ty e n (parts.map fun(p:Nat×Operand)=>(p.1,(s.act ρ).eval p.2)) (SV.cs ρ l).toArray ie z hu hie hzz (by rw[hsz'];omega) (by rw[hsz'];omega) (by
    rw[hparts,hsz'];have:=XC size (ys.map (SV.c ρ)) 0 [] ((Array.range (n*size)).map (z.cells[· %z.cells.size]!)).toList hvs (by simp) (by simp[hyn]);rw[List.nil_append,Array.toArray_toList,List.nil_append,hflat]at this;exact this)
   refine .inl ⟨.slice (some ⟨w.heap.size,0,none⟩) n n,w.alloc (.cells (SV.cs ρ l).toArray e),?_,fun j=>if j=id then⟨w.heap.size,undef⟩else ρ j,fun _ _=>False,?_⟩
   ·simp only[execOp,ho]
    rw[Sem.run_bind,hrun];rfl
   ·have:=Cu (base:=w0.heap.size) (t:=s.mem) (ρ:=ρ) (S:=S) (w:=w) (w':=w.alloc (.cells (SV.cs ρ l).toArray e)) (val:= .s id 0 n n) (rd:=rd) (up:=[]) (id:=id) (b:= .cells l e) (m:=⟨w.heap.size,undef⟩) (S1:=fun _=>False)
     rfl rfl rfl (by simp) (fun k hk _=>heap_alloc_old w _ hk) (fun ρ' g1 g2=>by
      refine⟨by rw[g1];exact hbw.size,?_⟩;rw[g1];simp only[Cb];rw[Ep (nw:=[id]) (fun i hi=>g2 i (by simpa using hi)) (fun i hi=>by simp at hi;rw[hi];exact hid)];exact heap_alloc_new w _) (fun _ h=>h.elim) (fun _=> .inr ⟨Nat.le_refl _,fun h=>h⟩)
    simpa[SV.c] using this⟩⟩
theorem F5{c:Code}{m:List (Nat×Blk)}{fr':(Nat→Value)→List SV}(keep:Nat→Bool)(drop:List Nat)(hf: ∀f,CC keep f 0 fr=fr' f)(hm:BS m drop=m')(h: ∀f,VOk P w0 ⟨fr' f,AK m'⟩ c Q):VOk P w0 ⟨fr,AK m⟩ c Q:=
 OM keep drop fun f=>by rw[hf,hm];exact h f
end
end Go.Vx
namespace Go.Proofs.YtefpajmkaaielaaGreatDoor
section
open Go.RowKit Go.Toll
open TollMont
theorem uh{k:Nat}(h:k<W):N k= .agg #[.int .u64 (k:Nat),.int .u64 0,.int .u64 0,.int .u64 0]:=by
 have h0:lim k 0=k:=by rw[GZ,Nat.mod_eq_of_lt h]
 have h1:lim k 1=0:=by rw[FD,Nat.div_eq_of_lt h];rfl
 have h2:lim k 2=0:=by rw[FD,Nat.div_eq_of_lt h];rfl
 have h3:lim k 3=0:=by rw[FD,Nat.div_eq_of_lt h];rfl
 unfold N;rw[h0,h1,h2,h3];rfl
def Db(c0 c1 c2 c3 c4 c5 c6 c7:Nat):Nat:=256*(256*(256*(256*(256*(256*(256*(256*0+c0)+c1)+c2)+c3)+c4)+c5)+c6)+c7
def cvF(x:Nat):Nat:=x %18446744073709551616
def Cf(x:Nat)(s:Int):Nat:=x*2^s.toNat %18446744073709551616
def AX(x:Nat)(s:Int):Nat:=x/2^s.toNat
def lwF(x:Nat):Nat:=x %256
theorem GQ(s t a c:Nat)(ht:t=s+8)(hs:s<57)(ha:2^t*a<18446744073709551616)(hc:c<256):B2 (2^t*a) (Cf (cvF c) (s:Nat))=2^s*(256*a+c):=by
 have hp:2^t=256*2^s:=by rw[ht,Nat.pow_add,Nat.mul_comm]
 have hb:c*2^s<2^t:=by
  rw[hp];exact Nat.mul_lt_mul_of_pos_right hc (Nat.two_pow_pos s)
 have ht2:2^t≤18446744073709551616:=by
  rw[show 18446744073709551616=2^64 by decide];exact Nat.pow_le_pow_right (by decide) (by omega)
 have e1:cvF c=c:=Nat.mod_eq_of_lt (by omega);have e2:Cf c (s:Nat)=c*2^s:=by unfold Cf;rw[Int.toNat_natCast];exact Nat.mod_eq_of_lt (by omega)
 rw[e1,e2];unfold B2;rw[Nat.mod_eq_of_lt ha,Nat.mod_eq_of_lt (show c*2^s<18446744073709551616 by omega),←Nat.two_pow_add_eq_or_of_lt hb a,hp];rw[Nat.mul_add,Nat.mul_comm c,←Nat.mul_assoc,Nat.mul_comm (2^s) 256]
theorem MV(c0 c1 c2 c3 c4 c5 c6 c7:Nat)(h0:c0<256)(h1:c1<256)(h2:c2<256)(h3:c3<256)(h4:c4<256)(h5:c5<256)(h6:c6<256)(h7:c7<256):(B2 (B2 (B2 (B2 (B2 (B2 (B2 (B2 0 (Cf (cvF c0) 56)) (Cf (cvF c1) 48)) (Cf (cvF c2) 40)) (Cf (cvF c3) 32)) (Cf (cvF c4) 24)) (Cf (cvF c5) 16)) (Cf (cvF c6) 8)) (Cf (cvF c7) 0))=Db c0 c1 c2 c3 c4 c5 c6 c7:=by
 have s0:B2 (2^64*0) (Cf (cvF c0) 56)=2^56*(256*0+c0):=GQ 56 64 0 c0 rfl (by decide) (by omega) h0;have s1:B2 (2^56*(256*0+c0)) (Cf (cvF c1) 48)=2^48*(256*(256*0+c0)+c1):=GQ 48 56 (256*0+c0) c1 rfl (by decide) (by omega) h1;have s2:B2 (2^48*(256*(256*0+c0)+c1)) (Cf (cvF c2) 40)=2^40*(256*(256*(256*0+c0)+c1)+c2):=GQ 40 48 (256*(256*0+c0)+c1) c2 rfl (by decide) (by omega) h2;have s3:B2 (2^40*(256*(256*(256*0+c0)+c1)+c2)) (Cf (cvF c3) 32)=2^32*(256*(256*(256*(256*0+c0)+c1)+c2)+c3):=GQ 32 40 (256*(256*(256*0+c0)+c1)+c2) c3 rfl (by decide) (by omega) h3;have s4:B2 (2^32*(256*(256*(256*(256*0+c0)+c1)+c2)+c3)) (Cf (cvF c4) 24)=2^24*(256*(256*(256*(256*(256*0+c0)+c1)+c2)+c3)+c4):=GQ 24 32 (256*(256*(256*(256*0+c0)+c1)+c2)+c3) c4 rfl (by decide) (by omega) h4;have s5:B2 (2^24*(256*(256*(256*(256*(256*0+c0)+c1)+c2)+c3)+c4)) (Cf (cvF c5) 16)=2^16*(256*(256*(256*(256*(256*(256*0+c0)+c1)+c2)+c3)+c4)+c5):=GQ 16 24 (256*(256*(256*(256*(256*0+c0)+c1)+c2)+c3)+c4) c5 rfl (by decide) (by omega) h5;have s6:B2 (2^16*(256*(256*(256*(256*(256*(256*0+c0)+c1)+c2)+c3)+c4)+c5)) (Cf (cvF c6) 8)=2^8*(256*(256*(256*(256*(256*(256*(256*0+c0)+c1)+c2)+c3)+c4)+c5)+c6):=GQ 8 16 (256*(256*(256*(256*(256*(256*0+c0)+c1)+c2)+c3)+c4)+c5) c6 rfl (by decide) (by omega) h6;have s7:B2 (2^8*(256*(256*(256*(256*(256*(256*(256*0+c0)+c1)+c2)+c3)+c4)+c5)+c6)) (Cf (cvF c7) 0)=2^0*(256*(256*(256*(256*(256*(256*(256*(256*0+c0)+c1)+c2)+c3)+c4)+c5)+c6)+c7):=GQ 0 8 (256*(256*(256*(256*(256*(256*(256*0+c0)+c1)+c2)+c3)+c4)+c5)+c6) c7 rfl (by decide) (by omega) h7;rw[show(B2 0 (Cf (cvF c0) 56))=2^56*(256*0+c0) from s0,s1,s2,s3,s4,s5,s6,s7];unfold Db;omega
theorem Ld(c0 c1 c2 c3 c4 c5 c6 c7:Nat)(h0:c0<256)(h1:c1<256)(h2:c2<256)(h3:c3<256)(h4:c4<256)(h5:c5<256)(h6:c6<256)(h7:c7<256):Db c0 c1 c2 c3 c4 c5 c6 c7<W:=by unfold Db;simp only[W];omega
theorem Lc(a:Nat)(h:a<W):Db (lwF (AX a 56)) (lwF (AX a 48)) (lwF (AX a 40)) (lwF (AX a 32)) (lwF (AX a 24)) (lwF (AX a 16)) (lwF (AX a 8)) (lwF (AX a 0))=a:=by
 show Db (a/72057594037927936 %256) (a/281474976710656 %256) (a/1099511627776 %256) (a/4294967296 %256) (a/16777216 %256) (a/65536 %256) (a/256 %256) (a/1 %256)=a;simp only[W]at h;unfold Db;omega
theorem Bo(x:Nat)(s:Int):lwF (AX x s)<256:=Nat.mod_lt _ (by decide)
def GR(b0 b1 b2 b3 b4 b5 b6 b7 b8 b9 b10 b11 b12 b13 b14 b15 b16 b17 b18 b19 b20 b21 b22 b23 b24 b25 b26 b27 b28 b29 b30 b31:Nat):Nat:=(Db b24 b25 b26 b27 b28 b29 b30 b31)+W*((Db b16 b17 b18 b19 b20 b21 b22 b23)+W*((Db b8 b9 b10 b11 b12 b13 b14 b15)+W*((Db b0 b1 b2 b3 b4 b5 b6 b7)+W*0)))
section
variable{b0 b1 b2 b3 b4 b5 b6 b7 b8 b9 b10 b11 b12 b13 b14 b15 b16 b17 b18 b19 b20 b21 b22 b23 b24 b25 b26 b27 b28 b29 b30 b31:Nat}(l0:b0<256)(l1:b1<256)(l2:b2<256)(l3:b3<256)(l4:b4<256)(l5:b5<256)(l6:b6<256)(l7:b7<256)(l8:b8<256)(l9:b9<256)(l10:b10<256)(l11:b11<256)(l12:b12<256)(l13:b13<256)(l14:b14<256)(l15:b15<256)(l16:b16<256)(l17:b17<256)(l18:b18<256)(l19:b19<256)(l20:b20<256)(l21:b21<256)(l22:b22<256)(l23:b23<256)(l24:b24<256)(l25:b25<256)(l26:b26<256)(l27:b27<256)(l28:b28<256)(l29:b29<256)(l30:b30<256)(l31:b31<256)
include l0 l1 l2 l3 l4 l5 l6 l7 l8 l9 l10 l11 l12 l13 l14 l15 l16 l17 l18 l19 l20 l21 l22 l23 l24 l25 l26 l27 l28 l29 l30 l31
theorem fg:lim (GR b0 b1 b2 b3 b4 b5 b6 b7 b8 b9 b10 b11 b12 b13 b14 b15 b16 b17 b18 b19 b20 b21 b22 b23 b24 b25 b26 b27 b28 b29 b30 b31) 0=(Db b24 b25 b26 b27 b28 b29 b30 b31)∧lim (GR b0 b1 b2 b3 b4 b5 b6 b7 b8 b9 b10 b11 b12 b13 b14 b15 b16 b17 b18 b19 b20 b21 b22 b23 b24 b25 b26 b27 b28 b29 b30 b31) 1=(Db b16 b17 b18 b19 b20 b21 b22 b23)∧lim (GR b0 b1 b2 b3 b4 b5 b6 b7 b8 b9 b10 b11 b12 b13 b14 b15 b16 b17 b18 b19 b20 b21 b22 b23 b24 b25 b26 b27 b28 b29 b30 b31) 2=(Db b8 b9 b10 b11 b12 b13 b14 b15)∧lim (GR b0 b1 b2 b3 b4 b5 b6 b7 b8 b9 b10 b11 b12 b13 b14 b15 b16 b17 b18 b19 b20 b21 b22 b23 b24 b25 b26 b27 b28 b29 b30 b31) 3=(Db b0 b1 b2 b3 b4 b5 b6 b7)∧(GR b0 b1 b2 b3 b4 b5 b6 b7 b8 b9 b10 b11 b12 b13 b14 b15 b16 b17 b18 b19 b20 b21 b22 b23 b24 b25 b26 b27 b28 b29 b30 b31)<R:=by
 have g0:=Ld _ _ _ _ _ _ _ _ l0 l1 l2 l3 l4 l5 l6 l7;have g1:=Ld _ _ _ _ _ _ _ _ l8 l9 l10 l11 l12 l13 l14 l15;have g2:=Ld _ _ _ _ _ _ _ _ l16 l17 l18 l19 l20 l21 l22 l23;have g3:=Ld _ _ _ _ _ _ _ _ l24 l25 l26 l27 l28 l29 l30 l31;obtain⟨h0,h1,h2,h3,h4⟩:=Io _ _ _ _ 0 g3 g2 g1 g0;refine⟨h0,h1,h2,h3,?_⟩;have:=Nat.div_eq_zero_iff.1 h4;rcases this with c|c
 ·exact absurd c (by decide)
 ·exact c
theorem fa(w:World):CGy 41 #[.agg #[.int .u8 (b0:Nat),.int .u8 (b1:Nat),.int .u8 (b2:Nat),.int .u8 (b3:Nat),.int .u8 (b4:Nat),.int .u8 (b5:Nat),.int .u8 (b6:Nat),.int .u8 (b7:Nat),.int .u8 (b8:Nat),.int .u8 (b9:Nat),.int .u8 (b10:Nat),.int .u8 (b11:Nat),.int .u8 (b12:Nat),.int .u8 (b13:Nat),.int .u8 (b14:Nat),.int .u8 (b15:Nat),.int .u8 (b16:Nat),.int .u8 (b17:Nat),.int .u8 (b18:Nat),.int .u8 (b19:Nat),.int .u8 (b20:Nat),.int .u8 (b21:Nat),.int .u8 (b22:Nat),.int .u8 (b23:Nat),.int .u8 (b24:Nat),.int .u8 (b25:Nat),.int .u8 (b26:Nat),.int .u8 (b27:Nat),.int .u8 (b28:Nat),.int .u8 (b29:Nat),.int .u8 (b30:Nat),.int .u8 (b31:Nat)]] w (N (GR b0 b1 b2 b3 b4 b5 b6 b7 b8 b9 b10 b11 b12 b13 b14 b15 b16 b17 b18 b19 b20 b21 b22 b23 b24 b25 b26 b27 b28 b29 b30 b31)):=by
 obtain⟨h0,h1,h2,h3,_⟩:=fg l0 l1 l2 l3 l4 l5 l6 l7 l8 l9 l10 l11 l12 l13 l14 l15 l16 l17 l18 l19 l20 l21 l22 l23 l24 l25 l26 l27 l28 l29 l30 l31;have h:=fe B2 cvF Cf b0 b1 b2 b3 b4 b5 b6 b7 b8 b9 b10 b11 b12 b13 b14 b15 b16 b17 b18 b19 b20 b21 b22 b23 b24 b25 b26 b27 b28 b29 b30 b31 w (fun x w=>sD x w) (fun x y p q w=>RU x y p q w) (fun y p q w=>RU 0 y p q w) (fun x s a b p q w=>rx x s a b p q w);rw[MV _ _ _ _ _ _ _ _ l24 l25 l26 l27 l28 l29 l30 l31,MV _ _ _ _ _ _ _ _ l16 l17 l18 l19 l20 l21 l22 l23,MV _ _ _ _ _ _ _ _ l8 l9 l10 l11 l12 l13 l14 l15,MV _ _ _ _ _ _ _ _ l0 l1 l2 l3 l4 l5 l6 l7]at h;unfold N;rw[h0,h1,h2,h3];exact h
end
theorem Np(n:Nat)(w:World):CGy 45 #[N n] w (.agg #[.int .u8 ((lwF (AX (lim n 3) 56)):Nat),.int .u8 ((lwF (AX (lim n 3) 48)):Nat),.int .u8 ((lwF (AX (lim n 3) 40)):Nat),.int .u8 ((lwF (AX (lim n 3) 32)):Nat),.int .u8 ((lwF (AX (lim n 3) 24)):Nat),.int .u8 ((lwF (AX (lim n 3) 16)):Nat),.int .u8 ((lwF (AX (lim n 3) 8)):Nat),.int .u8 ((lwF (AX (lim n 3) 0)):Nat),.int .u8 ((lwF (AX (lim n 2) 56)):Nat),.int .u8 ((lwF (AX (lim n 2) 48)):Nat),.int .u8 ((lwF (AX (lim n 2) 40)):Nat),.int .u8 ((lwF (AX (lim n 2) 32)):Nat),.int .u8 ((lwF (AX (lim n 2) 24)):Nat),.int .u8 ((lwF (AX (lim n 2) 16)):Nat),.int .u8 ((lwF (AX (lim n 2) 8)):Nat),.int .u8 ((lwF (AX (lim n 2) 0)):Nat),.int .u8 ((lwF (AX (lim n 1) 56)):Nat),.int .u8 ((lwF (AX (lim n 1) 48)):Nat),.int .u8 ((lwF (AX (lim n 1) 40)):Nat),.int .u8 ((lwF (AX (lim n 1) 32)):Nat),.int .u8 ((lwF (AX (lim n 1) 24)):Nat),.int .u8 ((lwF (AX (lim n 1) 16)):Nat),.int .u8 ((lwF (AX (lim n 1) 8)):Nat),.int .u8 ((lwF (AX (lim n 1) 0)):Nat),.int .u8 ((lwF (AX (lim n 0) 56)):Nat),.int .u8 ((lwF (AX (lim n 0) 48)):Nat),.int .u8 ((lwF (AX (lim n 0) 40)):Nat),.int .u8 ((lwF (AX (lim n 0) 32)):Nat),.int .u8 ((lwF (AX (lim n 0) 24)):Nat),.int .u8 ((lwF (AX (lim n 0) 16)):Nat),.int .u8 ((lwF (AX (lim n 0) 8)):Nat),.int .u8 ((lwF (AX (lim n 0) 0)):Nat)]):=qj lwF AX (lim n 0) (lim n 1) (lim n 2) (lim n 3) w (fun x w=>sC x w) (fun x s a b p q w=>rp x s a b p q w)
theorem UL(n:Nat)(hn:n<R)(w:World):CGy 41 #[.agg #[.int .u8 ((lwF (AX (lim n 3) 56)):Nat),.int .u8 ((lwF (AX (lim n 3) 48)):Nat),.int .u8 ((lwF (AX (lim n 3) 40)):Nat),.int .u8 ((lwF (AX (lim n 3) 32)):Nat),.int .u8 ((lwF (AX (lim n 3) 24)):Nat),.int .u8 ((lwF (AX (lim n 3) 16)):Nat),.int .u8 ((lwF (AX (lim n 3) 8)):Nat),.int .u8 ((lwF (AX (lim n 3) 0)):Nat),.int .u8 ((lwF (AX (lim n 2) 56)):Nat),.int .u8 ((lwF (AX (lim n 2) 48)):Nat),.int .u8 ((lwF (AX (lim n 2) 40)):Nat),.int .u8 ((lwF (AX (lim n 2) 32)):Nat),.int .u8 ((lwF (AX (lim n 2) 24)):Nat),.int .u8 ((lwF (AX (lim n 2) 16)):Nat),.int .u8 ((lwF (AX (lim n 2) 8)):Nat),.int .u8 ((lwF (AX (lim n 2) 0)):Nat),.int .u8 ((lwF (AX (lim n 1) 56)):Nat),.int .u8 ((lwF (AX (lim n 1) 48)):Nat),.int .u8 ((lwF (AX (lim n 1) 40)):Nat),.int .u8 ((lwF (AX (lim n 1) 32)):Nat),.int .u8 ((lwF (AX (lim n 1) 24)):Nat),.int .u8 ((lwF (AX (lim n 1) 16)):Nat),.int .u8 ((lwF (AX (lim n 1) 8)):Nat),.int .u8 ((lwF (AX (lim n 1) 0)):Nat),.int .u8 ((lwF (AX (lim n 0) 56)):Nat),.int .u8 ((lwF (AX (lim n 0) 48)):Nat),.int .u8 ((lwF (AX (lim n 0) 40)):Nat),.int .u8 ((lwF (AX (lim n 0) 32)):Nat),.int .u8 ((lwF (AX (lim n 0) 24)):Nat),.int .u8 ((lwF (AX (lim n 0) 16)):Nat),.int .u8 ((lwF (AX (lim n 0) 8)):Nat),.int .u8 ((lwF (AX (lim n 0) 0)):Nat)]] w (N n):=by
 have h:=fa (Bo (lim n 3) 56) (Bo (lim n 3) 48) (Bo (lim n 3) 40) (Bo (lim n 3) 32) (Bo (lim n 3) 24) (Bo (lim n 3) 16) (Bo (lim n 3) 8) (Bo (lim n 3) 0) (Bo (lim n 2) 56) (Bo (lim n 2) 48) (Bo (lim n 2) 40) (Bo (lim n 2) 32) (Bo (lim n 2) 24) (Bo (lim n 2) 16) (Bo (lim n 2) 8) (Bo (lim n 2) 0) (Bo (lim n 1) 56) (Bo (lim n 1) 48) (Bo (lim n 1) 40) (Bo (lim n 1) 32) (Bo (lim n 1) 24) (Bo (lim n 1) 16) (Bo (lim n 1) 8) (Bo (lim n 1) 0) (Bo (lim n 0) 56) (Bo (lim n 0) 48) (Bo (lim n 0) 40) (Bo (lim n 0) 32) (Bo (lim n 0) 24) (Bo (lim n 0) 16) (Bo (lim n 0) 8) (Bo (lim n 0) 0) w
 have e:GR (lwF (AX (lim n 3) 56)) (lwF (AX (lim n 3) 48)) (lwF (AX (lim n 3) 40)) (lwF (AX (lim n 3) 32)) (lwF (AX (lim n 3) 24)) (lwF (AX (lim n 3) 16)) (lwF (AX (lim n 3) 8)) (lwF (AX (lim n 3) 0)) (lwF (AX (lim n 2) 56)) (lwF (AX (lim n 2) 48)) (lwF (AX (lim n 2) 40)) (lwF (AX (lim n 2) 32)) (lwF (AX (lim n 2) 24)) (lwF (AX (lim n 2) 16)) (lwF (AX (lim n 2) 8)) (lwF (AX (lim n 2) 0)) (lwF (AX (lim n 1) 56)) (lwF (AX (lim n 1) 48)) (lwF (AX (lim n 1) 40)) (lwF (AX (lim n 1) 32)) (lwF (AX (lim n 1) 24)) (lwF (AX (lim n 1) 16)) (lwF (AX (lim n 1) 8)) (lwF (AX (lim n 1) 0)) (lwF (AX (lim n 0) 56)) (lwF (AX (lim n 0) 48)) (lwF (AX (lim n 0) 40)) (lwF (AX (lim n 0) 32)) (lwF (AX (lim n 0) 24)) (lwF (AX (lim n 0) 16)) (lwF (AX (lim n 0) 8)) (lwF (AX (lim n 0) 0))=n:=by
  unfold GR;rw[Lc _ (Ae n 0),Lc _ (Ae n 1),Lc _ (Ae n 2),Lc _ (Ae n 3),Nat.mul_zero,Nat.add_zero];exact(FC hn).symm
 rw[e]at h;exact h
end
section
open Go.RowKit Go.Vx
variable{ops:Array Oper}{p:Bool}{ki:IntKind}{a b bs rd:List Nat}{o:Oper}{x:Operand}{P:Program}{dt e t:TypeId}{s:VS}{w0:World}
open TollSha
open Go.Toll (Gw)
def AI(bs:List Nat):ByteArray:=⟨(bs.map fun b=>UInt8.ofNat b).toArray⟩
theorem Nv(b:List Nat):(AI b).size=b.length:=by simp[AI,ByteArray.size]
theorem rJ{i c:Nat}(h:b[i]? =some c):(AI b)[i]? =some (UInt8.ofNat c):=by
 obtain⟨hi,e⟩:=List.getElem?_eq_some_iff.1 h;have h1:i<(AI b).size:=by rw[Nv];exact hi
 rw[getElem?_pos (AI b) i h1];congr 1
 show(AI b).data[i]=_;simp[AI,e]
theorem Ns{c:Nat}(h:c<256):(UInt8.ofNat c).toNat=c:=by simp;omega
theorem ny(ho:o.op= .call {callee:= .builtin .len,args:= #[x],argTypes:= #[t]})(hgd:AR ops o s)(hx:AC s x= .v (.string (AI b)))(hu:prog.underlying t=some .string):Ev prog ops w0 o s ⟨.v (.int .i64 (b.length:Nat)),[],[],[],[]⟩:=by
 have:=nv (w0:=w0) ho hgd hx hu
 rwa [Nv]at this
theorem XK{ix:Operand}{k c:Nat}(ho:o.op= .index t x ix)(hgd:AR ops o s)(hx:AC s x= .v (.string (AI b)))(hi:AC s ix= .v (.int ki (k:Nat)))(hu:prog.underlying t=some .string)(hc:b[k]? =some c)(h8:c<256):Ev prog ops w0 o s ⟨.v (.int .u8 (c:Int)),[],[],[],[]⟩:=by
 have:=oD (w0:=w0) ho hgd hx hi hu (rJ hc)
 rwa [Ns h8]at this
theorem rH(ha: ∀x∈a,x<256)(hb: ∀x∈b,x<256):AI a=AI b↔a=b:=by
 refine⟨fun h=> ?_,fun h=>by rw[h]⟩
 have h1:a.map (fun b=>UInt8.ofNat b)=b.map (fun b=>UInt8.ofNat b):=by
  have:=congrArg (fun s:ByteArray=>s.data.toList) h;simpa[AI] using this
 apply List.ext_getElem?;intro i;have h2:=congrArg (fun l=>(l[i]?).map UInt8.toNat) h1;simp only[List.getElem?_map]at h2;cases h3:a[i]? with
 |none=>rw[h3]at h2;cases h4:b[i]? with
  |none=>rfl
  |some y=>rw[h4]at h2;simp at h2
 |some x=>rw[h3]at h2;cases h4:b[i]? with
  |none=>rw[h4]at h2;simp at h2
  |some y=>
   rw[h4]at h2;simp only[Option.map_some,Option.some.injEq]at h2;rw[Ns (ha x (List.mem_of_getElem? h3)),Ns (hb y (List.mem_of_getElem? h4))]at h2;rw[h2]
theorem Yl(ha: ∀x∈a,x<256)(hb: ∀x∈b,x<256):((AI a).toList==(AI b).toList)=decide (a=b):=by
 rw[←decide_eq_decide.2 (rH ha hb)];refine Bool.eq_iff_iff.2 ?_;rw[beq_iff_eq,decide_eq_true_eq];refine⟨fun h=> ?_,fun h=>by rw[h]⟩;rw[ByteArray.toList_eq,ByteArray.toList_eq]at h;exact Go.WideShapes.bytes_inj h
theorem L6(h:decide (a=b)=p)(ha: ∀x∈a,x<256)(hb: ∀x∈b,x<256):BOy .eql 9 (.string (AI a)) (.string (AI b)) (.bool p):=by
 intro x y w
 go_simp
 rw[Yl ha hb,h]
theorem L5(h:decide (a≠b)=p)(ha: ∀x∈a,x<256)(hb: ∀x∈b,x<256):BOy .neq 9 (.string (AI a)) (.string (AI b)) (.bool p):=by
 intro x y w
 have e:((AI a).toList==(AI b).toList)= !p:=by
  rw[Yl ha hb,←h];simp
 go_simp
 try exact e
theorem bX(l:List Nat):HD (l.map b8)=AI l:=by
 simp only[HD,AI,List.map_map];congr 2
theorem sF(bs:List Nat):(bs.map b8).all ND=true:=by
 rw[List.all_map];exact List.all_eq_true.2 fun _ _=>rfl
theorem ER{st:TypeId}{n:Nat}{y:SV}(ho:o.op= .convert st dt x)(hgd:AR ops o s)(hx:AC s x=y)
 (hs:P.underlying st=some (.slice e))(he:P.underlying e=some (.int .u8))(hd:P.underlying dt=some .string)(hr:Rdg w0 s.mem rd y n 1 (bs.map b8)):Ev P ops w0 o s ⟨.v (.string (AI bs)),[],[],[],rd⟩:=by
 have:=oO (w0:=w0) ho hgd hx hs he hd hr (sF bs)
 rwa [bX]at this
theorem bV(h: ∀x∈b,x<256):L8 (AI b)=b.map b8:=by
 simp only[Go.Lib.strCells,AI,List.map_map];apply List.map_congr_left;intro x hx;simp only[Function.comp,b8];rw[Ns (h x hx)]
theorem XQ{st:TypeId}{id:Nat}(_hd:o.dst=some id)(ho:o.op= .convert st dt x)(hgd:AR ops o s)(hx:AC s x= .v (.string (AI b)))
 (hs:prog.underlying st=some .string)(hd:prog.underlying dt=some (.slice e))(he:prog.underlying e=some (.int .u8))(hm:b.length≤maxLen)(h8: ∀x∈b,x<256):Ev prog ops w0 o s ⟨.d id,[(id,.row b.length 1 e (.exact (b.map b8)))],[],[id],[]⟩:=by
 have:=oN (w0:=w0) _hd ho hgd hx hs hd he (by rw[Nv];exact hm)
 rwa [Nv,bV h8]at this
end
end Go.Proofs.YtefpajmkaaielaaGreatDoor
namespace Go.Vx
open Go.RowKit Go.Toll
section
variable{P:Program}{w0:World}{ops:Array Oper}{o:Oper}{s:VS}
theorem XE{t e:TypeId}{x y:Operand}{id k:Nat}{z:Value}(_hd:o.dst=some id)(ho:o.op= .makeSlice t x y)(hgd:AR ops o s)
 (hx:AC s x= .v (.int .i64 (k:Nat)))(hy:AC s y= .v (.int .i64 (k:Nat)))(ht:P.underlying t=some (.slice e))(hI:C2 P e 1 1)(hz: ∀w,(zeroValue e).run P w= .ok z w)(hzc:z.cells= #[z])(hk:k≤140737488355328):
 Ev P ops w0 o s ⟨.d id,[(id,.row k 1 e (.exact (List.replicate k z)))],[],[id],[]⟩:=
 ⟨by simp[Eff.ok],.inr ⟨hgd,fun ρ S w hb hR=>by
  obtain⟨i,z',hi,hz',hsize,hby,hzs⟩:=hI.get;have e1:=AH s ρ x;rw[hx]at e1;have e2:=AH s ρ y;rw[hy]at e2;simp only[SV.c]at e1 e2
  have hzz:z=z':=by
   have:=hz w;simp[zeroValue,typeInfo,hi,hz']at this;exact this.symm
  subst hzz
  have hzl:madeCells #[z] k=(List.replicate k z).toArray:=by
   apply Array.ext
   ·simp[madeCells]
   ·intro j h1 h2;simp[madeCells,Nat.mod_one]
  have hr:=run_make (P:=P) w t e i z ht hi hz' .i64 .i64 (k:Int) (k:Int) (by omega) (by omega) (by rw[hby];omega) (by omega);rw[hsize,hzc,Int.toNat_natCast,Nat.mul_one,hzl]at hr;refine .inl ⟨.slice (some ⟨w.heap.size,0,none⟩) k k,w.alloc (.cells (List.replicate k z).toArray e),?_,fun j=>if j=id then⟨w.heap.size,.slice (some ⟨w.heap.size,0,none⟩) k k⟩else ρ j,fun _ _=>False,?_⟩
  ·simp only[execOp,ho,e1,e2]
   rw[Sem.run_bind,hr];rfl
  ·have:=GO (t:=s.mem) (ρ:=ρ) (S:=S) (val:= .d id) (rd:=[]) (id:=id) (n:=k) (size:=1) (ty:=e) (l:=List.replicate k z) (w:=w) (w':=w.alloc (.cells (List.replicate k z).toArray e)) (v:= .slice (some ⟨w.heap.size,0,none⟩) k k) (g:=w.heap.size) hb.size
    ⟨rfl,rfl,rfl,by simp,fun k hk=>heap_alloc_old w _ hk⟩ (by simp) (.inr ⟨0,k,(List.replicate k z).toArray,(0,0),rfl,Nat.le_refl _,heap_alloc_new w _,.inl rfl,Nat.le_refl _,by simp only[maxLen];omega,by simp,by simp⟩)
   simpa[SV.c] using this⟩⟩
end
end Go.Vx
