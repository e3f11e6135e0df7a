import Derived.Lib.MakeNoZero
import Derived.Great.BuildSlice
import Derived.Test.YtafbhakmkbehiaaGreatDoorZ11
import Derived.Test.YtafbhakmkbehiaaGreatDoorZ12
open Go.Proofs.Tryz
set_option maxRecDepth 100000
namespace Go.Proofs.YtafbhakmkbehiaaGreatDoor
section
open Go.RowKit Go.Toll TollMont
def pl(x y:Nat):Nat:=(x+y) %18446744073709551616
variable{m:Nat}
end
end Go.Proofs.YtafbhakmkbehiaaGreatDoor
namespace Go.Vx
open Go.RowKit Go.Toll
variable{parts:Array (Nat×Operand)}{Q:Exit→VS→Prop}{f:FuncId}{ls:List (List SV)}{m':List (Nat×Blk)}{rd:List Nat}{fr ys:List SV}{news:List Value}{p q:List Value→Prop}{a b id k n size:Nat}{ρ:Nat→Nm}{x y:Operand}{hi lo:Option Operand}{e ty:TypeId}
section
variable{P:Program}{w0:World}{ops:Array Oper}{o:Oper}{s:VS}
def G4(p:List Value→Prop):Dat:=⟨fun xs _ _=>p xs,fun h _=>h⟩
theorem oG{t:TypeId}(_hd:o.dst=some id)(ho:o.op= .call {callee:= .value (.func f),args:= #[x],argTypes:= #[t]})(hgd:AQ ops o s)
 (hx:AE s x= .v (.int .i64 (n:Nat)))(_hn0:0<n)
 (hr: ∀w,∃cs:Array Value,(callFunc f #[.int .i64 (n:Nat)]).run P w= .ok (.value (.slice (some ⟨w.heap.size,0,none⟩) n cs.size)) (w.drew.drew.alloc (.cells cs e))∧n≤cs.size∧cs.size≤maxLen):
 Ev P ops w0 o s ⟨.d id,[(id,.row n 1 e (G4 fun _=>True))],[],[id],[]⟩:=
 ⟨by simp[Eff.ok],.inr ⟨hgd,fun ρ S w hb hR=>by
  have e1:=AI s ρ x;rw[hx]at e1;simp only[SV.c]at e1;obtain⟨cs,h1,h2,h3⟩:=hr w;refine .inl ⟨.slice (some ⟨w.heap.size,0,none⟩) n cs.size,w.drew.drew.alloc (.cells cs e),?_,fun j=>if j=id then⟨w.heap.size,.slice (some ⟨w.heap.size,0,none⟩) n cs.size⟩else ρ j,fun _ _=>False,?_⟩
  ·obtain⟨dst,op,type,pos,after,guard⟩:=o
   simp only at ho;subst ho;rw[execOp_call_go];simp only[List.map_toArray,List.map_cons,List.map_nil,e1];exact h1
  ·have hs:(w.drew.drew.alloc (.cells cs e)).heap[w.heap.size]? =some (.cells cs e):=heap_alloc_new w.drew.drew _
   have:=Cj (base:=w0.heap.size) (t:=s.mem) (ρ:=ρ) (S:=S) (w:=w) (w':=w.drew.drew.alloc (.cells cs e)) (val:= .d id) (rd:=[]) (up:=[]) (id:=id) (b:= .row n 1 e (G4 fun _=>True)) (m:=⟨w.heap.size,.slice (some ⟨w.heap.size,0,none⟩) n cs.size⟩) (S1:=fun _=>False)
    rfl rfl rfl (by simp) (fun k hk _=>heap_alloc_old w.drew.drew _ hk) (fun ρ' g1 g2=>by
     refine⟨cs.toList.take n,by simp;omega,True.intro,.inr ⟨0,cs.size,cs,(0,0),by rw[g1],by rw[g1];exact hb.size,by rw[g1];exact hs,.inl rfl,h2,h3,by omega,by simp⟩⟩) (fun _ h=>h.elim) (fun _=> .inr ⟨Nat.le_refl _,fun h=>h⟩)
   simpa[SV.c] using this⟩⟩
theorem oT{z:Operand}{id2:Nat}(_hd:o.dst=some id2)(ho:o.op= .slice ty x none (some y) (some z))(hgd:AQ ops o s)(hx:AE s x= .d id)(hm:s.mem id=some (.row n 1 e (G4 p)))
 (hu:P.underlying ty=some (.slice e))(hs: ∀w,(Go.sizeOf e).run P w= .ok 1 w)(hy:AE s y= .v (.int .i64 (n:Nat)))(hz:AE s z= .v (.int .i64 (n:Nat)))(hn0:0<n):
 Ev P ops w0 o s ⟨.d id2,[(id2,.row n 1 e (G4 p))],[id],[id2],[id]⟩:=by
 refine⟨by simp[Eff.ok],.inr ⟨hgd,fun ρ S w hb hR=> ?_⟩⟩;obtain⟨xs,g1,g2,g3⟩:=relon_get hR hm (by simp);have e1:=AI s ρ x;rw[hx]at e1;have e2:=AI s ρ y;rw[hy]at e2;have e3:=AI s ρ z;rw[hz]at e3;simp only[SV.c]at e1 e2 e3;rcases g3 with⟨_,h⟩|⟨off,cap,cur,fz,h1',h2',h3',h4',h5',h6',h7',h8'⟩
 ·omega
 ·have hbd: ∀(k m:Nat) (c:BoundsCode),k≤m→(Instr.sliceBound (.int .i64 (k:Nat)) m c).run P w= .ok k w:=by
   intro k m c hk;unfold Instr.sliceBound;rw[Sem.run_bind];simp only[asIntOf,Sem.run_pure,Result.andThen_ok];rw[if_pos ⟨by omega,by omega⟩];rfl
  have hrun:(execOp (s.act ρ).eval o).run P w= .ok (.value (.slice (some ⟨(ρ id).g,off,none⟩) n n)) w:=by
   rw[h1']at e1
   have key:(Instr.sliceBounds true n cap none (some (.int .i64 (n:Nat))) (some (.int .i64 (n:Nat)))).run P w= .ok (0,n,n) w:=by
    unfold Instr.sliceBounds;simp[hbd n cap _ h5',hbd n n _ (Nat.le_refl _)]
   simp[execOp,ho,e1,e2,e3,Instr.sliceAt,Instr.slice,run_underlying hu,hs,key,Addr.add];try omega
  refine .inl ⟨_,w,hrun,fun j=>if j=id2 then⟨(ρ id).g,.slice (some ⟨(ρ id).g,off,none⟩) n n⟩else ρ j,fun _ _=>False,?_⟩
  have:=Cj (base:=w0.heap.size) (t:=s.mem) (ρ:=ρ) (S:=S) (w:=w) (w':=w) (val:= .d id2) (rd:=[id]) (up:=[id]) (id:=id2) (b:= .row n 1 e (G4 p)) (m:=⟨(ρ id).g,.slice (some ⟨(ρ id).g,off,none⟩) n n⟩) (S1:=fun _=>False)
   rfl rfl rfl (Nat.le_refl _) (fun k hk _=>rfl) (fun ρ2 q1 _=>⟨xs,g1,g2,by rw[q1];exact .inr ⟨off,n,cur,fz,rfl,h2',h3',h4',Nat.le_refl _,by omega,by omega,h8'⟩⟩) (fun _ h=>h.elim)
   (fun hob=> .inl ⟨id,by simp,_,hm,by rw[Blk.owns,h1'];simp,rfl⟩)
  simpa[SV.c] using this
theorem pK{y:SV}(ho:o.op= .slice ty x lo hi none)(hx:AE s x=y)
 (hu:P.underlying ty=some (.slice e))(hs: ∀w,(Go.sizeOf e).run P w= .ok size w)(hr: ∀ρ S w,Bw w0 w→RelOn w0.heap.size ρ S w (restr rd s.mem)→ ∃ao cap,y.c ρ= .slice ao n cap∧n≤cap)
 (hlo:(match lo with|none=>SV.v (.int .i64 (0:Nat))|some z=>AE s z)= .v (.int .i64 (a:Nat)))(hhi:(match hi with|none=>SV.v (.int .i64 (n:Nat))|some z=>AE s z)= .v (.int .i64 (b:Nat)))(h1:a≤b)(h2:b≤n):
 ∀ρ S w,Bw w0 w→RelOn w0.heap.size ρ S w (restr rd s.mem)→(execOp (s.act ρ).eval o).run P w= .ok (.value ((SV.fn (Ay a b size) y).c ρ)) w:=fun ρ S w hb hR=>by
 have e1:=AI s ρ x;rw[hx]at e1;obtain⟨ao,cap,h3,h4⟩:=hr ρ S w hb hR;rw[h3]at e1
 have hbd: ∀(k m:Nat) (c:BoundsCode),k≤m→(Instr.sliceBound (.int .i64 (k:Nat)) m c).run P w= .ok k w:=by
  intro k m c hk;unfold Instr.sliceBound;rw[Sem.run_bind];simp only[asIntOf,Sem.run_pure,Result.andThen_ok];rw[if_pos ⟨by omega,by omega⟩];rfl
 have e2: ∀z,lo=some z→(s.act ρ).eval z= .int .i64 (a:Nat):=fun z hz=>by rw[AI];rw[hz]at hlo;simp only at hlo;rw[hlo];simp[SV.c]
 have e3: ∀z,hi=some z→(s.act ρ).eval z= .int .i64 (b:Nat):=fun z hz=>by rw[AI];rw[hz]at hhi;simp only at hhi;rw[hhi];simp[SV.c]
 have ea:lo=none→a=0:=fun hz=>by
  rw[hz]at hlo;simp only[SV.v.injEq,Value.int.injEq,true_and]at hlo;omega
 have eb:hi=none→b=n:=fun hz=>by
  rw[hz]at hhi;simp only[SV.v.injEq,Value.int.injEq,true_and]at hhi;omega
 have key:(Instr.sliceBounds true n cap (lo.map (s.act ρ).eval) (hi.map (s.act ρ).eval) none).run P w= .ok (a,b,cap) w:=by
  unfold Instr.sliceBounds;cases hi with
  |none=>
   have:=eb rfl;subst this;cases lo with
   |none=>have:=ea rfl;subst this;simp
   |some z=>simp[e2 z rfl,hbd a b _ h1]
  |some y'=>
   cases lo with
   |none=>have:=ea rfl;subst this;simp[e3 y' rfl,hbd b cap _ (by omega)]
   |some z=>simp[e2 z rfl,e3 y' rfl,hbd a b _ h1,hbd b cap _ (by omega)]
 simp[execOp,ho,e1,Instr.sliceAt,Instr.slice,run_underlying hu,hs,key,SV.c,h3,Ay]
theorem G2(ho:o.op= .slice ty x lo hi none)(hgd:AQ ops o s)(hx:AE s x= .d id)(hm:s.mem id=some (.row n 1 e (G4 p)))
 (hu:P.underlying ty=some (.slice e))(hs: ∀w,(Go.sizeOf e).run P w= .ok 1 w)(hn0:0<n)
 (hlo:(match lo with|none=>SV.v (.int .i64 (0:Nat))|some z=>AE s z)= .v (.int .i64 (a:Nat)))(hhi:(match hi with|none=>SV.v (.int .i64 (n:Nat))|some z=>AE s z)= .v (.int .i64 (b:Nat)))(h1:a≤b)(h2:b≤n):
 Ev P ops w0 o s ⟨.fn (Ay a b 1) (.d id),[],[],[],[id]⟩:=
 Ev.run _ _ hgd (pK ho hx hu hs (fun ρ S w _ hR=>by
  obtain⟨xs,g1,g2,g3⟩:=relon_get hR hm (by simp);rcases g3 with⟨_,h⟩|⟨off,cap,cur,fz,h1',h2',h3',h4',h5',_⟩
  ·omega
  ·exact⟨_,cap,h1',h5'⟩) hlo hhi h1 h2)
theorem L4{m:Mem}(hm:m id=some (.row n 1 e (G4 p)))(hp: ∀xs,p xs→xs.length=n→(xs.drop a).take (b-a)=news)(hab:a<b)(hbn:b≤n)(hk:b-a=k):
 Rdg w0 m [id] (.fn (Ay a b 1) (.d id)) k 1 news:=fun ρ S w _ hR=>by
 obtain⟨xs,g1,g2,g3⟩:=relon_get hR hm (by simp);rw[Nat.mul_one]at g1;rcases g3 with⟨_,h⟩|⟨off,cap,cur,fz,h1',h2',h3',h4',h5',h6',h7',h8'⟩
 ·omega
 ·subst hk
  have hx:=hp xs g2 g1;have hl:news.length=b-a:=by rw[←hx,List.length_take,List.length_drop];omega
  refine⟨fun k=>k=(ρ id).g,some ⟨(ρ id).g,off+a,none⟩,cap-a,?_,by omega,by omega,.inr ⟨_,rfl,rfl,fun i x hi=> ?_⟩⟩
  ·simp only[SV.c,h1',Ay]
   rw[if_neg (by omega)];simp[Addr.add];try omega
  ·have hi':i<b-a:=by
    have:=(List.getElem?_eq_some_iff.1 hi).1;omega
   rw[←hx,List.getElem?_take,if_pos hi',List.getElem?_drop,←h8',Nat.mul_one,List.getElem?_take,if_pos (by omega),List.getElem?_drop]at hi;have e:(Addr.add ⟨(ρ id).g,off+a,none⟩ i)=⟨(ρ id).g,off+a+i,none⟩:=by unfold Addr.add;split<;>simp_all
   rw[e];have hc:cur[off+a+i]? =some x:=by rw[←hi,←Array.getElem?_toList];congr 1;omega
   simp[World.cell?,h3',hc]
theorem LI{dT sT:TypeId}{sx sv:SV}(ho:o.op= .call {callee:= .builtin .copy,args:= #[x,y],argTypes:= #[dT,sT]})(hgd:AQ ops o s)
 (hx:AE s x=sx)(hsx:sx= .d id∧a=0∨sx= .fn (Ay a n 1) (.d id))(hm:s.mem id=some (.row n 1 e (G4 p)))(hy:AE s y=sv)(hr:Rdg w0 s.mem rd sv k 1 news)(hu:P.underlying dT=some (.slice e))(hs:(P.info? e).map (·.size)=some 1)
 (hkn:a+k≤n)(hk0:0<k)(h1:news.all (·.oneCell')=true)(hq: ∀xs,p xs→xs.length=n→q (xs.take a++news++xs.drop (a+k))):
 Ev P ops w0 o s ⟨.v (.int .i64 (k:Nat)),[(id,.row n 1 e (G4 q))],[id],[],id::rd⟩:=
 Ev.wrv id _ _ _ _ hgd hm (by simp) fun ρ S w hb hR=>by
  have e1:=AI s ρ x;rw[hx]at e1;have e2:=AI s ρ y;rw[hy]at e2;obtain⟨xs,hxl,hxe,hrow⟩:=relon_get hR hm (by simp)
  have hR2:RelOn w0.heap.size ρ S w (restr rd s.mem):=by
   have:=hR.restr rd
   have e:restr rd (restr (id::rd) s.mem)=restr rd s.mem:=by
    funext j;unfold restr
    by_cases h:j∈rd<;>simp[h]
   rwa [e]at this
  obtain⟨S1,ao,cp,h3,h4,h5,h6⟩:=hr ρ S w hb hR2;rw[Nat.mul_one]at h5 hxl;rcases h6 with h6|⟨ad,rfl,_,h6⟩
  ·exfalso;rw[h6]at h5;simp at h5;omega
  rcases hrow with⟨_,h⟩|⟨off,cap,cur,fz,h1',h2',h3',h4',h5',h6',h7',h8'⟩
  ·omega
  ·rw[h3]at e2
   have hdst: ∃cap',(s.act ρ).eval x= .slice (some ⟨(ρ id).g,off+a,none⟩) (n-a) cap':=by
    rw[e1];rcases hsx with⟨rfl,rfl⟩|rfl
    ·exact⟨cap,by simp only[SV.c,h1'];simp⟩
    ·refine⟨cap-a,?_⟩
     simp only[SV.c,h1',Ay];rw[if_neg (by omega)];simp[Addr.add];try omega
   obtain⟨cap',e1'⟩:=hdst;have hrun:=Vy (P:=P) w dT sT o.type e (ρ id).g (off+a) (n-a) cap' ad k cp cur e fz news hu hs h3' (NK h4') (by rw[h5];simp[Nat.min_def];omega) h6 (by rw[h5];omega) (fun u hu=>List.all_eq_true.1 h1 u hu);rw[h5]at hrun
   have hsz2:(cur.toList.take (off+a)++news++cur.toList.drop (off+a+k)).toArray.size=cur.size:=by
    simp only[List.size_toArray,List.length_append,List.length_take,List.length_drop,Array.length_toList,h5];omega
   refine⟨by simp only[Blk.owns];rw[h1'];simp,w.setRow (ρ id).g (cur.toList.take (off+a)++news++cur.toList.drop (off+a+k)).toArray,?_,⟨rfl,rfl,rfl,by simp,fun j hj=>setRow_other w _ j _ hj⟩,?_⟩
   ·unfold execOp
    simp only[ho,resolve,invoke,builtin,Sem.run_bind,Sem.run_pure,Result.andThen_ok,List.map_toArray,List.map_cons,List.map_nil,e1',e2,hrun,SV.c,goInt]
   ·refine⟨xs.take a++news++xs.drop (a+k),by simp only[List.length_append,List.length_take,List.length_drop,h5,hxl];omega,hq xs hxe hxl,.inr ⟨off,cap,_,fz,h1',h2',setRow_heap w (ρ id).g cur _ e _ h3',by rw[hsz2];exact h4',h5',h6',by rw[hsz2];exact h7',?_⟩⟩
    rw[Nat.mul_one]at h8'⊢;have hcl:cur.toList.length=cur.size:=Array.length_toList;apply List.ext_getElem?;intro i
    have hg: ∀j,j<n→cur.toList[off+j]? =xs[j]? :=fun j hj=>by
     rw[←h8',List.getElem?_take,if_pos hj,List.getElem?_drop]
    simp only[];rw[List.getElem?_take];by_cases hi:i<n
    ·rw[if_pos hi,List.getElem?_drop]
     by_cases c1:i<a
     ·rw[List.append_assoc,List.getElem?_append_left (by simp;omega),List.getElem?_take,if_pos (by omega),hg i hi,List.append_assoc,List.getElem?_append_left (by simp;omega),List.getElem?_take,if_pos c1]
     ·by_cases c2:i<a+k
      ·rw[List.append_assoc,List.getElem?_append_right (by simp;omega),List.getElem?_append_left (by simp;omega),List.append_assoc,List.getElem?_append_right (by simp;omega),List.getElem?_append_left (by simp;omega)]
       congr 1
       simp;omega
      ·rw[List.getElem?_append_right (by simp;omega),List.getElem?_drop,List.getElem?_append_right (by simp;omega),List.getElem?_drop]
       rw[show off+a+k+(off+i-(List.take (off+a) cur.toList++news).length)=off+i by simp;omega,show a+k+(i-(List.take a xs++news).length)=i by simp;omega];exact hg i hi
    ·rw[if_neg hi,List.getElem?_eq_none (by simp;omega)]
theorem gQ{w:World}{l:List Value}(hr:Rel w0 ρ s w)(hm:s.mem id=some (.row n 1 ty (G4 p)))(hp: ∀xs,p xs→xs.length=n→xs=l):BN w0 w (ρ id).val n 1 ty l:=by
 obtain⟨S,xs,h1,h2,h3⟩:=L2 hr hm;obtain rfl:=hp xs h2 (by simpa using h1);exact⟨(ρ id).g,h3⟩
theorem Vu(off:Nat): ∀(cs:List Value) (j:Nat) (l:List Value),off+j+cs.length≤l.length→
 (cs.zipIdx j).foldl (fun(a:Array Value) (x:Value×Nat)=>a.setIfInBounds (off+x.2) x.1) l.toArray=(l.take (off+j)++cs++l.drop (off+j+cs.length)).toArray
 | [],j,l,h=>by simp
 |c::cs,j,l,h=>by
  simp only[List.zipIdx_cons,List.foldl_cons,List.length_cons]at h⊢;rw[List.setIfInBounds_toArray,Vu off cs (j+1) _ (by simp;omega)];congr 1
  rw[List.take_set,List.drop_set,if_pos (by omega)]
  have e1:(l.take (off+(j+1))).set (off+j) c=l.take (off+j)++[c]:=by
   rw[show off+(j+1)=off+j+1 by omega,List.take_add_one,List.set_append_right _ _ (by simp;omega)];have:(l.take (off+j)).length=off+j:=by simp;omega
   rw[this,Nat.sub_self,List.getElem?_eq_getElem (by omega)];rfl
  rw[e1,show off+(j+1)+cs.length=off+j+(cs.length+1) by omega];simp
theorem aM(size:Nat): ∀(vs:List Value) (k:Nat) (pre rest:List Value),(∀v∈vs,v.cells.size=size)→pre.length=k*size→rest.length=vs.length*size→
 Instr.fill (fun i=>some (i*size,size)) (pre++rest).toArray ((vs.zipIdx k).map fun x=>(x.2,x.1))=some (pre++vs.flatMap (·.cells.toList)).toArray
 | [],k,pre,rest,_,_,hr=>by
   simp at hr;subst hr;simp[Instr.fill]
 |v::vs,k,pre,rest,hv,hp,hr=>by
  have hsz:=hv v (by simp);simp only[List.zipIdx_cons,List.map_cons,Instr.fill,List.length_cons,Nat.add_mul,Nat.one_mul]at hr⊢;rw[if_neg (by simp[hsz];omega)];have hf:=Vu (k*size) v.cells.toList 0 (pre++rest) (by simp[hsz];omega)
  have hz:Array.foldl (fun cs (x:Value×Nat)=>match x with|(c,j)=>cs.setIfInBounds (k*size+j) c) (pre++rest).toArray v.cells.zipIdx=(pre++v.cells.toList++rest.drop size).toArray:=by
   have e0:v.cells.zipIdx.toList=v.cells.toList.zipIdx 0:=by simp
   rw[←Array.foldl_toList,e0];refine Eq.trans ?_ (hf.trans ?_)
   ·rfl
   ·congr 1
    have hvl:v.cells.toList.length=size:=by rw[Array.length_toList];exact hsz
    rw[Nat.add_zero,←hp,List.take_left,hvl,List.drop_append,List.drop_of_length_le (by omega),List.nil_append,Nat.add_sub_cancel_left]
  rw[hz];have:=aM size vs (k+1) (pre++v.cells.toList) (rest.drop size) (fun u hu=>hv u (by simp[hu])) (by simp[hsz,hp,Nat.add_mul]) (by simp;omega);rw[this];simp
theorem NU{l:List SV}(rd:List Nat)(_hd:o.dst=some id)(ho:o.op= .buildSlice ty n parts)(hgd:AQ ops o s)
 (hp:parts.toList.map (·.1)=List.range' 0 n)(hx:parts.toList.map (fun p=>AE s p.2)=ys)(hls:ys.length=ls.length)
 (hc: ∀ρ S w,Bw w0 w→RelOn w0.heap.size ρ S w (restr rd s.mem)→ ∀(j:Nat) (y:SV) (lj:List SV),ys[j]? =some y→ls[j]? =some lj→(y.c ρ).cells.toList=SV.cs ρ lj)
 (hn: ∀lj∈ls,lj.length=size)(hl:ls.flatten=l)(hid:SV.hasL id l=false)
 (hu:P.underlying ty=some (.slice e))(hsz:(P.info? e).map (·.size)=some size)(hz:((P.info? e).bind (·.zero)).isSome=true)(hpos:0<n*size)(hsm:n*size≤2^24):
 Ev P ops w0 o s ⟨.s id 0 n n,[(id,.cells l e)],[],[id],rd⟩:=
 ⟨by simp[Eff.ok],.inr ⟨hgd,fun ρ S w hbw hR=>by
  have hyn:ys.length=n:=by
   have:=congrArg List.length hp;rw[List.length_map,List.length_range']at this;rw[←hx,List.length_map,this]
  have hvs: ∀v∈ys.map (SV.c ρ),v.cells.size=size:=by
   intro v hv;obtain⟨y,hy,rfl⟩:=List.mem_map.1 hv;obtain⟨j,hj,rfl⟩:=List.getElem_of_mem hy;have hjl:j<ls.length:=by omega
   have:=hc ρ S w hbw hR j ys[j] ls[j] (List.getElem?_eq_getElem hj) (List.getElem?_eq_getElem hjl);rw[←Array.length_toList,this,A8,List.length_map];exact hn _ (List.getElem_mem hjl)
  have hflat:(ys.map (SV.c ρ)).flatMap (·.cells.toList)=SV.cs ρ l:=by
   rw[←hl,A8,List.map_flatten];rw[List.flatMap_def,List.map_map];congr 1
   apply List.ext_getElem (by simp[hls]);intro j h1 h2;simp only[List.length_map]at h1 h2;have:=hc ρ S w hbw hR j ys[j] ls[j] (List.getElem?_eq_getElem h1) (List.getElem?_eq_getElem h2);simp[this,A8]
  have hparts:(parts.map fun(p:Nat×Operand)=>(p.1,(s.act ρ).eval p.2)).toList=((ys.map (SV.c ρ)).zipIdx 0).map fun x=>(x.2,x.1):=by
   apply List.ext_getElem?;intro j;have hpl:parts.toList.length=n:=by have:=congrArg List.length hp;simpa using this
   rw[Array.toList_map];by_cases hj:j<n
   ·have hjp:j<parts.toList.length:=by omega
    have h1:(parts.toList[j]).1=j:=by
     have h2:=congrArg (fun(q:List Nat)=>q[j]?) hp;simp only[List.getElem?_map,List.getElem?_eq_getElem hjp,Option.map_some]at h2;rw[List.getElem?_range' hj]at h2;simp at h2;simpa using h2
    have hjy:j<ys.length:=by omega
    have h3:AE s (parts.toList[j]).2=ys[j]:=by
     have h2:=congrArg (fun(q:List SV)=>q[j]?) hx;simp only[List.getElem?_map,List.getElem?_eq_getElem hjp,Option.map_some,List.getElem?_eq_getElem hjy,Option.some.injEq]at h2;exact h2
    rw[List.getElem?_map,List.getElem?_eq_getElem hjp,Option.map_some,List.getElem?_map,List.getElem?_zipIdx,List.getElem?_map,List.getElem?_eq_getElem hjy];simp only[Option.map_some,h1,AI,h3,Nat.zero_add]
   ·rw[List.getElem?_eq_none (by simp at hpl ⊢; omega),List.getElem?_eq_none (by simp;omega)]
  cases hie:P.info? e with
  |none=>simp[hie]at hsz
  |some ie=>
   have hsz':ie.size=size:=by simpa[hie] using hsz
   simp only[hie,Option.bind_some]at hz;obtain⟨z,hzz⟩:=Option.isSome_iff_exists.1 hz
   have hrun:=run_buildSlice (P:=P) w ty e n (parts.map fun(p:Nat×Operand)=>(p.1,(s.act ρ).eval p.2)) (SV.cs ρ l).toArray ie z hu hie hzz (by rw[hsz'];omega) (by rw[hsz'];omega) (by
    rw[hparts,hsz'];have:=aM size (ys.map (SV.c ρ)) 0 [] ((Array.range (n*size)).map (z.cells[· %z.cells.size]!)).toList hvs (by simp) (by simp[hyn]);rw[List.nil_append,Array.toArray_toList,List.nil_append,hflat]at this;exact this)
   refine .inl ⟨.slice (some ⟨w.heap.size,0,none⟩) n n,w.alloc (.cells (SV.cs ρ l).toArray e),?_,fun j=>if j=id then⟨w.heap.size,undef⟩else ρ j,fun _ _=>False,?_⟩
   ·simp only[execOp,ho]
    rw[Sem.run_bind,hrun];rfl
   ·have:=Cj (base:=w0.heap.size) (t:=s.mem) (ρ:=ρ) (S:=S) (w:=w) (w':=w.alloc (.cells (SV.cs ρ l).toArray e)) (val:= .s id 0 n n) (rd:=rd) (up:=[]) (id:=id) (b:= .cells l e) (m:=⟨w.heap.size,undef⟩) (S1:=fun _=>False)
     rfl rfl rfl (by simp) (fun k hk _=>heap_alloc_old w _ hk) (fun ρ' g1 g2=>by
      refine⟨by rw[g1];exact hbw.size,?_⟩;rw[g1];simp only[CP];rw[GI (nw:=[id]) (fun i hi=>g2 i (by simpa using hi)) (fun i hi=>by simp at hi;rw[hi];exact hid)];exact heap_alloc_new w _) (fun _ h=>h.elim) (fun _=> .inr ⟨Nat.le_refl _,fun h=>h⟩)
    simpa[SV.c] using this⟩⟩
theorem Ea{c:Code}{m:List (Nat×Blk)}{fr':(Nat→Value)→List SV}(keep:Nat→Bool)(drop:List Nat)(hf: ∀f,B0 keep f 0 fr=fr' f)(hm:BQ m drop=m')(h: ∀f,VOk P w0 ⟨fr' f,AJ m'⟩ c Q):VOk P w0 ⟨fr,AJ m⟩ c Q:=
 Jw keep drop fun f=>by rw[hf,hm];exact h f
end
end Go.Vx
