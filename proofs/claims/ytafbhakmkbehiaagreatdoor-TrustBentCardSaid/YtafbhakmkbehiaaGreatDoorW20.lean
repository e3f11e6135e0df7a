import Derived.LaidEql
import Derived.Stop.Asserts
import Derived.RowKitTokens
import Derived.Test.YtafbhakmkbehiaaGreatDoorW12
open Go.Proofs.Tryz
namespace Go.Proofs.YtafbhakmkbehiaaGreatDoor
open Go.RowKit Go.Extern.Stop Go.Stop Go.Extern
variable(w:World)
theorem xN(t:Addr)(w:World):(ReflectliteValue.unpack (.iface 133 (.pointer (some t)))).run prog w
 =.ok (.agg #[.pointer (some ⟨11,133,none⟩),.pointer (some ⟨w.heap.size,0,none⟩),.int .u64 150]) (w.alloc (.cells #[.pointer (some t)] 133)):=by kernel_rfl
theorem xP(a:Addr)(w:World):(ReflectliteValue.methodAny (ReflectliteValue.valueError "reflectlite.Value.Type" 0) (λt _ _ _=>ReflectliteType.toType t) #[.agg #[.pointer (some ⟨11,133,none⟩),.pointer (some a),.int .u64 150]]).run prog w
 =.ok (.iface 229 (.agg #[.pointer (some ⟨11,133,none⟩)])) w:=by kernel_rfl
theorem xW(h:Value)(w:World):(Go.method 400 229 (.agg #[h]) "Kind").run prog w=.ok (208,h) w:=by kernel_rfl
theorem xa:((ReflectliteType.abiMethod λt=>(λa:Nat=>Value.int IntKind.u8 (a:Int)) <$> Rtype.kind t) #[.pointer (some ⟨11,133,none⟩)]).run prog w=.ok (.int .u8 22) w:=by kernel_rfl
theorem xb:((ReflectliteType.abiMethod λt=>(λa:Nat=>Value.int IntKind.u8 (a:Int)) <$> Rtype.kind t) #[.pointer (some ⟨11,130,none⟩)]).run prog w=.ok (.int .u8 22) w:=by kernel_rfl
theorem tT(z:Sem Value)(f:TypeId->Addr->Nat->Nat->Sem Value)(v:Value):
 ReflectliteValue.method z f #[v]=(do match<-ReflectliteValue.parts v with|none=>z|some (t,a,fl)=>f t a fl (fl %32)):=rfl
theorem tU(a:Addr)(w:World):(ReflectliteValue.parts (.agg #[.pointer (some ⟨11,133,none⟩),.pointer (some a),.int .u64 150])).run prog w=.ok (some (133,a,150)) w:=by kernel_rfl
theorem xc(a p:Addr)(W:World)(b:W.cell? a=some (.pointer (some p))):
 (ReflectliteValue.method (ReflectliteValue.valueError "reflectlite.Value.IsNil" 0) ReflectliteValue.isNil #[.agg #[.pointer (some ⟨11,133,none⟩),.pointer (some a),.int .u64 150]]).run prog W=.ok (.bool false) W:=by
 rw[tT];simp only[Sem.run_bind,tU,Result.andThen];simp[ReflectliteValue.isNil,loadVar,isAgg,underlying,underlying133,b,Result.andThen]
theorem xY(h:Value)(w:World):(Go.method 400 229 (.agg #[h]) "Elem").run prog w=.ok (221,.agg #[h]) w:=by kernel_rfl
theorem xX(h:Value)(w:World):(Go.method 400 229 (.agg #[h]) "Implements").run prog w=.ok (222,.agg #[h]) w:=by kernel_rfl
theorem xZ(h:Value)(w:World):(Go.method 400 229 (.agg #[h]) "AssignableTo").run prog w=.ok (219,.agg #[h]) w:=by kernel_rfl
theorem xg:(ReflectliteType.method ReflectliteType.elem #[.agg #[.pointer (some ⟨11,133,none⟩)]]).run prog w=.ok (.iface 229 (.agg #[.pointer (some ⟨11,130,none⟩)])) w:=by kernel_rfl
theorem xd:(ReflectliteType.relation "Implements" ReflectliteType.implements_ #[.agg #[.pointer (some ⟨11,130,none⟩)],.iface 229 (.agg #[.pointer (some ⟨11,92,none⟩)])]).run prog w=.ok (.bool true) w:=by kernel_rfl
theorem tS(v:Value)(w:World):(ReflectliteType.typeOf #[.iface 130 v]).run prog w=.ok (.iface 229 (.agg #[.pointer (some ⟨11,130,none⟩)])) w:=by kernel_rfl
theorem xi:(ReflectliteType.relation "AssignableTo" ReflectliteType.assignableTo #[.agg #[.pointer (some ⟨11,130,none⟩)],.iface 229 (.agg #[.pointer (some ⟨11,130,none⟩)])]).run prog w=.ok (.bool true) w:=by kernel_rfl
theorem xO(e:Addr)(w:World):(ReflectliteValue.unpack (.iface 130 (.pointer (some e)))).run prog w
 =.ok (.agg #[.pointer (some ⟨11,130,none⟩),.pointer (some ⟨w.heap.size,0,none⟩),.int .u64 150]) (w.alloc (.cells #[.pointer (some e)] 130)):=by kernel_rfl
theorem xf:(Rtype.elem? 133).run prog w=.ok (some 130) w:=by kernel_rfl
theorem xV(p:Addr)(w:World):(ReflectliteValue.mk 130 p ReflectliteValue.flagAddr).run prog w=.ok (.agg #[.pointer (some ⟨11,130,none⟩),.pointer (some p),.int .u64 406]) w:=by kernel_rfl
theorem xe(a p:Addr)(W:World)(b:W.cell? a=some (.pointer (some p))):
 (ReflectliteValue.method (ReflectliteValue.valueError "reflectlite.Value.Elem" 0) ReflectliteValue.elem #[.agg #[.pointer (some ⟨11,133,none⟩),.pointer (some a),.int .u64 150]]).run prog W
  =.ok (.agg #[.pointer (some ⟨11,130,none⟩),.pointer (some p),.int .u64 406]) W:=by
 rw[tT];simp only[Sem.run_bind,tU,Result.andThen];simp[ReflectliteValue.elem,loadVar,isAgg,underlying,underlying133,b,Result.andThen,xf,xV]
theorem xR(v x:Value):ReflectliteValue.set #[v,x]=(do
 let(some (dst,a,fl),some (src,b,_)):=(<-ReflectliteValue.parts v,<-ReflectliteValue.parts x)
  |unsupported (.noEntry "extern/(internal/reflectlite.Value).Set.zeroValue")
 if fl/ReflectliteValue.flagAddr %2==0 then unsupported (.noEntry "extern/(internal/reflectlite.Value).Set.unaddressable")
 let val<-loadVar src b
 if<-Rtype.directlyAssignable dst src then storeVar dst a val
 else if<-Rtype.implements dst src then
  if(<-Rtype.kind src)==20 then
   match val with
   | .nilIface=>unsupported (.noEntry "extern/reflectlite: a nil value of one interface type handed on as a value of another")
   |_=>storeVar dst a val
  else storeVar dst a (.iface src val)
 else panicString ("reflectlite.Set: value of type " ++(<-Rtype.spelt src)++ " is not assignable to type " ++(<-Rtype.spelt dst))
 pure (.tuple #[])):=rfl
theorem xS(a:Addr)(w:World):(ReflectliteValue.parts (.agg #[.pointer (some ⟨11,130,none⟩),.pointer (some a),.int .u64 406])).run prog w=.ok (some (130,a,406)) w:=by kernel_rfl
theorem xU(a:Addr)(w:World):(ReflectliteValue.parts (.agg #[.pointer (some ⟨11,130,none⟩),.pointer (some a),.int .u64 150])).run prog w=.ok (some (130,a,150)) w:=by kernel_rfl
theorem xh:(Rtype.directlyAssignable 130 130).run prog w=.ok true w:=by kernel_rfl
theorem xQ(a b e:Addr)(c:Value)(W:World)(d:W.cell? b=some (.pointer (some e)))(g:W.cell? a=some c)(f:W.frozen? a=false):
 (ReflectliteValue.set #[.agg #[.pointer (some ⟨11,130,none⟩),.pointer (some a),.int .u64 406],.agg #[.pointer (some ⟨11,130,none⟩),.pointer (some b),.int .u64 150]]).run prog W
  =.ok (.tuple #[]) (W.setCell a (.pointer (some e))):=by
 rw[xR];simp only[Sem.run_bind,xS,xU,Result.andThen];simp[ReflectliteValue.flagAddr,loadVar,isAgg,underlying,underlying130,d,Result.andThen,xh,storeVar,Value.cells,storeCells,Addr.add];rw[run_store prog W a _ _ (by rfl)];simp[g,f]
set_option maxHeartbeats 4000000 in
theorem wh(e t:Addr)(d:Value)(w:World)(i:w.cell? ⟨0,0,none⟩=some (.iface 229 (.agg #[.pointer (some ⟨11,92,none⟩)])))(b:w.cell? t=some d)(f:w.frozen? t=false):
 Calls prog 76 #[.iface 130 (.pointer (some e)),.iface 133 (.pointer (some t))] w λl B=>l=.returned (.bool true)/\B=((((w.alloc (.cells #[.pointer (some t)] 133)).alloc (.cells #[.pointer (some ⟨11,133,none⟩),.pointer (some ⟨w.heap.size,0,none⟩),.int .u64 150] 182)).alloc (.cells #[.pointer (some ⟨11,133,none⟩),.pointer (some ⟨w.heap.size,0,none⟩),.int .u64 150] 182)).alloc (.cells #[.pointer (some e)] 130)).setCell t (.pointer (some e)):=by
 have C:= @run_callFunc_extern prog 118 _ (λa=>ReflectliteValue.unpack (a.getD 0 (.tuple #[]))) func118 (by kernel_rfl) (by kernel_rfl) (by kernel_rfl) (by kernel_rfl);have D:= @run_callFunc_extern prog 119 _ (ReflectliteValue.methodAny (ReflectliteValue.valueError "reflectlite.Value.Type" 0) (λt _ _ _=>ReflectliteType.toType t)) func119 (by kernel_rfl) (by kernel_rfl) (by kernel_rfl) (by kernel_rfl);have E:= @run_callFunc_extern prog 120 _ (ReflectliteValue.method (ReflectliteValue.valueError "reflectlite.Value.IsNil" 0) ReflectliteValue.isNil) func120 (by kernel_rfl) (by kernel_rfl) (by kernel_rfl) (by kernel_rfl);have q:= @run_callFunc_extern prog 208 _ (ReflectliteType.abiMethod λt=>do pure (.int .u8 (<-Rtype.kind t))) func208 (by kernel_rfl) (by kernel_rfl) (by kernel_rfl) (by kernel_rfl);have s:= @run_callFunc_extern prog 221 _ (ReflectliteType.method ReflectliteType.elem) func221 (by kernel_rfl) (by kernel_rfl) (by kernel_rfl) (by kernel_rfl);have u:= @run_callFunc_extern prog 222 _ (ReflectliteType.relation "Implements" ReflectliteType.implements_) func222 (by kernel_rfl) (by kernel_rfl) (by kernel_rfl) (by kernel_rfl);have n:= @run_callFunc_extern prog 168 _ ReflectliteType.typeOf func168 (by kernel_rfl) (by kernel_rfl) (by kernel_rfl) (by kernel_rfl);have r:= @run_callFunc_extern prog 219 _ (ReflectliteType.relation "AssignableTo" ReflectliteType.assignableTo) func219 (by kernel_rfl) (by kernel_rfl) (by kernel_rfl) (by kernel_rfl);have o:= @run_callFunc_extern prog 169 _ (ReflectliteValue.method (ReflectliteValue.valueError "reflectlite.Value.Elem" 0) ReflectliteValue.elem) func169 (by kernel_rfl) (by kernel_rfl) (by kernel_rfl) (by kernel_rfl);have p:= @run_callFunc_extern prog 170 _ ReflectliteValue.set func170 (by kernel_rfl) (by kernel_rfl) (by kernel_rfl) (by kernel_rfl);have I:=tS;have F:=xZ;have j:=xi;have A:=xO;have f6:=xN;have f7:=xP;have mK:=xW;have mE:=xY;have mI:=xX;have z:=xa;have y:=xb;have k:=xg;have x:=xd;have G:=xc ⟨w.heap.size,0,none⟩ t ((w.alloc (.cells #[.pointer (some t)] 133)).alloc (.cells #[.pointer (some ⟨11,133,none⟩),.pointer (some ⟨w.heap.size,0,none⟩),.int .u64 150] 182)) (by simp)
 have g:0<w.heap.size:=by
  rcases Nat.eq_zero_or_pos w.heap.size with m|h
  .simp[World.cell?,m]at i
  .exact h
 have v:((w.alloc (.cells #[.pointer (some t)] 133)).alloc (.cells #[.pointer (some ⟨11,133,none⟩),.pointer (some ⟨w.heap.size,0,none⟩),.int .u64 150] 182)).cell? ⟨0,0,none⟩=some (.iface 229 (.agg #[.pointer (some ⟨11,92,none⟩)])):=by
  rw[zU _ _ ⟨0,0,none⟩ (by simp),zU _ _ ⟨0,0,none⟩ g];exact i
 have c:t.block<w.heap.size:=by
  rcases Nat.lt_or_ge t.block w.heap.size with h|h
  .exact h
  .simp[World.cell?,uF0 h]at b
 have el:=xe ⟨w.heap.size,0,none⟩ t (((w.alloc (.cells #[.pointer (some t)] 133)).alloc (.cells #[.pointer (some ⟨11,133,none⟩),.pointer (some ⟨w.heap.size,0,none⟩),.int .u64 150] 182)).alloc (.cells #[.pointer (some ⟨11,133,none⟩),.pointer (some ⟨w.heap.size,0,none⟩),.int .u64 150] 182)) (by rw[zU _ _ ⟨w.heap.size,0,none⟩ (by simp;omega)];simp)
 have H:=xQ t ⟨w.heap.size+1+1+1,0,none⟩ e d ((((w.alloc (.cells #[.pointer (some t)] 133)).alloc (.cells #[.pointer (some ⟨11,133,none⟩),.pointer (some ⟨w.heap.size,0,none⟩),.int .u64 150] 182)).alloc (.cells #[.pointer (some ⟨11,133,none⟩),.pointer (some ⟨w.heap.size,0,none⟩),.int .u64 150] 182)).alloc (.cells #[.pointer (some e)] 130))
  (by rw[World.cell?_alloc_at _ _ _ _ (by simp)];rfl)
  (by rw[zU _ _ t (by simp;omega),zU _ _ t (by simp;omega),zU _ _ t (by simp;omega),zU _ _ t c];exact b)
  (by rw[uD3 _ _ t (by simp;omega),uD3 _ _ t (by simp;omega),uD3 _ _ t (by simp;omega),uD3 _ _ t (Nat.ne_of_lt c)];exact f)
 go_enter func76,ntmps76
 go_wp2
 refine wp_loop_rounds 1 ?_;rw[rounds_succ]
 go_wp2
 go_ret
 exact⟨rfl,rfl⟩
theorem ww(t:Addr)(w:World):(ReflectliteValue.unpack (.iface 134 (.pointer (some t)))).run prog w
 =.ok (.agg #[.pointer (some ⟨11,134,none⟩),.pointer (some ⟨w.heap.size,0,none⟩),.int .u64 150]) (w.alloc (.cells #[.pointer (some t)] 134)):=by kernel_rfl
theorem wz(a:Addr)(w:World):(ReflectliteValue.methodAny (ReflectliteValue.valueError "reflectlite.Value.Type" 0) (λt _ _ _=>ReflectliteType.toType t) #[.agg #[.pointer (some ⟨11,134,none⟩),.pointer (some a),.int .u64 150]]).run prog w
 =.ok (.iface 229 (.agg #[.pointer (some ⟨11,134,none⟩)])) w:=by kernel_rfl
theorem xA(h:Value)(w:World):(Go.method 400 229 (.agg #[h]) "Kind").run prog w=.ok (208,h) w:=by kernel_rfl
theorem xE:((ReflectliteType.abiMethod λt=>(λa:Nat=>Value.int IntKind.u8 (a:Int)) <$> Rtype.kind t) #[.pointer (some ⟨11,134,none⟩)]).run prog w=.ok (.int .u8 22) w:=by kernel_rfl
theorem xF:((ReflectliteType.abiMethod λt=>(λa:Nat=>Value.int IntKind.u8 (a:Int)) <$> Rtype.kind t) #[.pointer (some ⟨11,131,none⟩)]).run prog w=.ok (.int .u8 22) w:=by kernel_rfl
theorem tQ(z:Sem Value)(f:TypeId->Addr->Nat->Nat->Sem Value)(v:Value):
 ReflectliteValue.method z f #[v]=(do match<-ReflectliteValue.parts v with|none=>z|some (t,a,fl)=>f t a fl (fl %32)):=rfl
theorem tR(a:Addr)(w:World):(ReflectliteValue.parts (.agg #[.pointer (some ⟨11,134,none⟩),.pointer (some a),.int .u64 150])).run prog w=.ok (some (134,a,150)) w:=by kernel_rfl
theorem xG(a p:Addr)(W:World)(b:W.cell? a=some (.pointer (some p))):
 (ReflectliteValue.method (ReflectliteValue.valueError "reflectlite.Value.IsNil" 0) ReflectliteValue.isNil #[.agg #[.pointer (some ⟨11,134,none⟩),.pointer (some a),.int .u64 150]]).run prog W=.ok (.bool false) W:=by
 rw[tQ];simp only[Sem.run_bind,tR,Result.andThen];simp[ReflectliteValue.isNil,loadVar,isAgg,underlying,underlying134,b,Result.andThen]
theorem xC(h:Value)(w:World):(Go.method 400 229 (.agg #[h]) "Elem").run prog w=.ok (221,.agg #[h]) w:=by kernel_rfl
theorem xB(h:Value)(w:World):(Go.method 400 229 (.agg #[h]) "Implements").run prog w=.ok (222,.agg #[h]) w:=by kernel_rfl
theorem xD(h:Value)(w:World):(Go.method 400 229 (.agg #[h]) "AssignableTo").run prog w=.ok (219,.agg #[h]) w:=by kernel_rfl
theorem xK:(ReflectliteType.method ReflectliteType.elem #[.agg #[.pointer (some ⟨11,134,none⟩)]]).run prog w=.ok (.iface 229 (.agg #[.pointer (some ⟨11,131,none⟩)])) w:=by kernel_rfl
theorem xH:(ReflectliteType.relation "Implements" ReflectliteType.implements_ #[.agg #[.pointer (some ⟨11,131,none⟩)],.iface 229 (.agg #[.pointer (some ⟨11,92,none⟩)])]).run prog w=.ok (.bool true) w:=by kernel_rfl
theorem wy(v:Value)(w:World):(ReflectliteType.typeOf #[.iface 131 v]).run prog w=.ok (.iface 229 (.agg #[.pointer (some ⟨11,131,none⟩)])) w:=by kernel_rfl
theorem xM:(ReflectliteType.relation "AssignableTo" ReflectliteType.assignableTo #[.agg #[.pointer (some ⟨11,131,none⟩)],.iface 229 (.agg #[.pointer (some ⟨11,131,none⟩)])]).run prog w=.ok (.bool true) w:=by kernel_rfl
theorem wx(e:Addr)(w:World):(ReflectliteValue.unpack (.iface 131 (.pointer (some e)))).run prog w
 =.ok (.agg #[.pointer (some ⟨11,131,none⟩),.pointer (some ⟨w.heap.size,0,none⟩),.int .u64 150]) (w.alloc (.cells #[.pointer (some e)] 131)):=by kernel_rfl
theorem xJ:(Rtype.elem? 134).run prog w=.ok (some 131) w:=by kernel_rfl
theorem w9(p:Addr)(w:World):(ReflectliteValue.mk 131 p ReflectliteValue.flagAddr).run prog w=.ok (.agg #[.pointer (some ⟨11,131,none⟩),.pointer (some p),.int .u64 406]) w:=by kernel_rfl
theorem xI(a p:Addr)(W:World)(b:W.cell? a=some (.pointer (some p))):
 (ReflectliteValue.method (ReflectliteValue.valueError "reflectlite.Value.Elem" 0) ReflectliteValue.elem #[.agg #[.pointer (some ⟨11,134,none⟩),.pointer (some a),.int .u64 150]]).run prog W
  =.ok (.agg #[.pointer (some ⟨11,131,none⟩),.pointer (some p),.int .u64 406]) W:=by
 rw[tQ];simp only[Sem.run_bind,tR,Result.andThen];simp[ReflectliteValue.elem,loadVar,isAgg,underlying,underlying134,b,Result.andThen,xJ,w9]
theorem w6(v x:Value):ReflectliteValue.set #[v,x]=(do
 let(some (dst,a,fl),some (src,b,_)):=(<-ReflectliteValue.parts v,<-ReflectliteValue.parts x)
  |unsupported (.noEntry "extern/(internal/reflectlite.Value).Set.zeroValue")
 if fl/ReflectliteValue.flagAddr %2==0 then unsupported (.noEntry "extern/(internal/reflectlite.Value).Set.unaddressable")
 let val<-loadVar src b
 if<-Rtype.directlyAssignable dst src then storeVar dst a val
 else if<-Rtype.implements dst src then
  if(<-Rtype.kind src)==20 then
   match val with
   | .nilIface=>unsupported (.noEntry "extern/reflectlite: a nil value of one interface type handed on as a value of another")
   |_=>storeVar dst a val
  else storeVar dst a (.iface src val)
 else panicString ("reflectlite.Set: value of type " ++(<-Rtype.spelt src)++ " is not assignable to type " ++(<-Rtype.spelt dst))
 pure (.tuple #[])):=rfl
theorem w7(a:Addr)(w:World):(ReflectliteValue.parts (.agg #[.pointer (some ⟨11,131,none⟩),.pointer (some a),.int .u64 406])).run prog w=.ok (some (131,a,406)) w:=by kernel_rfl
theorem w8(a:Addr)(w:World):(ReflectliteValue.parts (.agg #[.pointer (some ⟨11,131,none⟩),.pointer (some a),.int .u64 150])).run prog w=.ok (some (131,a,150)) w:=by kernel_rfl
theorem xL:(Rtype.directlyAssignable 131 131).run prog w=.ok true w:=by kernel_rfl
theorem w5(a b e:Addr)(c:Value)(W:World)(d:W.cell? b=some (.pointer (some e)))(g:W.cell? a=some c)(f:W.frozen? a=false):
 (ReflectliteValue.set #[.agg #[.pointer (some ⟨11,131,none⟩),.pointer (some a),.int .u64 406],.agg #[.pointer (some ⟨11,131,none⟩),.pointer (some b),.int .u64 150]]).run prog W
  =.ok (.tuple #[]) (W.setCell a (.pointer (some e))):=by
 rw[w6];simp only[Sem.run_bind,w7,w8,Result.andThen];simp[ReflectliteValue.flagAddr,loadVar,isAgg,underlying,underlying131,d,Result.andThen,xL,storeVar,Value.cells,storeCells,Addr.add];rw[run_store prog W a _ _ (by rfl)];simp[g,f]
set_option maxHeartbeats 4000000 in
theorem wg(e t:Addr)(p:Nat)(i:Value)(w:World)(n:w.cell? ⟨p,1,none⟩=some (.iface 131 (.pointer (some e))))(m:w.cell? ⟨0,0,none⟩=some (.iface 229 (.agg #[.pointer (some ⟨11,92,none⟩)])))(f:w.cell? t=some i)(j:w.frozen? t=false):
 Calls prog 76 #[.iface 130 (.pointer (some ⟨p,0,none⟩)),.iface 134 (.pointer (some t))] w λr K=>r=.returned (.bool true)/\K=((((w.alloc (.cells #[.pointer (some t)] 134)).alloc (.cells #[.pointer (some ⟨11,134,none⟩),.pointer (some ⟨w.heap.size,0,none⟩),.int .u64 150] 182)).alloc (.cells #[.pointer (some ⟨11,134,none⟩),.pointer (some ⟨w.heap.size,0,none⟩),.int .u64 150] 182)).alloc (.cells #[.pointer (some e)] 131)).setCell t (.pointer (some e)):=by
 have L:= @run_callFunc_extern prog 118 _ (λc=>ReflectliteValue.unpack (c.getD 0 (.tuple #[]))) func118 (by kernel_rfl) (by kernel_rfl) (by kernel_rfl) (by kernel_rfl);have M:= @run_callFunc_extern prog 119 _ (ReflectliteValue.methodAny (ReflectliteValue.valueError "reflectlite.Value.Type" 0) (λt _ _ _=>ReflectliteType.toType t)) func119 (by kernel_rfl) (by kernel_rfl) (by kernel_rfl) (by kernel_rfl);have N:= @run_callFunc_extern prog 120 _ (ReflectliteValue.method (ReflectliteValue.valueError "reflectlite.Value.IsNil" 0) ReflectliteValue.isNil) func120 (by kernel_rfl) (by kernel_rfl) (by kernel_rfl) (by kernel_rfl);have z:= @run_callFunc_extern prog 208 _ (ReflectliteType.abiMethod λt=>do pure (.int .u8 (<-Rtype.kind t))) func208 (by kernel_rfl) (by kernel_rfl) (by kernel_rfl) (by kernel_rfl);have B:= @run_callFunc_extern prog 221 _ (ReflectliteType.method ReflectliteType.elem) func221 (by kernel_rfl) (by kernel_rfl) (by kernel_rfl) (by kernel_rfl);have C:= @run_callFunc_extern prog 222 _ (ReflectliteType.relation "Implements" ReflectliteType.implements_) func222 (by kernel_rfl) (by kernel_rfl) (by kernel_rfl) (by kernel_rfl);have u:= @run_callFunc_extern prog 168 _ ReflectliteType.typeOf func168 (by kernel_rfl) (by kernel_rfl) (by kernel_rfl) (by kernel_rfl);have A:= @run_callFunc_extern prog 219 _ (ReflectliteType.relation "AssignableTo" ReflectliteType.assignableTo) func219 (by kernel_rfl) (by kernel_rfl) (by kernel_rfl) (by kernel_rfl);have x:= @run_callFunc_extern prog 169 _ (ReflectliteValue.method (ReflectliteValue.valueError "reflectlite.Value.Elem" 0) ReflectliteValue.elem) func169 (by kernel_rfl) (by kernel_rfl) (by kernel_rfl) (by kernel_rfl);have y:= @run_callFunc_extern prog 170 _ ReflectliteValue.set func170 (by kernel_rfl) (by kernel_rfl) (by kernel_rfl) (by kernel_rfl);have T:=wy;have O:=xD;have o:=xM;have J:=wx;have f6:=ww;have f7:=wz;have mK:=xA;have mE:=xC;have mI:=xB;have H:=xE;have G:=xF;have q:=xK;have F:=xH;have Q:=xG ⟨w.heap.size,0,none⟩ t ((w.alloc (.cells #[.pointer (some t)] 134)).alloc (.cells #[.pointer (some ⟨11,134,none⟩),.pointer (some ⟨w.heap.size,0,none⟩),.int .u64 150] 182)) (by simp)
 have k:0<w.heap.size:=by
  rcases Nat.eq_zero_or_pos w.heap.size with s|h
  .simp[World.cell?,s]at m
  .exact h
 have D:((w.alloc (.cells #[.pointer (some t)] 134)).alloc (.cells #[.pointer (some ⟨11,134,none⟩),.pointer (some ⟨w.heap.size,0,none⟩),.int .u64 150] 182)).cell? ⟨0,0,none⟩=some (.iface 229 (.agg #[.pointer (some ⟨11,92,none⟩)])):=by
  rw[zU _ _ ⟨0,0,none⟩ (by simp),zU _ _ ⟨0,0,none⟩ k];exact m
 have g:t.block<w.heap.size:=by
  rcases Nat.lt_or_ge t.block w.heap.size with h|h
  .exact h
  .simp[World.cell?,uF0 h]at f
 have el:=xI ⟨w.heap.size,0,none⟩ t (((w.alloc (.cells #[.pointer (some t)] 134)).alloc (.cells #[.pointer (some ⟨11,134,none⟩),.pointer (some ⟨w.heap.size,0,none⟩),.int .u64 150] 182)).alloc (.cells #[.pointer (some ⟨11,134,none⟩),.pointer (some ⟨w.heap.size,0,none⟩),.int .u64 150] 182)) (by rw[zU _ _ ⟨w.heap.size,0,none⟩ (by simp;omega)];simp)
 have R:=w5 t ⟨w.heap.size+1+1+1,0,none⟩ e i ((((w.alloc (.cells #[.pointer (some t)] 134)).alloc (.cells #[.pointer (some ⟨11,134,none⟩),.pointer (some ⟨w.heap.size,0,none⟩),.int .u64 150] 182)).alloc (.cells #[.pointer (some ⟨11,134,none⟩),.pointer (some ⟨w.heap.size,0,none⟩),.int .u64 150] 182)).alloc (.cells #[.pointer (some e)] 131))
  (by rw[World.cell?_alloc_at _ _ _ _ (by simp)];rfl)
  (by rw[zU _ _ t (by simp;omega),zU _ _ t (by simp;omega),zU _ _ t (by simp;omega),zU _ _ t g];exact f)
  (by rw[uD3 _ _ t (by simp;omega),uD3 _ _ t (by simp;omega),uD3 _ _ t (by simp;omega),uD3 _ _ t (Nat.ne_of_lt g)];exact j)
 have S:=tS;have aF:∀w:World,(ReflectliteType.relation "AssignableTo" ReflectliteType.assignableTo #[.agg #[.pointer (some ⟨11,130,none⟩)],.iface 229 (.agg #[.pointer (some ⟨11,131,none⟩)])]).run prog w=.ok (.bool false) w:=λw=>by kernel_rfl
 have I:∀(v:Value) (b:TypeId) (w:World),(Instr.typeAssert (.iface 130 v) b 234 true).run prog w=.ok (.tuple #[.nilIface,.bool false]) w:=λv b w=>run_typeAssert_lacksB underlying234 (by kernel_rfl) (by kernel_rfl) v b w
 have l:∀(v:Value) (b:TypeId) (w:World),(Instr.typeAssert (.iface 130 v) b 237 true).run prog w=.ok (.tuple #[.iface 130 v,.bool true]) w:=λv b w=>run_typeAssert_hasB underlying237 (by kernel_rfl) v b w
 have P:∀(a:Addr) (w:World),(Go.method 400 130 (.pointer (some a)) "Unwrap").run prog w=.ok (212,.pointer (some a)) w:=λa w=>by kernel_rfl
 have d:p<w.heap.size:=by
  rcases Nat.lt_or_ge p w.heap.size with h|h
  .exact h
  .simp[World.cell?,uF0 h]at n
 have E:(((w.alloc (.cells #[.pointer (some t)] 134)).alloc (.cells #[.pointer (some ⟨11,134,none⟩),.pointer (some ⟨w.heap.size,0,none⟩),.int .u64 150] 182)).alloc (.cells #[.pointer (some ⟨11,134,none⟩),.pointer (some ⟨w.heap.size,0,none⟩),.int .u64 150] 182)).cell? ⟨p,1,none⟩=some (.iface 131 (.pointer (some e))):=by
  rw[zU _ _ ⟨p,1,none⟩ (by simp;omega),zU _ _ ⟨p,1,none⟩ (by simp;omega),zU _ _ ⟨p,1,none⟩ d];exact n
 go_enter func76,ntmps76
 go_wp2
 refine wp_loop_rounds 2 ?_;rw[rounds_succ]
 go_wp2
 rw[rounds_succ]
 go_wp2
 go_ret
 exact⟨rfl,rfl⟩
end Go.Proofs.YtafbhakmkbehiaaGreatDoor
