import Derived.LaidEql
import Derived.Stop.Asserts
import Derived.RowKitTokens
import Derived.Test.YtafbhakmkbehiaaGreatDoorZ23
open Go.Proofs.Tryz
namespace Go.Proofs.YtafbhakmkbehiaaGreatDoor
open Go.RowKit Go.Extern.Stop Go.Stop Go.Extern
variable(w:World)
theorem Wz(t:Addr)(w:World):(ReflectliteValue.unpack (.iface 133 (.pointer (some t)))).run prog w
 = .ok (.agg #[.pointer (some ⟨11,133,none⟩),.pointer (some ⟨w.heap.size,0,none⟩),.int .u64 150]) (w.alloc (.cells #[.pointer (some t)] 133)):=by kernel_rfl
theorem W1(a:Addr)(w:World):(ReflectliteValue.methodAny (ReflectliteValue.valueError "reflectlite.Value.Type" 0) (fun t _ _ _=>ReflectliteType.toType t) #[.agg #[.pointer (some ⟨11,133,none⟩),.pointer (some a),.int .u64 150]]).run prog w
 = .ok (.iface 229 (.agg #[.pointer (some ⟨11,133,none⟩)])) w:=by kernel_rfl
theorem W7(h:Value)(w:World):(Go.method 400 229 (.agg #[h]) "Kind").run prog w= .ok (208,h) w:=by kernel_rfl
theorem XB:((ReflectliteType.abiMethod fun t=>(fun a:Nat=>Value.int IntKind.u8 (a:Int)) <$> Rtype.kind t) #[.pointer (some ⟨11,133,none⟩)]).run prog w= .ok (.int .u8 22) w:=by kernel_rfl
theorem XC:((ReflectliteType.abiMethod fun t=>(fun a:Nat=>Value.int IntKind.u8 (a:Int)) <$> Rtype.kind t) #[.pointer (some ⟨11,130,none⟩)]).run prog w= .ok (.int .u8 22) w:=by kernel_rfl
theorem Nw(z:Sem Value)(f:TypeId→Addr→Nat→Nat→Sem Value)(v:Value):
 ReflectliteValue.method z f #[v]=(do match←ReflectliteValue.parts v with|none=>z|some (t,a,fl)=>f t a fl (fl %32)):=rfl
theorem N5(a:Addr)(w:World):(ReflectliteValue.parts (.agg #[.pointer (some ⟨11,133,none⟩),.pointer (some a),.int .u64 150])).run prog w= .ok (some (133,a,150)) w:=by kernel_rfl
theorem XD(a p:Addr)(W:World)(ha:W.cell? a=some (.pointer (some p))):
 (ReflectliteValue.method (ReflectliteValue.valueError "reflectlite.Value.IsNil" 0) ReflectliteValue.isNil #[.agg #[.pointer (some ⟨11,133,none⟩),.pointer (some a),.int .u64 150]]).run prog W= .ok (.bool false) W:=by
 rw[Nw];simp only[Sem.run_bind,N5,Result.andThen];simp[ReflectliteValue.isNil,loadVar,isAgg,underlying,underlying133,ha,Result.andThen]
theorem W9(h:Value)(w:World):(Go.method 400 229 (.agg #[h]) "Elem").run prog w= .ok (221,.agg #[h]) w:=by kernel_rfl
theorem W8(h:Value)(w:World):(Go.method 400 229 (.agg #[h]) "Implements").run prog w= .ok (222,.agg #[h]) w:=by kernel_rfl
theorem XA(h:Value)(w:World):(Go.method 400 229 (.agg #[h]) "AssignableTo").run prog w= .ok (219,.agg #[h]) w:=by kernel_rfl
theorem XK:(ReflectliteType.method ReflectliteType.elem #[.agg #[.pointer (some ⟨11,133,none⟩)]]).run prog w= .ok (.iface 229 (.agg #[.pointer (some ⟨11,130,none⟩)])) w:=by kernel_rfl
theorem XE:(ReflectliteType.relation "Implements" ReflectliteType.implements_ #[.agg #[.pointer (some ⟨11,130,none⟩)],.iface 229 (.agg #[.pointer (some ⟨11,92,none⟩)])]).run prog w= .ok (.bool true) w:=by kernel_rfl
theorem Nv(v:Value)(w:World):(ReflectliteType.typeOf #[.iface 130 v]).run prog w= .ok (.iface 229 (.agg #[.pointer (some ⟨11,130,none⟩)])) w:=by kernel_rfl
theorem XM:(ReflectliteType.relation "AssignableTo" ReflectliteType.assignableTo #[.agg #[.pointer (some ⟨11,130,none⟩)],.iface 229 (.agg #[.pointer (some ⟨11,130,none⟩)])]).run prog w= .ok (.bool true) w:=by kernel_rfl
theorem W0(e:Addr)(w:World):(ReflectliteValue.unpack (.iface 130 (.pointer (some e)))).run prog w
 = .ok (.agg #[.pointer (some ⟨11,130,none⟩),.pointer (some ⟨w.heap.size,0,none⟩),.int .u64 150]) (w.alloc (.cells #[.pointer (some e)] 130)):=by kernel_rfl
theorem XJ:(Rtype.elem? 133).run prog w= .ok (some 130) w:=by kernel_rfl
theorem W6(p:Addr)(w:World):(ReflectliteValue.mk 130 p ReflectliteValue.flagAddr).run prog w= .ok (.agg #[.pointer (some ⟨11,130,none⟩),.pointer (some p),.int .u64 406]) w:=by kernel_rfl
theorem XG(a p:Addr)(W:World)(ha:W.cell? a=some (.pointer (some p))):
 (ReflectliteValue.method (ReflectliteValue.valueError "reflectlite.Value.Elem" 0) ReflectliteValue.elem #[.agg #[.pointer (some ⟨11,133,none⟩),.pointer (some a),.int .u64 150]]).run prog W
  = .ok (.agg #[.pointer (some ⟨11,130,none⟩),.pointer (some p),.int .u64 406]) W:=by
 rw[Nw];simp only[Sem.run_bind,N5,Result.andThen];simp[ReflectliteValue.elem,loadVar,isAgg,underlying,underlying133,ha,Result.andThen,XJ,W6]
theorem W3(v x:Value):ReflectliteValue.set #[v,x]=(do
 let(some (dst,a,fl),some (src,b,_)):=(←ReflectliteValue.parts v,←ReflectliteValue.parts x)
  |unsupported (.noEntry "extern/(internal/reflectlite.Value).Set.zeroValue")
 if fl/ReflectliteValue.flagAddr %2==0 then unsupported (.noEntry "extern/(internal/reflectlite.Value).Set.unaddressable")
 let val←loadVar src b
 if←Rtype.directlyAssignable dst src then storeVar dst a val
 else if←Rtype.implements dst src then
  if(←Rtype.kind src)==20 then
   match val with
   | .nilIface=>unsupported (.noEntry "extern/reflectlite: a nil value of one interface type handed on as a value of another")
   |_=>storeVar dst a val
  else storeVar dst a (.iface src val)
 else panicString ("reflectlite.Set: value of type " ++(←Rtype.spelt src)++ " is not assignable to type " ++(←Rtype.spelt dst))
 pure (.tuple #[])):=rfl
theorem W4(a:Addr)(w:World):(ReflectliteValue.parts (.agg #[.pointer (some ⟨11,130,none⟩),.pointer (some a),.int .u64 406])).run prog w= .ok (some (130,a,406)) w:=by kernel_rfl
theorem W5(a:Addr)(w:World):(ReflectliteValue.parts (.agg #[.pointer (some ⟨11,130,none⟩),.pointer (some a),.int .u64 150])).run prog w= .ok (some (130,a,150)) w:=by kernel_rfl
theorem XL:(Rtype.directlyAssignable 130 130).run prog w= .ok true w:=by kernel_rfl
theorem W2(ta b e:Addr)(old:Value)(W:World)(hb:W.cell? b=some (.pointer (some e)))(ht:W.cell? ta=some old)(hf:W.frozen? ta=false):
 (ReflectliteValue.set #[.agg #[.pointer (some ⟨11,130,none⟩),.pointer (some ta),.int .u64 406],.agg #[.pointer (some ⟨11,130,none⟩),.pointer (some b),.int .u64 150]]).run prog W
  = .ok (.tuple #[]) (W.setCell ta (.pointer (some e))):=by
 rw[W3];simp only[Sem.run_bind,W4,W5,Result.andThen];simp[ReflectliteValue.flagAddr,loadVar,isAgg,underlying,underlying130,hb,Result.andThen,XL,storeVar,Value.cells,storeCells,Addr.add];rw[run_store prog W ta _ _ (by rfl)];simp[ht,hf]
set_option maxHeartbeats 4000000 in
theorem V6(e t:Addr)(old:Value)(w:World)(hg:w.cell? ⟨0,0,none⟩=some (.iface 229 (.agg #[.pointer (some ⟨11,92,none⟩)])))(ht0:w.cell? t=some old)(hf0:w.frozen? t=false):
 Calls prog 76 #[.iface 130 (.pointer (some e)),.iface 133 (.pointer (some t))] w fun ev w'=>ev= .returned (.bool true)∧w'=((((w.alloc (.cells #[.pointer (some t)] 133)).alloc (.cells #[.pointer (some ⟨11,133,none⟩),.pointer (some ⟨w.heap.size,0,none⟩),.int .u64 150] 182)).alloc (.cells #[.pointer (some ⟨11,133,none⟩),.pointer (some ⟨w.heap.size,0,none⟩),.int .u64 150] 182)).alloc (.cells #[.pointer (some e)] 130)).setCell t (.pointer (some e)):=by
 have h6:= @run_callFunc_extern prog 118 _ (fun args=>ReflectliteValue.unpack (args.getD 0 (.tuple #[]))) func118 (by kernel_rfl) (by kernel_rfl) (by kernel_rfl) (by kernel_rfl);have h7:= @run_callFunc_extern prog 119 _ (ReflectliteValue.methodAny (ReflectliteValue.valueError "reflectlite.Value.Type" 0) (fun t _ _ _=>ReflectliteType.toType t)) func119 (by kernel_rfl) (by kernel_rfl) (by kernel_rfl) (by kernel_rfl);have h8:= @run_callFunc_extern prog 120 _ (ReflectliteValue.method (ReflectliteValue.valueError "reflectlite.Value.IsNil" 0) ReflectliteValue.isNil) func120 (by kernel_rfl) (by kernel_rfl) (by kernel_rfl) (by kernel_rfl);have h27:= @run_callFunc_extern prog 208 _ (ReflectliteType.abiMethod fun t=>do pure (.int .u8 (←Rtype.kind t))) func208 (by kernel_rfl) (by kernel_rfl) (by kernel_rfl) (by kernel_rfl);have h37:= @run_callFunc_extern prog 221 _ (ReflectliteType.method ReflectliteType.elem) func221 (by kernel_rfl) (by kernel_rfl) (by kernel_rfl) (by kernel_rfl);have h38:= @run_callFunc_extern prog 222 _ (ReflectliteType.relation "Implements" ReflectliteType.implements_) func222 (by kernel_rfl) (by kernel_rfl) (by kernel_rfl) (by kernel_rfl);have h10:= @run_callFunc_extern prog 168 _ ReflectliteType.typeOf func168 (by kernel_rfl) (by kernel_rfl) (by kernel_rfl) (by kernel_rfl);have h35:= @run_callFunc_extern prog 219 _ (ReflectliteType.relation "AssignableTo" ReflectliteType.assignableTo) func219 (by kernel_rfl) (by kernel_rfl) (by kernel_rfl) (by kernel_rfl);have h11:= @run_callFunc_extern prog 169 _ (ReflectliteValue.method (ReflectliteValue.valueError "reflectlite.Value.Elem" 0) ReflectliteValue.elem) func169 (by kernel_rfl) (by kernel_rfl) (by kernel_rfl) (by kernel_rfl);have h12:= @run_callFunc_extern prog 170 _ ReflectliteValue.set func170 (by kernel_rfl) (by kernel_rfl) (by kernel_rfl) (by kernel_rfl);have tO:=Nv;have mA:=XA;have a25:=XM;have v25:=W0;have f6:=Wz;have f7:=W1;have mK:=W7;have mE:=W9;have mI:=W8;have k27:=XB;have k25:=XC;have e27:=XK;have i25:=XE;have n8:=XD ⟨w.heap.size,0,none⟩ t ((w.alloc (.cells #[.pointer (some t)] 133)).alloc (.cells #[.pointer (some ⟨11,133,none⟩),.pointer (some ⟨w.heap.size,0,none⟩),.int .u64 150] 182)) (by simp)
 have hlt:0<w.heap.size:=by
  rcases Nat.eq_zero_or_pos w.heap.size with h0|h
  ·simp[World.cell?,h0]at hg
  ·exact h
 have hg2:((w.alloc (.cells #[.pointer (some t)] 133)).alloc (.cells #[.pointer (some ⟨11,133,none⟩),.pointer (some ⟨w.heap.size,0,none⟩),.int .u64 150] 182)).cell? ⟨0,0,none⟩=some (.iface 229 (.agg #[.pointer (some ⟨11,92,none⟩)])):=by
  rw[World.cell?_alloc_lt _ _ ⟨0,0,none⟩ (by simp),World.cell?_alloc_lt _ _ ⟨0,0,none⟩ hlt];exact hg
 have htl:t.block<w.heap.size:=by
  rcases Nat.lt_or_ge t.block w.heap.size with h|h
  ·exact h
  ·simp[World.cell?,Array.getElem?_eq_none h]at ht0
 have el:=XG ⟨w.heap.size,0,none⟩ t (((w.alloc (.cells #[.pointer (some t)] 133)).alloc (.cells #[.pointer (some ⟨11,133,none⟩),.pointer (some ⟨w.heap.size,0,none⟩),.int .u64 150] 182)).alloc (.cells #[.pointer (some ⟨11,133,none⟩),.pointer (some ⟨w.heap.size,0,none⟩),.int .u64 150] 182)) (by rw[World.cell?_alloc_lt _ _ ⟨w.heap.size,0,none⟩ (by simp;omega)];simp)
 have st:=W2 t ⟨w.heap.size+1+1+1,0,none⟩ e old ((((w.alloc (.cells #[.pointer (some t)] 133)).alloc (.cells #[.pointer (some ⟨11,133,none⟩),.pointer (some ⟨w.heap.size,0,none⟩),.int .u64 150] 182)).alloc (.cells #[.pointer (some ⟨11,133,none⟩),.pointer (some ⟨w.heap.size,0,none⟩),.int .u64 150] 182)).alloc (.cells #[.pointer (some e)] 130))
  (by rw[World.cell?_alloc_at _ _ _ _ (by simp)];rfl)
  (by rw[World.cell?_alloc_lt _ _ t (by simp;omega),World.cell?_alloc_lt _ _ t (by simp;omega),World.cell?_alloc_lt _ _ t (by simp;omega),World.cell?_alloc_lt _ _ t htl];exact ht0)
  (by rw[World.frozen?_alloc_old _ _ t (by simp;omega),World.frozen?_alloc_old _ _ t (by simp;omega),World.frozen?_alloc_old _ _ t (by simp;omega),World.frozen?_alloc_old _ _ t (Nat.ne_of_lt htl)];exact hf0)
 go_enter func76,ntmps76
 go_wp2
 refine wp_loop_rounds 1 ?_;rw[rounds_succ]
 go_wp2
 go_ret
 exact⟨rfl,rfl⟩
theorem WF(t:Addr)(w:World):(ReflectliteValue.unpack (.iface 134 (.pointer (some t)))).run prog w
 = .ok (.agg #[.pointer (some ⟨11,134,none⟩),.pointer (some ⟨w.heap.size,0,none⟩),.int .u64 150]) (w.alloc (.cells #[.pointer (some t)] 134)):=by kernel_rfl
theorem WI(a:Addr)(w:World):(ReflectliteValue.methodAny (ReflectliteValue.valueError "reflectlite.Value.Type" 0) (fun t _ _ _=>ReflectliteType.toType t) #[.agg #[.pointer (some ⟨11,134,none⟩),.pointer (some a),.int .u64 150]]).run prog w
 = .ok (.iface 229 (.agg #[.pointer (some ⟨11,134,none⟩)])) w:=by kernel_rfl
theorem Wb(h:Value)(w:World):(Go.method 400 229 (.agg #[h]) "Kind").run prog w= .ok (208,h) w:=by kernel_rfl
theorem Wi:((ReflectliteType.abiMethod fun t=>(fun a:Nat=>Value.int IntKind.u8 (a:Int)) <$> Rtype.kind t) #[.pointer (some ⟨11,134,none⟩)]).run prog w= .ok (.int .u8 22) w:=by kernel_rfl
theorem Wj:((ReflectliteType.abiMethod fun t=>(fun a:Nat=>Value.int IntKind.u8 (a:Int)) <$> Rtype.kind t) #[.pointer (some ⟨11,131,none⟩)]).run prog w= .ok (.int .u8 22) w:=by kernel_rfl
theorem Na(z:Sem Value)(f:TypeId→Addr→Nat→Nat→Sem Value)(v:Value):
 ReflectliteValue.method z f #[v]=(do match←ReflectliteValue.parts v with|none=>z|some (t,a,fl)=>f t a fl (fl %32)):=rfl
theorem Nu(a:Addr)(w:World):(ReflectliteValue.parts (.agg #[.pointer (some ⟨11,134,none⟩),.pointer (some a),.int .u64 150])).run prog w= .ok (some (134,a,150)) w:=by kernel_rfl
theorem Wk(a p:Addr)(W:World)(ha:W.cell? a=some (.pointer (some p))):
 (ReflectliteValue.method (ReflectliteValue.valueError "reflectlite.Value.IsNil" 0) ReflectliteValue.isNil #[.agg #[.pointer (some ⟨11,134,none⟩),.pointer (some a),.int .u64 150]]).run prog W= .ok (.bool false) W:=by
 rw[Na];simp only[Sem.run_bind,Nu,Result.andThen];simp[ReflectliteValue.isNil,loadVar,isAgg,underlying,underlying134,ha,Result.andThen]
theorem We(h:Value)(w:World):(Go.method 400 229 (.agg #[h]) "Elem").run prog w= .ok (221,.agg #[h]) w:=by kernel_rfl
theorem Wc(h:Value)(w:World):(Go.method 400 229 (.agg #[h]) "Implements").run prog w= .ok (222,.agg #[h]) w:=by kernel_rfl
theorem Wh(h:Value)(w:World):(Go.method 400 229 (.agg #[h]) "AssignableTo").run prog w= .ok (219,.agg #[h]) w:=by kernel_rfl
theorem Wp:(ReflectliteType.method ReflectliteType.elem #[.agg #[.pointer (some ⟨11,134,none⟩)]]).run prog w= .ok (.iface 229 (.agg #[.pointer (some ⟨11,131,none⟩)])) w:=by kernel_rfl
theorem Wl:(ReflectliteType.relation "Implements" ReflectliteType.implements_ #[.agg #[.pointer (some ⟨11,131,none⟩)],.iface 229 (.agg #[.pointer (some ⟨11,92,none⟩)])]).run prog w= .ok (.bool true) w:=by kernel_rfl
theorem WH(v:Value)(w:World):(ReflectliteType.typeOf #[.iface 131 v]).run prog w= .ok (.iface 229 (.agg #[.pointer (some ⟨11,131,none⟩)])) w:=by kernel_rfl
theorem Wv:(ReflectliteType.relation "AssignableTo" ReflectliteType.assignableTo #[.agg #[.pointer (some ⟨11,131,none⟩)],.iface 229 (.agg #[.pointer (some ⟨11,131,none⟩)])]).run prog w= .ok (.bool true) w:=by kernel_rfl
theorem WG(e:Addr)(w:World):(ReflectliteValue.unpack (.iface 131 (.pointer (some e)))).run prog w
 = .ok (.agg #[.pointer (some ⟨11,131,none⟩),.pointer (some ⟨w.heap.size,0,none⟩),.int .u64 150]) (w.alloc (.cells #[.pointer (some e)] 131)):=by kernel_rfl
theorem Wo:(Rtype.elem? 134).run prog w= .ok (some 131) w:=by kernel_rfl
theorem WZ(p:Addr)(w:World):(ReflectliteValue.mk 131 p ReflectliteValue.flagAddr).run prog w= .ok (.agg #[.pointer (some ⟨11,131,none⟩),.pointer (some p),.int .u64 406]) w:=by kernel_rfl
theorem Wm(a p:Addr)(W:World)(ha:W.cell? a=some (.pointer (some p))):
 (ReflectliteValue.method (ReflectliteValue.valueError "reflectlite.Value.Elem" 0) ReflectliteValue.elem #[.agg #[.pointer (some ⟨11,134,none⟩),.pointer (some a),.int .u64 150]]).run prog W
  = .ok (.agg #[.pointer (some ⟨11,131,none⟩),.pointer (some p),.int .u64 406]) W:=by
 rw[Na];simp only[Sem.run_bind,Nu,Result.andThen];simp[ReflectliteValue.elem,loadVar,isAgg,underlying,underlying134,ha,Result.andThen,Wo,WZ]
theorem WR(v x:Value):ReflectliteValue.set #[v,x]=(do
 let(some (dst,a,fl),some (src,b,_)):=(←ReflectliteValue.parts v,←ReflectliteValue.parts x)
  |unsupported (.noEntry "extern/(internal/reflectlite.Value).Set.zeroValue")
 if fl/ReflectliteValue.flagAddr %2==0 then unsupported (.noEntry "extern/(internal/reflectlite.Value).Set.unaddressable")
 let val←loadVar src b
 if←Rtype.directlyAssignable dst src then storeVar dst a val
 else if←Rtype.implements dst src then
  if(←Rtype.kind src)==20 then
   match val with
   | .nilIface=>unsupported (.noEntry "extern/reflectlite: a nil value of one interface type handed on as a value of another")
   |_=>storeVar dst a val
  else storeVar dst a (.iface src val)
 else panicString ("reflectlite.Set: value of type " ++(←Rtype.spelt src)++ " is not assignable to type " ++(←Rtype.spelt dst))
 pure (.tuple #[])):=rfl
theorem WX(a:Addr)(w:World):(ReflectliteValue.parts (.agg #[.pointer (some ⟨11,131,none⟩),.pointer (some a),.int .u64 406])).run prog w= .ok (some (131,a,406)) w:=by kernel_rfl
theorem WY(a:Addr)(w:World):(ReflectliteValue.parts (.agg #[.pointer (some ⟨11,131,none⟩),.pointer (some a),.int .u64 150])).run prog w= .ok (some (131,a,150)) w:=by kernel_rfl
theorem Wq:(Rtype.directlyAssignable 131 131).run prog w= .ok true w:=by kernel_rfl
theorem WN(ta b e:Addr)(old:Value)(W:World)(hb:W.cell? b=some (.pointer (some e)))(ht:W.cell? ta=some old)(hf:W.frozen? ta=false):
 (ReflectliteValue.set #[.agg #[.pointer (some ⟨11,131,none⟩),.pointer (some ta),.int .u64 406],.agg #[.pointer (some ⟨11,131,none⟩),.pointer (some b),.int .u64 150]]).run prog W
  = .ok (.tuple #[]) (W.setCell ta (.pointer (some e))):=by
 rw[WR];simp only[Sem.run_bind,WX,WY,Result.andThen];simp[ReflectliteValue.flagAddr,loadVar,isAgg,underlying,underlying131,hb,Result.andThen,Wq,storeVar,Value.cells,storeCells,Addr.add];rw[run_store prog W ta _ _ (by rfl)];simp[ht,hf]
set_option maxHeartbeats 4000000 in
theorem V5(e t:Addr)(p:Nat)(old:Value)(w:World)(hp:w.cell? ⟨p,1,none⟩=some (.iface 131 (.pointer (some e))))(hg:w.cell? ⟨0,0,none⟩=some (.iface 229 (.agg #[.pointer (some ⟨11,92,none⟩)])))(ht0:w.cell? t=some old)(hf0:w.frozen? t=false):
 Calls prog 76 #[.iface 130 (.pointer (some ⟨p,0,none⟩)),.iface 134 (.pointer (some t))] w fun ev w'=>ev= .returned (.bool true)∧w'=((((w.alloc (.cells #[.pointer (some t)] 134)).alloc (.cells #[.pointer (some ⟨11,134,none⟩),.pointer (some ⟨w.heap.size,0,none⟩),.int .u64 150] 182)).alloc (.cells #[.pointer (some ⟨11,134,none⟩),.pointer (some ⟨w.heap.size,0,none⟩),.int .u64 150] 182)).alloc (.cells #[.pointer (some e)] 131)).setCell t (.pointer (some e)):=by
 have h6:= @run_callFunc_extern prog 118 _ (fun args=>ReflectliteValue.unpack (args.getD 0 (.tuple #[]))) func118 (by kernel_rfl) (by kernel_rfl) (by kernel_rfl) (by kernel_rfl);have h7:= @run_callFunc_extern prog 119 _ (ReflectliteValue.methodAny (ReflectliteValue.valueError "reflectlite.Value.Type" 0) (fun t _ _ _=>ReflectliteType.toType t)) func119 (by kernel_rfl) (by kernel_rfl) (by kernel_rfl) (by kernel_rfl);have h8:= @run_callFunc_extern prog 120 _ (ReflectliteValue.method (ReflectliteValue.valueError "reflectlite.Value.IsNil" 0) ReflectliteValue.isNil) func120 (by kernel_rfl) (by kernel_rfl) (by kernel_rfl) (by kernel_rfl);have h27:= @run_callFunc_extern prog 208 _ (ReflectliteType.abiMethod fun t=>do pure (.int .u8 (←Rtype.kind t))) func208 (by kernel_rfl) (by kernel_rfl) (by kernel_rfl) (by kernel_rfl);have h37:= @run_callFunc_extern prog 221 _ (ReflectliteType.method ReflectliteType.elem) func221 (by kernel_rfl) (by kernel_rfl) (by kernel_rfl) (by kernel_rfl);have h38:= @run_callFunc_extern prog 222 _ (ReflectliteType.relation "Implements" ReflectliteType.implements_) func222 (by kernel_rfl) (by kernel_rfl) (by kernel_rfl) (by kernel_rfl);have h10:= @run_callFunc_extern prog 168 _ ReflectliteType.typeOf func168 (by kernel_rfl) (by kernel_rfl) (by kernel_rfl) (by kernel_rfl);have h35:= @run_callFunc_extern prog 219 _ (ReflectliteType.relation "AssignableTo" ReflectliteType.assignableTo) func219 (by kernel_rfl) (by kernel_rfl) (by kernel_rfl) (by kernel_rfl);have h11:= @run_callFunc_extern prog 169 _ (ReflectliteValue.method (ReflectliteValue.valueError "reflectlite.Value.Elem" 0) ReflectliteValue.elem) func169 (by kernel_rfl) (by kernel_rfl) (by kernel_rfl) (by kernel_rfl);have h12:= @run_callFunc_extern prog 170 _ ReflectliteValue.set func170 (by kernel_rfl) (by kernel_rfl) (by kernel_rfl) (by kernel_rfl);have tO:=WH;have mA:=Wh;have a25:=Wv;have v25:=WG;have f6:=WF;have f7:=WI;have mK:=Wb;have mE:=We;have mI:=Wc;have k27:=Wi;have k25:=Wj;have e27:=Wp;have i25:=Wl;have n8:=Wk ⟨w.heap.size,0,none⟩ t ((w.alloc (.cells #[.pointer (some t)] 134)).alloc (.cells #[.pointer (some ⟨11,134,none⟩),.pointer (some ⟨w.heap.size,0,none⟩),.int .u64 150] 182)) (by simp)
 have hlt:0<w.heap.size:=by
  rcases Nat.eq_zero_or_pos w.heap.size with h0|h
  ·simp[World.cell?,h0]at hg
  ·exact h
 have hg2:((w.alloc (.cells #[.pointer (some t)] 134)).alloc (.cells #[.pointer (some ⟨11,134,none⟩),.pointer (some ⟨w.heap.size,0,none⟩),.int .u64 150] 182)).cell? ⟨0,0,none⟩=some (.iface 229 (.agg #[.pointer (some ⟨11,92,none⟩)])):=by
  rw[World.cell?_alloc_lt _ _ ⟨0,0,none⟩ (by simp),World.cell?_alloc_lt _ _ ⟨0,0,none⟩ hlt];exact hg
 have htl:t.block<w.heap.size:=by
  rcases Nat.lt_or_ge t.block w.heap.size with h|h
  ·exact h
  ·simp[World.cell?,Array.getElem?_eq_none h]at ht0
 have el:=Wm ⟨w.heap.size,0,none⟩ t (((w.alloc (.cells #[.pointer (some t)] 134)).alloc (.cells #[.pointer (some ⟨11,134,none⟩),.pointer (some ⟨w.heap.size,0,none⟩),.int .u64 150] 182)).alloc (.cells #[.pointer (some ⟨11,134,none⟩),.pointer (some ⟨w.heap.size,0,none⟩),.int .u64 150] 182)) (by rw[World.cell?_alloc_lt _ _ ⟨w.heap.size,0,none⟩ (by simp;omega)];simp)
 have st:=WN t ⟨w.heap.size+1+1+1,0,none⟩ e old ((((w.alloc (.cells #[.pointer (some t)] 134)).alloc (.cells #[.pointer (some ⟨11,134,none⟩),.pointer (some ⟨w.heap.size,0,none⟩),.int .u64 150] 182)).alloc (.cells #[.pointer (some ⟨11,134,none⟩),.pointer (some ⟨w.heap.size,0,none⟩),.int .u64 150] 182)).alloc (.cells #[.pointer (some e)] 131))
  (by rw[World.cell?_alloc_at _ _ _ _ (by simp)];rfl)
  (by rw[World.cell?_alloc_lt _ _ t (by simp;omega),World.cell?_alloc_lt _ _ t (by simp;omega),World.cell?_alloc_lt _ _ t (by simp;omega),World.cell?_alloc_lt _ _ t htl];exact ht0)
  (by rw[World.frozen?_alloc_old _ _ t (by simp;omega),World.frozen?_alloc_old _ _ t (by simp;omega),World.frozen?_alloc_old _ _ t (by simp;omega),World.frozen?_alloc_old _ _ t (Nat.ne_of_lt htl)];exact hf0)
 have tF:=Nv;have aF: ∀w:World,(ReflectliteType.relation "AssignableTo" ReflectliteType.assignableTo #[.agg #[.pointer (some ⟨11,130,none⟩)],.iface 229 (.agg #[.pointer (some ⟨11,131,none⟩)])]).run prog w= .ok (.bool false) w:=fun w=>by kernel_rfl
 have noA: ∀(v:Value) (xT:TypeId) (w:World),(Instr.typeAssert (.iface 130 v) xT 234 true).run prog w= .ok (.tuple #[.nilIface,.bool false]) w:=fun v xT w=>run_typeAssert_lacksB underlying234 (by kernel_rfl) (by kernel_rfl) v xT w
 have hasU: ∀(v:Value) (xT:TypeId) (w:World),(Instr.typeAssert (.iface 130 v) xT 237 true).run prog w= .ok (.tuple #[.iface 130 v,.bool true]) w:=fun v xT w=>run_typeAssert_hasB underlying237 (by kernel_rfl) v xT w
 have mU: ∀(a:Addr) (w:World),(Go.method 400 130 (.pointer (some a)) "Unwrap").run prog w= .ok (212,.pointer (some a)) w:=fun a w=>by kernel_rfl
 have hplt:p<w.heap.size:=by
  rcases Nat.lt_or_ge p w.heap.size with h|h
  ·exact h
  ·simp[World.cell?,Array.getElem?_eq_none h]at hp
 have hp3:(((w.alloc (.cells #[.pointer (some t)] 134)).alloc (.cells #[.pointer (some ⟨11,134,none⟩),.pointer (some ⟨w.heap.size,0,none⟩),.int .u64 150] 182)).alloc (.cells #[.pointer (some ⟨11,134,none⟩),.pointer (some ⟨w.heap.size,0,none⟩),.int .u64 150] 182)).cell? ⟨p,1,none⟩=some (.iface 131 (.pointer (some e))):=by
  rw[World.cell?_alloc_lt _ _ ⟨p,1,none⟩ (by simp;omega),World.cell?_alloc_lt _ _ ⟨p,1,none⟩ (by simp;omega),World.cell?_alloc_lt _ _ ⟨p,1,none⟩ hplt];exact hp
 go_enter func76,ntmps76
 go_wp2
 refine wp_loop_rounds 2 ?_;rw[rounds_succ]
 go_wp2
 rw[rounds_succ]
 go_wp2
 go_ret
 exact⟨rfl,rfl⟩
end Go.Proofs.YtafbhakmkbehiaaGreatDoor
