import Derived.LaidEql
import Derived.Stop.Asserts
import Derived.RowKitTokens
import Derived.Test.YtefpajmkaaielaaGreatDoorW12
open Go.Proofs.Tryz
namespace Go.Proofs.YtefpajmkaaielaaGreatDoor
open Go.RowKit Go.Extern.Stop Go.Stop Go.Extern
variable(w:World)
theorem tL(t:Addr)(w:World):(ReflectliteValue.unpack (.iface 56 (.pointer (some t)))).run prog w
 = .ok (.agg #[.pointer (some ⟨11,56,none⟩),.pointer (some ⟨w.heap.size,0,none⟩),.int .u64 150]) (w.alloc (.cells #[.pointer (some t)] 56)):=by kernel_rfl
theorem tP(a:Addr)(w:World):(ReflectliteValue.methodAny (ReflectliteValue.valueError "reflectlite.Value.Type" 0) (fun t _ _ _=>ReflectliteType.toType t) #[.agg #[.pointer (some ⟨11,56,none⟩),.pointer (some a),.int .u64 150]]).run prog w
 = .ok (.iface 118 (.agg #[.pointer (some ⟨11,56,none⟩)])) w:=by kernel_rfl
theorem tW(h:Value)(w:World):(Go.method 353 118 (.agg #[h]) "Kind").run prog w= .ok (157,h) w:=by kernel_rfl
theorem tc:((ReflectliteType.abiMethod fun t=>(fun a:Nat=>Value.int IntKind.u8 (a:Int)) <$> Rtype.kind t) #[.pointer (some ⟨11,56,none⟩)]).run prog w= .ok (.int .u8 22) w:=by kernel_rfl
theorem td:((ReflectliteType.abiMethod fun t=>(fun a:Nat=>Value.int IntKind.u8 (a:Int)) <$> Rtype.kind t) #[.pointer (some ⟨11,53,none⟩)]).run prog w= .ok (.int .u8 22) w:=by kernel_rfl
theorem ZD(z:Sem Value)(f:TypeId→Addr→Nat→Nat→Sem Value)(v:Value):
 ReflectliteValue.method z f #[v]=(do match←ReflectliteValue.parts v with|none=>z|some (t,a,fl)=>f t a fl (fl %32)):=rfl
theorem ZE(a:Addr)(w:World):(ReflectliteValue.parts (.agg #[.pointer (some ⟨11,56,none⟩),.pointer (some a),.int .u64 150])).run prog w= .ok (some (56,a,150)) w:=by kernel_rfl
theorem te(a p:Addr)(W:World)(ha:W.cell? a=some (.pointer (some p))):
 (ReflectliteValue.method (ReflectliteValue.valueError "reflectlite.Value.IsNil" 0) ReflectliteValue.isNil #[.agg #[.pointer (some ⟨11,56,none⟩),.pointer (some a),.int .u64 150]]).run prog W= .ok (.bool false) W:=by
 rw[ZD];simp only[Sem.run_bind,ZE,Result.andThen];simp[ReflectliteValue.isNil,loadVar,isAgg,underlying,underlying56,ha,Result.andThen]
theorem tY(h:Value)(w:World):(Go.method 353 118 (.agg #[h]) "Elem").run prog w= .ok (169,.agg #[h]) w:=by kernel_rfl
theorem tX(h:Value)(w:World):(Go.method 353 118 (.agg #[h]) "Implements").run prog w= .ok (170,.agg #[h]) w:=by kernel_rfl
theorem tZ(h:Value)(w:World):(Go.method 353 118 (.agg #[h]) "AssignableTo").run prog w= .ok (167,.agg #[h]) w:=by kernel_rfl
theorem tl:(ReflectliteType.method ReflectliteType.elem #[.agg #[.pointer (some ⟨11,56,none⟩)]]).run prog w= .ok (.iface 118 (.agg #[.pointer (some ⟨11,53,none⟩)])) w:=by kernel_rfl
theorem tf:(ReflectliteType.relation "Implements" ReflectliteType.implements_ #[.agg #[.pointer (some ⟨11,53,none⟩)],.iface 118 (.agg #[.pointer (some ⟨11,39,none⟩)])]).run prog w= .ok (.bool true) w:=by kernel_rfl
theorem ZC(v:Value)(w:World):(ReflectliteType.typeOf #[.iface 53 v]).run prog w= .ok (.iface 118 (.agg #[.pointer (some ⟨11,53,none⟩)])) w:=by kernel_rfl
theorem tq:(ReflectliteType.relation "AssignableTo" ReflectliteType.assignableTo #[.agg #[.pointer (some ⟨11,53,none⟩)],.iface 118 (.agg #[.pointer (some ⟨11,53,none⟩)])]).run prog w= .ok (.bool true) w:=by kernel_rfl
theorem tM(e:Addr)(w:World):(ReflectliteValue.unpack (.iface 53 (.pointer (some e)))).run prog w
 = .ok (.agg #[.pointer (some ⟨11,53,none⟩),.pointer (some ⟨w.heap.size,0,none⟩),.int .u64 150]) (w.alloc (.cells #[.pointer (some e)] 53)):=by kernel_rfl
theorem tk:(Rtype.elem? 56).run prog w= .ok (some 53) w:=by kernel_rfl
theorem tV(p:Addr)(w:World):(ReflectliteValue.mk 53 p ReflectliteValue.flagAddr).run prog w= .ok (.agg #[.pointer (some ⟨11,53,none⟩),.pointer (some p),.int .u64 406]) w:=by kernel_rfl
theorem tj(a p:Addr)(W:World)(ha:W.cell? a=some (.pointer (some p))):
 (ReflectliteValue.method (ReflectliteValue.valueError "reflectlite.Value.Elem" 0) ReflectliteValue.elem #[.agg #[.pointer (some ⟨11,56,none⟩),.pointer (some a),.int .u64 150]]).run prog W
  = .ok (.agg #[.pointer (some ⟨11,53,none⟩),.pointer (some p),.int .u64 406]) W:=by
 rw[ZD];simp only[Sem.run_bind,ZE,Result.andThen];simp[ReflectliteValue.elem,loadVar,isAgg,underlying,underlying56,ha,Result.andThen,tk,tV]
theorem tS(v x:Value):ReflectliteValue.set #[v,x]=(do
 let(some (dst,a,fl),some (src,b,_)):=(←ReflectliteValue.parts v,←ReflectliteValue.parts x)
  |unsupported (.noEntry "extern/(internal/reflectlite.Value).Set.zeroValue")
 if fl/ReflectliteValue.flagAddr %2==0 then unsupported (.noEntry "extern/(internal/reflectlite.Value).Set.unaddressable")
 let val←loadVar src b
 if←Rtype.directlyAssignable dst src then storeVar dst a val
 else if←Rtype.implements dst src then
  if(←Rtype.kind src)==20 then
   match val with
   | .nilIface=>unsupported (.noEntry "extern/reflectlite: a nil value of one interface type handed on as a value of another")
   |_=>storeVar dst a val
  else storeVar dst a (.iface src val)
 else panicString ("reflectlite.Set: value of type " ++(←Rtype.spelt src)++ " is not assignable to type " ++(←Rtype.spelt dst))
 pure (.tuple #[])):=rfl
theorem tT(a:Addr)(w:World):(ReflectliteValue.parts (.agg #[.pointer (some ⟨11,53,none⟩),.pointer (some a),.int .u64 406])).run prog w= .ok (some (53,a,406)) w:=by kernel_rfl
theorem tU(a:Addr)(w:World):(ReflectliteValue.parts (.agg #[.pointer (some ⟨11,53,none⟩),.pointer (some a),.int .u64 150])).run prog w= .ok (some (53,a,150)) w:=by kernel_rfl
theorem tn:(Rtype.directlyAssignable 53 53).run prog w= .ok true w:=by kernel_rfl
theorem tQ(ta b e:Addr)(old:Value)(W:World)(hb:W.cell? b=some (.pointer (some e)))(ht:W.cell? ta=some old)(hf:W.frozen? ta=false):
 (ReflectliteValue.set #[.agg #[.pointer (some ⟨11,53,none⟩),.pointer (some ta),.int .u64 406],.agg #[.pointer (some ⟨11,53,none⟩),.pointer (some b),.int .u64 150]]).run prog W
  = .ok (.tuple #[]) (W.setCell ta (.pointer (some e))):=by
 rw[tS];simp only[Sem.run_bind,tT,tU,Result.andThen];simp[ReflectliteValue.flagAddr,loadVar,isAgg,underlying,underlying53,hb,Result.andThen,tn,storeVar,Value.cells,storeCells,Addr.add];rw[run_store prog W ta _ _ (by rfl)];simp[ht,hf]
set_option maxHeartbeats 4000000 in
theorem sK(e t:Addr)(old:Value)(w:World)(hg:w.cell? ⟨0,0,none⟩=some (.iface 118 (.agg #[.pointer (some ⟨11,39,none⟩)])))(ht0:w.cell? t=some old)(hf0:w.frozen? t=false):
 Calls prog 16 #[.iface 53 (.pointer (some e)),.iface 56 (.pointer (some t))] w fun ev w'=>ev= .returned (.bool true)∧w'=((((w.alloc (.cells #[.pointer (some t)] 56)).alloc (.cells #[.pointer (some ⟨11,56,none⟩),.pointer (some ⟨w.heap.size,0,none⟩),.int .u64 150] 75)).alloc (.cells #[.pointer (some ⟨11,56,none⟩),.pointer (some ⟨w.heap.size,0,none⟩),.int .u64 150] 75)).alloc (.cells #[.pointer (some e)] 53)).setCell t (.pointer (some e)):=by
 have h6:= @run_callFunc_extern prog 26 _ (fun args=>ReflectliteValue.unpack (args.getD 0 (.tuple #[]))) func26 (by kernel_rfl) (by kernel_rfl) (by kernel_rfl) (by kernel_rfl);have h7:= @run_callFunc_extern prog 27 _ (ReflectliteValue.methodAny (ReflectliteValue.valueError "reflectlite.Value.Type" 0) (fun t _ _ _=>ReflectliteType.toType t)) func27 (by kernel_rfl) (by kernel_rfl) (by kernel_rfl) (by kernel_rfl);have h8:= @run_callFunc_extern prog 28 _ (ReflectliteValue.method (ReflectliteValue.valueError "reflectlite.Value.IsNil" 0) ReflectliteValue.isNil) func28 (by kernel_rfl) (by kernel_rfl) (by kernel_rfl) (by kernel_rfl);have h27:= @run_callFunc_extern prog 157 _ (ReflectliteType.abiMethod fun t=>do pure (.int .u8 (←Rtype.kind t))) func157 (by kernel_rfl) (by kernel_rfl) (by kernel_rfl) (by kernel_rfl);have h37:= @run_callFunc_extern prog 169 _ (ReflectliteType.method ReflectliteType.elem) func169 (by kernel_rfl) (by kernel_rfl) (by kernel_rfl) (by kernel_rfl);have h38:= @run_callFunc_extern prog 170 _ (ReflectliteType.relation "Implements" ReflectliteType.implements_) func170 (by kernel_rfl) (by kernel_rfl) (by kernel_rfl) (by kernel_rfl);have h10:= @run_callFunc_extern prog 55 _ ReflectliteType.typeOf func55 (by kernel_rfl) (by kernel_rfl) (by kernel_rfl) (by kernel_rfl);have h35:= @run_callFunc_extern prog 167 _ (ReflectliteType.relation "AssignableTo" ReflectliteType.assignableTo) func167 (by kernel_rfl) (by kernel_rfl) (by kernel_rfl) (by kernel_rfl);have h11:= @run_callFunc_extern prog 56 _ (ReflectliteValue.method (ReflectliteValue.valueError "reflectlite.Value.Elem" 0) ReflectliteValue.elem) func56 (by kernel_rfl) (by kernel_rfl) (by kernel_rfl) (by kernel_rfl);have h12:= @run_callFunc_extern prog 57 _ ReflectliteValue.set func57 (by kernel_rfl) (by kernel_rfl) (by kernel_rfl) (by kernel_rfl);have tO:=ZC;have mA:=tZ;have a25:=tq;have v25:=tM;have f6:=tL;have f7:=tP;have mK:=tW;have mE:=tY;have mI:=tX;have k27:=tc;have k25:=td;have e27:=tl;have i25:=tf;have n8:=te ⟨w.heap.size,0,none⟩ t ((w.alloc (.cells #[.pointer (some t)] 56)).alloc (.cells #[.pointer (some ⟨11,56,none⟩),.pointer (some ⟨w.heap.size,0,none⟩),.int .u64 150] 75)) (by simp)
 have hlt:0<w.heap.size:=by
  rcases Nat.eq_zero_or_pos w.heap.size with h0|h
  ·simp[World.cell?,h0]at hg
  ·exact h
 have hg2:((w.alloc (.cells #[.pointer (some t)] 56)).alloc (.cells #[.pointer (some ⟨11,56,none⟩),.pointer (some ⟨w.heap.size,0,none⟩),.int .u64 150] 75)).cell? ⟨0,0,none⟩=some (.iface 118 (.agg #[.pointer (some ⟨11,39,none⟩)])):=by
  rw[World.cell?_alloc_lt _ _ ⟨0,0,none⟩ (by simp),World.cell?_alloc_lt _ _ ⟨0,0,none⟩ hlt];exact hg
 have htl:t.block<w.heap.size:=by
  rcases Nat.lt_or_ge t.block w.heap.size with h|h
  ·exact h
  ·simp[World.cell?,Array.getElem?_eq_none h]at ht0
 have el:=tj ⟨w.heap.size,0,none⟩ t (((w.alloc (.cells #[.pointer (some t)] 56)).alloc (.cells #[.pointer (some ⟨11,56,none⟩),.pointer (some ⟨w.heap.size,0,none⟩),.int .u64 150] 75)).alloc (.cells #[.pointer (some ⟨11,56,none⟩),.pointer (some ⟨w.heap.size,0,none⟩),.int .u64 150] 75)) (by rw[World.cell?_alloc_lt _ _ ⟨w.heap.size,0,none⟩ (by simp;omega)];simp)
 have st:=tQ t ⟨w.heap.size+1+1+1,0,none⟩ e old ((((w.alloc (.cells #[.pointer (some t)] 56)).alloc (.cells #[.pointer (some ⟨11,56,none⟩),.pointer (some ⟨w.heap.size,0,none⟩),.int .u64 150] 75)).alloc (.cells #[.pointer (some ⟨11,56,none⟩),.pointer (some ⟨w.heap.size,0,none⟩),.int .u64 150] 75)).alloc (.cells #[.pointer (some e)] 53))
  (by rw[World.cell?_alloc_at _ _ _ _ (by simp)];rfl)
  (by rw[World.cell?_alloc_lt _ _ t (by simp;omega),World.cell?_alloc_lt _ _ t (by simp;omega),World.cell?_alloc_lt _ _ t (by simp;omega),World.cell?_alloc_lt _ _ t htl];exact ht0)
  (by rw[World.frozen?_alloc_old _ _ t (by simp;omega),World.frozen?_alloc_old _ _ t (by simp;omega),World.frozen?_alloc_old _ _ t (by simp;omega),World.frozen?_alloc_old _ _ t (Nat.ne_of_lt htl)];exact hf0)
 go_enter func16,ntmps16
 go_wp2
 refine wp_loop_rounds 1 ?_;rw[rounds_succ]
 go_wp2
 go_ret
 exact⟨rfl,rfl⟩
theorem sS(t:Addr)(w:World):(ReflectliteValue.unpack (.iface 57 (.pointer (some t)))).run prog w
 = .ok (.agg #[.pointer (some ⟨11,57,none⟩),.pointer (some ⟨w.heap.size,0,none⟩),.int .u64 150]) (w.alloc (.cells #[.pointer (some t)] 57)):=by kernel_rfl
theorem sW(a:Addr)(w:World):(ReflectliteValue.methodAny (ReflectliteValue.valueError "reflectlite.Value.Type" 0) (fun t _ _ _=>ReflectliteType.toType t) #[.agg #[.pointer (some ⟨11,57,none⟩),.pointer (some a),.int .u64 150]]).run prog w
 = .ok (.iface 118 (.agg #[.pointer (some ⟨11,57,none⟩)])) w:=by kernel_rfl
theorem si(h:Value)(w:World):(Go.method 353 118 (.agg #[h]) "Kind").run prog w= .ok (157,h) w:=by kernel_rfl
theorem ss:((ReflectliteType.abiMethod fun t=>(fun a:Nat=>Value.int IntKind.u8 (a:Int)) <$> Rtype.kind t) #[.pointer (some ⟨11,57,none⟩)]).run prog w= .ok (.int .u8 22) w:=by kernel_rfl
theorem s9:((ReflectliteType.abiMethod fun t=>(fun a:Nat=>Value.int IntKind.u8 (a:Int)) <$> Rtype.kind t) #[.pointer (some ⟨11,54,none⟩)]).run prog w= .ok (.int .u8 22) w:=by kernel_rfl
theorem ZA(z:Sem Value)(f:TypeId→Addr→Nat→Nat→Sem Value)(v:Value):
 ReflectliteValue.method z f #[v]=(do match←ReflectliteValue.parts v with|none=>z|some (t,a,fl)=>f t a fl (fl %32)):=rfl
theorem ZB(a:Addr)(w:World):(ReflectliteValue.parts (.agg #[.pointer (some ⟨11,57,none⟩),.pointer (some a),.int .u64 150])).run prog w= .ok (some (57,a,150)) w:=by kernel_rfl
theorem tC(a p:Addr)(W:World)(ha:W.cell? a=some (.pointer (some p))):
 (ReflectliteValue.method (ReflectliteValue.valueError "reflectlite.Value.IsNil" 0) ReflectliteValue.isNil #[.agg #[.pointer (some ⟨11,57,none⟩),.pointer (some a),.int .u64 150]]).run prog W= .ok (.bool false) W:=by
 rw[ZA];simp only[Sem.run_bind,ZB,Result.andThen];simp[ReflectliteValue.isNil,loadVar,isAgg,underlying,underlying57,ha,Result.andThen]
theorem sn(h:Value)(w:World):(Go.method 353 118 (.agg #[h]) "Elem").run prog w= .ok (169,.agg #[h]) w:=by kernel_rfl
theorem sj(h:Value)(w:World):(Go.method 353 118 (.agg #[h]) "Implements").run prog w= .ok (170,.agg #[h]) w:=by kernel_rfl
theorem so(h:Value)(w:World):(Go.method 353 118 (.agg #[h]) "AssignableTo").run prog w= .ok (167,.agg #[h]) w:=by kernel_rfl
theorem tI:(ReflectliteType.method ReflectliteType.elem #[.agg #[.pointer (some ⟨11,57,none⟩)]]).run prog w= .ok (.iface 118 (.agg #[.pointer (some ⟨11,54,none⟩)])) w:=by kernel_rfl
theorem tD:(ReflectliteType.relation "Implements" ReflectliteType.implements_ #[.agg #[.pointer (some ⟨11,54,none⟩)],.iface 118 (.agg #[.pointer (some ⟨11,39,none⟩)])]).run prog w= .ok (.bool true) w:=by kernel_rfl
theorem sV(v:Value)(w:World):(ReflectliteType.typeOf #[.iface 54 v]).run prog w= .ok (.iface 118 (.agg #[.pointer (some ⟨11,54,none⟩)])) w:=by kernel_rfl
theorem tK:(ReflectliteType.relation "AssignableTo" ReflectliteType.assignableTo #[.agg #[.pointer (some ⟨11,54,none⟩)],.iface 118 (.agg #[.pointer (some ⟨11,54,none⟩)])]).run prog w= .ok (.bool true) w:=by kernel_rfl
theorem sU(e:Addr)(w:World):(ReflectliteValue.unpack (.iface 54 (.pointer (some e)))).run prog w
 = .ok (.agg #[.pointer (some ⟨11,54,none⟩),.pointer (some ⟨w.heap.size,0,none⟩),.int .u64 150]) (w.alloc (.cells #[.pointer (some e)] 54)):=by kernel_rfl
theorem tH:(Rtype.elem? 57).run prog w= .ok (some 54) w:=by kernel_rfl
theorem sf(p:Addr)(w:World):(ReflectliteValue.mk 54 p ReflectliteValue.flagAddr).run prog w= .ok (.agg #[.pointer (some ⟨11,54,none⟩),.pointer (some p),.int .u64 406]) w:=by kernel_rfl
theorem tE(a p:Addr)(W:World)(ha:W.cell? a=some (.pointer (some p))):
 (ReflectliteValue.method (ReflectliteValue.valueError "reflectlite.Value.Elem" 0) ReflectliteValue.elem #[.agg #[.pointer (some ⟨11,57,none⟩),.pointer (some a),.int .u64 150]]).run prog W
  = .ok (.agg #[.pointer (some ⟨11,54,none⟩),.pointer (some p),.int .u64 406]) W:=by
 rw[ZA];simp only[Sem.run_bind,ZB,Result.andThen];simp[ReflectliteValue.elem,loadVar,isAgg,underlying,underlying57,ha,Result.andThen,tH,sf]
theorem sY(v x:Value):ReflectliteValue.set #[v,x]=(do
 let(some (dst,a,fl),some (src,b,_)):=(←ReflectliteValue.parts v,←ReflectliteValue.parts x)
  |unsupported (.noEntry "extern/(internal/reflectlite.Value).Set.zeroValue")
 if fl/ReflectliteValue.flagAddr %2==0 then unsupported (.noEntry "extern/(internal/reflectlite.Value).Set.unaddressable")
 let val←loadVar src b
 if←Rtype.directlyAssignable dst src then storeVar dst a val
 else if←Rtype.implements dst src then
  if(←Rtype.kind src)==20 then
   match val with
   | .nilIface=>unsupported (.noEntry "extern/reflectlite: a nil value of one interface type handed on as a value of another")
   |_=>storeVar dst a val
  else storeVar dst a (.iface src val)
 else panicString ("reflectlite.Set: value of type " ++(←Rtype.spelt src)++ " is not assignable to type " ++(←Rtype.spelt dst))
 pure (.tuple #[])):=rfl
theorem sZ(a:Addr)(w:World):(ReflectliteValue.parts (.agg #[.pointer (some ⟨11,54,none⟩),.pointer (some a),.int .u64 406])).run prog w= .ok (some (54,a,406)) w:=by kernel_rfl
theorem sa(a:Addr)(w:World):(ReflectliteValue.parts (.agg #[.pointer (some ⟨11,54,none⟩),.pointer (some a),.int .u64 150])).run prog w= .ok (some (54,a,150)) w:=by kernel_rfl
theorem tJ:(Rtype.directlyAssignable 54 54).run prog w= .ok true w:=by kernel_rfl
theorem sX(ta b e:Addr)(old:Value)(W:World)(hb:W.cell? b=some (.pointer (some e)))(ht:W.cell? ta=some old)(hf:W.frozen? ta=false):
 (ReflectliteValue.set #[.agg #[.pointer (some ⟨11,54,none⟩),.pointer (some ta),.int .u64 406],.agg #[.pointer (some ⟨11,54,none⟩),.pointer (some b),.int .u64 150]]).run prog W
  = .ok (.tuple #[]) (W.setCell ta (.pointer (some e))):=by
 rw[sY];simp only[Sem.run_bind,sZ,sa,Result.andThen];simp[ReflectliteValue.flagAddr,loadVar,isAgg,underlying,underlying54,hb,Result.andThen,tJ,storeVar,Value.cells,storeCells,Addr.add];rw[run_store prog W ta _ _ (by rfl)];simp[ht,hf]
set_option maxHeartbeats 4000000 in
theorem sJ(e t:Addr)(p:Nat)(old:Value)(w:World)(hp:w.cell? ⟨p,1,none⟩=some (.iface 54 (.pointer (some e))))(hg:w.cell? ⟨0,0,none⟩=some (.iface 118 (.agg #[.pointer (some ⟨11,39,none⟩)])))(ht0:w.cell? t=some old)(hf0:w.frozen? t=false):
 Calls prog 16 #[.iface 53 (.pointer (some ⟨p,0,none⟩)),.iface 57 (.pointer (some t))] w fun ev w'=>ev= .returned (.bool true)∧w'=((((w.alloc (.cells #[.pointer (some t)] 57)).alloc (.cells #[.pointer (some ⟨11,57,none⟩),.pointer (some ⟨w.heap.size,0,none⟩),.int .u64 150] 75)).alloc (.cells #[.pointer (some ⟨11,57,none⟩),.pointer (some ⟨w.heap.size,0,none⟩),.int .u64 150] 75)).alloc (.cells #[.pointer (some e)] 54)).setCell t (.pointer (some e)):=by
 have h6:= @run_callFunc_extern prog 26 _ (fun args=>ReflectliteValue.unpack (args.getD 0 (.tuple #[]))) func26 (by kernel_rfl) (by kernel_rfl) (by kernel_rfl) (by kernel_rfl);have h7:= @run_callFunc_extern prog 27 _ (ReflectliteValue.methodAny (ReflectliteValue.valueError "reflectlite.Value.Type" 0) (fun t _ _ _=>ReflectliteType.toType t)) func27 (by kernel_rfl) (by kernel_rfl) (by kernel_rfl) (by kernel_rfl);have h8:= @run_callFunc_extern prog 28 _ (ReflectliteValue.method (ReflectliteValue.valueError "reflectlite.Value.IsNil" 0) ReflectliteValue.isNil) func28 (by kernel_rfl) (by kernel_rfl) (by kernel_rfl) (by kernel_rfl);have h27:= @run_callFunc_extern prog 157 _ (ReflectliteType.abiMethod fun t=>do pure (.int .u8 (←Rtype.kind t))) func157 (by kernel_rfl) (by kernel_rfl) (by kernel_rfl) (by kernel_rfl);have h37:= @run_callFunc_extern prog 169 _ (ReflectliteType.method ReflectliteType.elem) func169 (by kernel_rfl) (by kernel_rfl) (by kernel_rfl) (by kernel_rfl);have h38:= @run_callFunc_extern prog 170 _ (ReflectliteType.relation "Implements" ReflectliteType.implements_) func170 (by kernel_rfl) (by kernel_rfl) (by kernel_rfl) (by kernel_rfl);have h10:= @run_callFunc_extern prog 55 _ ReflectliteType.typeOf func55 (by kernel_rfl) (by kernel_rfl) (by kernel_rfl) (by kernel_rfl);have h35:= @run_callFunc_extern prog 167 _ (ReflectliteType.relation "AssignableTo" ReflectliteType.assignableTo) func167 (by kernel_rfl) (by kernel_rfl) (by kernel_rfl) (by kernel_rfl);have h11:= @run_callFunc_extern prog 56 _ (ReflectliteValue.method (ReflectliteValue.valueError "reflectlite.Value.Elem" 0) ReflectliteValue.elem) func56 (by kernel_rfl) (by kernel_rfl) (by kernel_rfl) (by kernel_rfl);have h12:= @run_callFunc_extern prog 57 _ ReflectliteValue.set func57 (by kernel_rfl) (by kernel_rfl) (by kernel_rfl) (by kernel_rfl);have tO:=sV;have mA:=so;have a25:=tK;have v25:=sU;have f6:=sS;have f7:=sW;have mK:=si;have mE:=sn;have mI:=sj;have k27:=ss;have k25:=s9;have e27:=tI;have i25:=tD;have n8:=tC ⟨w.heap.size,0,none⟩ t ((w.alloc (.cells #[.pointer (some t)] 57)).alloc (.cells #[.pointer (some ⟨11,57,none⟩),.pointer (some ⟨w.heap.size,0,none⟩),.int .u64 150] 75)) (by simp)
 have hlt:0<w.heap.size:=by
  rcases Nat.eq_zero_or_pos w.heap.size with h0|h
  ·simp[World.cell?,h0]at hg
  ·exact h
 have hg2:((w.alloc (.cells #[.pointer (some t)] 57)).alloc (.cells #[.pointer (some ⟨11,57,none⟩),.pointer (some ⟨w.heap.size,0,none⟩),.int .u64 150] 75)).cell? ⟨0,0,none⟩=some (.iface 118 (.agg #[.pointer (some ⟨11,39,none⟩)])):=by
  rw[World.cell?_alloc_lt _ _ ⟨0,0,none⟩ (by simp),World.cell?_alloc_lt _ _ ⟨0,0,none⟩ hlt];exact hg
 have htl:t.block<w.heap.size:=by
  rcases Nat.lt_or_ge t.block w.heap.size with h|h
  ·exact h
  ·simp[World.cell?,Array.getElem?_eq_none h]at ht0
 have el:=tE ⟨w.heap.size,0,none⟩ t (((w.alloc (.cells #[.pointer (some t)] 57)).alloc (.cells #[.pointer (some ⟨11,57,none⟩),.pointer (some ⟨w.heap.size,0,none⟩),.int .u64 150] 75)).alloc (.cells #[.pointer (some ⟨11,57,none⟩),.pointer (some ⟨w.heap.size,0,none⟩),.int .u64 150] 75)) (by rw[World.cell?_alloc_lt _ _ ⟨w.heap.size,0,none⟩ (by simp;omega)];simp)
 have st:=sX t ⟨w.heap.size+1+1+1,0,none⟩ e old ((((w.alloc (.cells #[.pointer (some t)] 57)).alloc (.cells #[.pointer (some ⟨11,57,none⟩),.pointer (some ⟨w.heap.size,0,none⟩),.int .u64 150] 75)).alloc (.cells #[.pointer (some ⟨11,57,none⟩),.pointer (some ⟨w.heap.size,0,none⟩),.int .u64 150] 75)).alloc (.cells #[.pointer (some e)] 54))
  (by rw[World.cell?_alloc_at _ _ _ _ (by simp)];rfl)
  (by rw[World.cell?_alloc_lt _ _ t (by simp;omega),World.cell?_alloc_lt _ _ t (by simp;omega),World.cell?_alloc_lt _ _ t (by simp;omega),World.cell?_alloc_lt _ _ t htl];exact ht0)
  (by rw[World.frozen?_alloc_old _ _ t (by simp;omega),World.frozen?_alloc_old _ _ t (by simp;omega),World.frozen?_alloc_old _ _ t (by simp;omega),World.frozen?_alloc_old _ _ t (Nat.ne_of_lt htl)];exact hf0)
 have tF:=ZC;have aF: ∀w:World,(ReflectliteType.relation "AssignableTo" ReflectliteType.assignableTo #[.agg #[.pointer (some ⟨11,53,none⟩)],.iface 118 (.agg #[.pointer (some ⟨11,54,none⟩)])]).run prog w= .ok (.bool false) w:=fun w=>by kernel_rfl
 have noA: ∀(v:Value) (xT:TypeId) (w:World),(Instr.typeAssert (.iface 53 v) xT 123 true).run prog w= .ok (.tuple #[.nilIface,.bool false]) w:=fun v xT w=>run_typeAssert_lacksB underlying123 (by kernel_rfl) (by kernel_rfl) v xT w
 have hasU: ∀(v:Value) (xT:TypeId) (w:World),(Instr.typeAssert (.iface 53 v) xT 126 true).run prog w= .ok (.tuple #[.iface 53 v,.bool true]) w:=fun v xT w=>run_typeAssert_hasB underlying126 (by kernel_rfl) v xT w
 have mU: ∀(a:Addr) (w:World),(Go.method 353 53 (.pointer (some a)) "Unwrap").run prog w= .ok (161,.pointer (some a)) w:=fun a w=>by kernel_rfl
 have hplt:p<w.heap.size:=by
  rcases Nat.lt_or_ge p w.heap.size with h|h
  ·exact h
  ·simp[World.cell?,Array.getElem?_eq_none h]at hp
 have hp3:(((w.alloc (.cells #[.pointer (some t)] 57)).alloc (.cells #[.pointer (some ⟨11,57,none⟩),.pointer (some ⟨w.heap.size,0,none⟩),.int .u64 150] 75)).alloc (.cells #[.pointer (some ⟨11,57,none⟩),.pointer (some ⟨w.heap.size,0,none⟩),.int .u64 150] 75)).cell? ⟨p,1,none⟩=some (.iface 54 (.pointer (some e))):=by
  rw[World.cell?_alloc_lt _ _ ⟨p,1,none⟩ (by simp;omega),World.cell?_alloc_lt _ _ ⟨p,1,none⟩ (by simp;omega),World.cell?_alloc_lt _ _ ⟨p,1,none⟩ hplt];exact hp
 go_enter func16,ntmps16
 go_wp2
 refine wp_loop_rounds 2 ?_;rw[rounds_succ]
 go_wp2
 rw[rounds_succ]
 go_wp2
 go_ret
 exact⟨rfl,rfl⟩
end Go.Proofs.YtefpajmkaaielaaGreatDoor
