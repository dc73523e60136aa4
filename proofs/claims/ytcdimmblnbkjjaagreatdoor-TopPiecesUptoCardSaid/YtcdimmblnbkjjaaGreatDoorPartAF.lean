/- Lemmas. -/
import Derived.Test.YtcdimmblnbkjjaaGreatDoorProg
import Derived.WalkKit
import Derived.LaidEql
import Derived.Stop.Asserts
import Derived.RowKitTokens
set_option linter.all false
set_option maxHeartbeats 4000000
set_option maxRecDepth 100000
namespace Go.Proofs.YtcdimmblnbkjjaaGreatDoor.As
open Go Go.RowKit Go.Extern.Stop Go.Stop Go.Extern
theorem as_nil(t:Value)(w:World):
  Calls Tryz.prog 82 #[.nilIface,t] w fun e w'=>e=.returned (.bool false)/\w'=w:=by
 go_enter Tryz.func82,Tryz.ntmps82
 go_wp2;go_ret
 exact⟨rfl,rfl⟩
theorem q4f(t:Addr)(w:World):(ReflectliteValue.unpack (.iface 137 (.pointer (some t)))).run Tryz.prog w
  = .ok (.agg #[.pointer (some ⟨9,137,none⟩),.pointer (some ⟨w.heap.size,0,none⟩),.int .u64 150]) (w.alloc (.cells #[.pointer (some t)] 137)):=by kernel_rfl
theorem q8T (a : Addr) (w : World) : (ReflectliteValue.methodAny (ReflectliteValue.valueError "reflectlite.Value.Type" 0) (fun t _ _ _ => ReflectliteType.toType t) #[.agg #[.pointer (some ⟨9, 137, none⟩), .pointer (some a), .int .u64 150]]).run Tryz.prog w
  = .ok (.iface 222 (.agg #[.pointer (some ⟨9,137,none⟩)])) w:=by kernel_rfl
theorem q3J (h : Value) (w : World) : (Go.method 464 222 (.agg #[h]) "Kind").run Tryz.prog w = .ok (334, h) w := by kernel_rfl
theorem q92(w:World):((ReflectliteType.abiMethod fun t=>(fun a:Nat=>Value.int IntKind.u8 (a:Int)) <$> Rtype.kind t) #[.pointer (some ⟨9,137,none⟩)]).run Tryz.prog w=.ok (.int .u8 22) w:=by kernel_rfl
theorem q93(w:World):((ReflectliteType.abiMethod fun t=>(fun a:Nat=>Value.int IntKind.u8 (a:Int)) <$> Rtype.kind t) #[.pointer (some ⟨9,131,none⟩)]).run Tryz.prog w=.ok (.int .u8 22) w:=by kernel_rfl
theorem qbM(z:Sem Value)(f:TypeId->Addr->Nat->Nat->Sem Value)(v:Value):
  ReflectliteValue.method z f #[v]=(do match <- ReflectliteValue.parts v with|none=>z|some (t,a,fl)=>f t a fl (fl%32)):=rfl
theorem q6P(a:Addr)(w:World):(ReflectliteValue.parts (.agg #[.pointer (some ⟨9,137,none⟩),.pointer (some a),.int .u64 150])).run Tryz.prog w=.ok (some (137,a,150)) w:=by kernel_rfl
theorem q78(a p:Addr)(W:World)(ha:W.cell? a=some (.pointer (some p))):
  (ReflectliteValue.method (ReflectliteValue.valueError "reflectlite.Value.IsNil" 0) ReflectliteValue.isNil #[.agg #[.pointer (some ⟨9, 137, none⟩), .pointer (some a), .int .u64 150]]).run Tryz.prog W = .ok (.bool false) W := by
 rw[qbM];simp only[Sem.run_bind,q6P,Result.andThen];simp [ReflectliteValue.isNil,loadVar,isAgg,underlying,Tryz.underlying137,ha,Result.andThen]
theorem q3K (h : Value) (w : World) : (Go.method 464 222 (.agg #[h]) "Elem").run Tryz.prog w = .ok (356, .agg #[h]) w := by kernel_rfl
theorem q1E (h : Value) (w : World) : (Go.method 464 222 (.agg #[h]) "Implements").run Tryz.prog w = .ok (357, .agg #[h]) w := by kernel_rfl
theorem q1j (h : Value) (w : World) : (Go.method 464 222 (.agg #[h]) "AssignableTo").run Tryz.prog w = .ok (354, .agg #[h]) w := by kernel_rfl
theorem q97(w:World):(ReflectliteType.method ReflectliteType.elem #[.agg #[.pointer (some ⟨9,137,none⟩)]]).run Tryz.prog w=.ok (.iface 222 (.agg #[.pointer (some ⟨9,131,none⟩)])) w:=by kernel_rfl
theorem q2H (w : World) : (ReflectliteType.relation "Implements" ReflectliteType.implements_ #[.agg #[.pointer (some ⟨9, 131, none⟩)], .iface 222 (.agg #[.pointer (some ⟨9, 56, none⟩)])]).run Tryz.prog w = .ok (.bool true) w := by kernel_rfl
theorem q5m(v:Value)(w:World):(ReflectliteType.typeOf #[.iface 131 v]).run Tryz.prog w=.ok (.iface 222 (.agg #[.pointer (some ⟨9,131,none⟩)])) w:=by kernel_rfl
theorem q2K (w : World) : (ReflectliteType.relation "AssignableTo" ReflectliteType.assignableTo #[.agg #[.pointer (some ⟨9, 131, none⟩)], .iface 222 (.agg #[.pointer (some ⟨9, 131, none⟩)])]).run Tryz.prog w = .ok (.bool true) w := by kernel_rfl
theorem q4g(e:Addr)(w:World):(ReflectliteValue.unpack (.iface 131 (.pointer (some e)))).run Tryz.prog w
  = .ok (.agg #[.pointer (some ⟨9,131,none⟩),.pointer (some ⟨w.heap.size,0,none⟩),.int .u64 150]) (w.alloc (.cells #[.pointer (some e)] 131)):=by kernel_rfl
theorem q8y(w:World):(Rtype.elem? 137).run Tryz.prog w=.ok (some 131) w:=by kernel_rfl
theorem qce(p:Addr)(w:World):(ReflectliteValue.mk 131 p ReflectliteValue.flagAddr).run Tryz.prog w=.ok (.agg #[.pointer (some ⟨9,131,none⟩),.pointer (some p),.int .u64 406]) w:=by kernel_rfl
theorem q7k(a p:Addr)(W:World)(ha:W.cell? a=some (.pointer (some p))):
  (ReflectliteValue.method (ReflectliteValue.valueError "reflectlite.Value.Elem" 0) ReflectliteValue.elem #[.agg #[.pointer (some ⟨9, 137, none⟩), .pointer (some a), .int .u64 150]]).run Tryz.prog W
   = .ok (.agg #[.pointer (some ⟨9,131,none⟩),.pointer (some p),.int .u64 406]) W:=by
 rw[qbM];simp only[Sem.run_bind,q6P,Result.andThen];simp [ReflectliteValue.elem,loadVar,isAgg,underlying,Tryz.underlying137,ha,Result.andThen,q8y,qce]
theorem qc8(v x:Value):ReflectliteValue.set #[v,x]=(do
  let (some (dst,a,fl),some (src,b,_)):=(<- ReflectliteValue.parts v,<- ReflectliteValue.parts x)
   | unsupported (.noEntry "extern/(internal/reflectlite.Value).Set.zeroValue")
  if fl / ReflectliteValue.flagAddr % 2 == 0 then unsupported (.noEntry "extern/(internal/reflectlite.Value).Set.unaddressable")
  let val <- loadVar src b
  if <- Rtype.directlyAssignable dst src then storeVar dst a val
  else if <- Rtype.implements dst src then
   if(<- Rtype.kind src)==20 then
    match val with
    | .nilIface => unsupported (.noEntry "extern/reflectlite: a nil value of one interface type handed on as a value of another")
    | _=>storeVar dst a val
   else storeVar dst a (.iface src val)
  else panicString ("reflectlite.Set: value of type " ++ (<- Rtype.spelt src) ++ " is not assignable to type " ++ (<- Rtype.spelt dst))
  pure (.tuple #[])):=rfl
theorem q87(a:Addr)(w:World):(ReflectliteValue.parts (.agg #[.pointer (some ⟨9,131,none⟩),.pointer (some a),.int .u64 406])).run Tryz.prog w=.ok (some (131,a,406)) w:=by kernel_rfl
theorem q9C(a:Addr)(w:World):(ReflectliteValue.parts (.agg #[.pointer (some ⟨9,131,none⟩),.pointer (some a),.int .u64 150])).run Tryz.prog w=.ok (some (131,a,150)) w:=by kernel_rfl
theorem q8E(w:World):(Rtype.directlyAssignable 131 131).run Tryz.prog w=.ok true w:=by kernel_rfl
theorem qaB(ta b e:Addr)(old:Value)(W:World)(hb:W.cell? b=some (.pointer (some e)))(ht:W.cell? ta=some old)(hf:W.frozen? ta=false):
  (ReflectliteValue.set #[.agg #[.pointer (some ⟨9,131,none⟩),.pointer (some ta),.int .u64 406],.agg #[.pointer (some ⟨9,131,none⟩),.pointer (some b),.int .u64 150]]).run Tryz.prog W
   = .ok (.tuple #[]) (W.setCell ta (.pointer (some e))):=by
 rw[qc8];simp only[Sem.run_bind,q87,q9C,Result.andThen];simp [ReflectliteValue.flagAddr,loadVar,isAgg,underlying,Tryz.underlying131,hb,Result.andThen,q8E,storeVar,Value.cells,storeCells,Addr.add]
 rw[run_store Tryz.prog W ta _ _ (by rfl)];simp [ht,hf]
theorem q6o(x e:Addr)(w:World)(h:w.cell? x=some (.pointer (some e))):
  Calls Tryz.prog 343 #[.pointer (some x)] w fun ev w'=>ev=.returned (.iface 131 (.pointer (some e)))/\w=w':=by
 go_enter Tryz.func343,Tryz.ntmps343
 go_wp2;go_ret
 exact⟨rfl,rfl⟩
theorem q4O(e:Addr)(w:World):
  Calls Tryz.prog 347 #[.pointer (some e)] w fun ev w'=>ev=.returned (.iface 131 (.pointer (some e)))/\w=w':=by
 go_enter Tryz.func347,Tryz.ntmps347
 go_wp2;go_ret
 exact⟨rfl,rfl⟩
theorem as_wrong(x e t:Addr)(old:Value)(w:World)(hg:w.cell? ⟨0,0,none⟩=some (.iface 222 (.agg #[.pointer (some ⟨9,56,none⟩)])))(ht0:w.cell? t=some old)(hf0:w.frozen? t=false)(hx:w.cell? x=some (.pointer (some e))):
  Calls Tryz.prog 82 #[.iface 130 (.pointer (some x)),.iface 137 (.pointer (some t))] w fun ev w'=>ev=.returned (.bool true)/\w'=((((w.alloc (.cells #[.pointer (some t)] 137)).alloc (.cells #[.pointer (some ⟨9,137,none⟩),.pointer (some ⟨w.heap.size,0,none⟩),.int .u64 150] 185)).alloc (.cells #[.pointer (some ⟨9,137,none⟩),.pointer (some ⟨w.heap.size,0,none⟩),.int .u64 150] 185)).alloc (.cells #[.pointer (some e)] 131)).setCell t (.pointer (some e)):=by
 have h6:=@run_callFunc_extern Tryz.prog 132 _ (fun args=>ReflectliteValue.unpack (args.getD 0 (.tuple #[]))) Tryz.func132 (by kernel_rfl) (by kernel_rfl) (by kernel_rfl) (by kernel_rfl);have h7 := @run_callFunc_extern Tryz.prog 133 _ (ReflectliteValue.methodAny (ReflectliteValue.valueError "reflectlite.Value.Type" 0) (fun t _ _ _ => ReflectliteType.toType t)) Tryz.func133 (by kernel_rfl) (by kernel_rfl) (by kernel_rfl) (by kernel_rfl);have h8 := @run_callFunc_extern Tryz.prog 134 _ (ReflectliteValue.method (ReflectliteValue.valueError "reflectlite.Value.IsNil" 0) ReflectliteValue.isNil) Tryz.func134 (by kernel_rfl) (by kernel_rfl) (by kernel_rfl) (by kernel_rfl);have h27:=@run_callFunc_extern Tryz.prog 334 _ (ReflectliteType.abiMethod fun t=>do pure (.int .u8 (<- Rtype.kind t))) Tryz.func334 (by kernel_rfl) (by kernel_rfl) (by kernel_rfl) (by kernel_rfl);have h37:=@run_callFunc_extern Tryz.prog 356 _ (ReflectliteType.method ReflectliteType.elem) Tryz.func356 (by kernel_rfl) (by kernel_rfl) (by kernel_rfl) (by kernel_rfl);have h38 := @run_callFunc_extern Tryz.prog 357 _ (ReflectliteType.relation "Implements" ReflectliteType.implements_) Tryz.func357 (by kernel_rfl) (by kernel_rfl) (by kernel_rfl) (by kernel_rfl);have h10:=@run_callFunc_extern Tryz.prog 181 _ ReflectliteType.typeOf Tryz.func181 (by kernel_rfl) (by kernel_rfl) (by kernel_rfl) (by kernel_rfl);have h35 := @run_callFunc_extern Tryz.prog 354 _ (ReflectliteType.relation "AssignableTo" ReflectliteType.assignableTo) Tryz.func354 (by kernel_rfl) (by kernel_rfl) (by kernel_rfl) (by kernel_rfl);have h11 := @run_callFunc_extern Tryz.prog 182 _ (ReflectliteValue.method (ReflectliteValue.valueError "reflectlite.Value.Elem" 0) ReflectliteValue.elem) Tryz.func182 (by kernel_rfl) (by kernel_rfl) (by kernel_rfl) (by kernel_rfl);have h12:=@run_callFunc_extern Tryz.prog 183 _ ReflectliteValue.set Tryz.func183 (by kernel_rfl) (by kernel_rfl) (by kernel_rfl) (by kernel_rfl);have tO:=q5m;have mA:=q1j;have a25:=q2K;have v25:=q4g;have f6:=q4f;have f7:=q8T;have mK:=q3J;have mE:=q3K;have mI:=q1E;have k27:=q92;have k25:=q93;have e27:=q97;have i25:=q2H;have n8:=q78 ⟨w.heap.size,0,none⟩ t ((w.alloc (.cells #[.pointer (some t)] 137)).alloc (.cells #[.pointer (some ⟨9,137,none⟩),.pointer (some ⟨w.heap.size,0,none⟩),.int .u64 150] 185)) (by simp);have hlt:0<w.heap.size:=by
  rcases Nat.eq_zero_or_pos w.heap.size with h0|h
  ·simp [World.cell?,h0] at hg
  ·exact h
 have hg2:((w.alloc (.cells #[.pointer (some t)] 137)).alloc (.cells #[.pointer (some ⟨9,137,none⟩),.pointer (some ⟨w.heap.size,0,none⟩),.int .u64 150] 185)).cell? ⟨0,0,none⟩=some (.iface 222 (.agg #[.pointer (some ⟨9,56,none⟩)])):=by
  rw[World.cell?_alloc_lt _ _ ⟨0,0,none⟩ (by simp),World.cell?_alloc_lt _ _ ⟨0,0,none⟩ hlt];exact hg
 have htl:t.block<w.heap.size:=by
  rcases Nat.lt_or_ge t.block w.heap.size with h|h
  ·exact h
  ·simp [World.cell?,Array.getElem?_eq_none h] at ht0
 have el:=q7k ⟨w.heap.size,0,none⟩ t (((w.alloc (.cells #[.pointer (some t)] 137)).alloc (.cells #[.pointer (some ⟨9,137,none⟩),.pointer (some ⟨w.heap.size,0,none⟩),.int .u64 150] 185)).alloc (.cells #[.pointer (some ⟨9,137,none⟩),.pointer (some ⟨w.heap.size,0,none⟩),.int .u64 150] 185)) (by rw[World.cell?_alloc_lt _ _ ⟨w.heap.size,0,none⟩ (by simp;omega)];simp);have st:=qaB t ⟨w.heap.size+1+1+1,0,none⟩ e old ((((w.alloc (.cells #[.pointer (some t)] 137)).alloc (.cells #[.pointer (some ⟨9,137,none⟩),.pointer (some ⟨w.heap.size,0,none⟩),.int .u64 150] 185)).alloc (.cells #[.pointer (some ⟨9,137,none⟩),.pointer (some ⟨w.heap.size,0,none⟩),.int .u64 150] 185)).alloc (.cells #[.pointer (some e)] 131))
  (by rw[World.cell?_alloc_at _ _ _ _ (by simp)];rfl)
  (by rw[World.cell?_alloc_lt _ _ t (by simp;omega),World.cell?_alloc_lt _ _ t (by simp;omega),World.cell?_alloc_lt _ _ t (by simp;omega),World.cell?_alloc_lt _ _ t htl];exact ht0)
  (by rw[World.frozen?_alloc_old _ _ t (by simp;omega),World.frozen?_alloc_old _ _ t (by simp;omega),World.frozen?_alloc_old _ _ t (by simp;omega),World.frozen?_alloc_old _ _ t (Nat.ne_of_lt htl)];exact hf0)
 have tX:∀(v:Value) (w:World),(ReflectliteType.typeOf #[.iface 130 v]).run Tryz.prog w=.ok (.iface 222 (.agg #[.pointer (some ⟨9,130,none⟩)])) w:=fun v w=>by kernel_rfl
 have aX : ∀ (w : World), (ReflectliteType.relation "AssignableTo" ReflectliteType.assignableTo #[.agg #[.pointer (some ⟨9, 130, none⟩)], .iface 222 (.agg #[.pointer (some ⟨9, 131, none⟩)])]).run Tryz.prog w = .ok (.bool false) w := fun w => by kernel_rfl
 have nA:∀(v:Value) (w:World),(Instr.typeAssert (.iface 130 v) 56 227 true).run Tryz.prog w=.ok (.tuple #[.nilIface,.bool false]) w:=fun v w=>run_typeAssert_lacksB Tryz.underlying227 (by kernel_rfl) (by kernel_rfl) v _ w
 have hUn:∀(v:Value) (w:World),(Instr.typeAssert (.iface 130 v) 56 230 true).run Tryz.prog w=.ok (.tuple #[.iface 130 v,.bool true]) w:=fun v w=>run_typeAssert_hasB Tryz.underlying230 (by kernel_rfl) v _ w
 have mU : ∀ (v : Value) (w : World), (Go.method 464 130 v "Unwrap").run Tryz.prog w = .ok (343, v) w := fun v w => by kernel_rfl
 have hxl:x.block<w.heap.size:=by
  rcases Nat.lt_or_ge x.block w.heap.size with h|h
  ·exact h
  ·simp [World.cell?,Array.getElem?_eq_none h] at hx
 have HU:=fun(w':World) h=>q6o x e w' h
 go_enter Tryz.func82,Tryz.ntmps82
 go_wp2;refine wp_loop_rounds 2 ?_;rw[rounds_succ];go_wp2_with fail
 refine(HU _ ?_).mono ?_
 ·rw[World.cell?_alloc_lt _ _ x (by simp;omega),World.cell?_alloc_lt _ _ x (by simp;omega),World.cell?_alloc_lt _ _ x hxl];exact hx
 rintro ev w1 ⟨rfl,rfl⟩;go_wp2_with fail
 rw[rounds_succ];go_wp2;go_ret
 exact⟨rfl,rfl⟩
theorem as_refused(e t:Addr)(old:Value)(w:World)(hg:w.cell? ⟨0,0,none⟩=some (.iface 222 (.agg #[.pointer (some ⟨9,56,none⟩)])))(ht0:w.cell? t=some old)(hf0:w.frozen? t=false):
  Calls Tryz.prog 82 #[.iface 174 (.pointer (some e)),.iface 137 (.pointer (some t))] w fun ev w'=>ev=.returned (.bool true)/\w'=((((w.alloc (.cells #[.pointer (some t)] 137)).alloc (.cells #[.pointer (some ⟨9,137,none⟩),.pointer (some ⟨w.heap.size,0,none⟩),.int .u64 150] 185)).alloc (.cells #[.pointer (some ⟨9,137,none⟩),.pointer (some ⟨w.heap.size,0,none⟩),.int .u64 150] 185)).alloc (.cells #[.pointer (some e)] 131)).setCell t (.pointer (some e)):=by
 have h6:=@run_callFunc_extern Tryz.prog 132 _ (fun args=>ReflectliteValue.unpack (args.getD 0 (.tuple #[]))) Tryz.func132 (by kernel_rfl) (by kernel_rfl) (by kernel_rfl) (by kernel_rfl);have h7 := @run_callFunc_extern Tryz.prog 133 _ (ReflectliteValue.methodAny (ReflectliteValue.valueError "reflectlite.Value.Type" 0) (fun t _ _ _ => ReflectliteType.toType t)) Tryz.func133 (by kernel_rfl) (by kernel_rfl) (by kernel_rfl) (by kernel_rfl);have h8 := @run_callFunc_extern Tryz.prog 134 _ (ReflectliteValue.method (ReflectliteValue.valueError "reflectlite.Value.IsNil" 0) ReflectliteValue.isNil) Tryz.func134 (by kernel_rfl) (by kernel_rfl) (by kernel_rfl) (by kernel_rfl);have h27:=@run_callFunc_extern Tryz.prog 334 _ (ReflectliteType.abiMethod fun t=>do pure (.int .u8 (<- Rtype.kind t))) Tryz.func334 (by kernel_rfl) (by kernel_rfl) (by kernel_rfl) (by kernel_rfl);have h37:=@run_callFunc_extern Tryz.prog 356 _ (ReflectliteType.method ReflectliteType.elem) Tryz.func356 (by kernel_rfl) (by kernel_rfl) (by kernel_rfl) (by kernel_rfl);have h38 := @run_callFunc_extern Tryz.prog 357 _ (ReflectliteType.relation "Implements" ReflectliteType.implements_) Tryz.func357 (by kernel_rfl) (by kernel_rfl) (by kernel_rfl) (by kernel_rfl);have h10:=@run_callFunc_extern Tryz.prog 181 _ ReflectliteType.typeOf Tryz.func181 (by kernel_rfl) (by kernel_rfl) (by kernel_rfl) (by kernel_rfl);have h35 := @run_callFunc_extern Tryz.prog 354 _ (ReflectliteType.relation "AssignableTo" ReflectliteType.assignableTo) Tryz.func354 (by kernel_rfl) (by kernel_rfl) (by kernel_rfl) (by kernel_rfl);have h11 := @run_callFunc_extern Tryz.prog 182 _ (ReflectliteValue.method (ReflectliteValue.valueError "reflectlite.Value.Elem" 0) ReflectliteValue.elem) Tryz.func182 (by kernel_rfl) (by kernel_rfl) (by kernel_rfl) (by kernel_rfl);have h12:=@run_callFunc_extern Tryz.prog 183 _ ReflectliteValue.set Tryz.func183 (by kernel_rfl) (by kernel_rfl) (by kernel_rfl) (by kernel_rfl);have tO:=q5m;have mA:=q1j;have a25:=q2K;have v25:=q4g;have f6:=q4f;have f7:=q8T;have mK:=q3J;have mE:=q3K;have mI:=q1E;have k27:=q92;have k25:=q93;have e27:=q97;have i25:=q2H;have n8:=q78 ⟨w.heap.size,0,none⟩ t ((w.alloc (.cells #[.pointer (some t)] 137)).alloc (.cells #[.pointer (some ⟨9,137,none⟩),.pointer (some ⟨w.heap.size,0,none⟩),.int .u64 150] 185)) (by simp);have hlt:0<w.heap.size:=by
  rcases Nat.eq_zero_or_pos w.heap.size with h0|h
  ·simp [World.cell?,h0] at hg
  ·exact h
 have hg2:((w.alloc (.cells #[.pointer (some t)] 137)).alloc (.cells #[.pointer (some ⟨9,137,none⟩),.pointer (some ⟨w.heap.size,0,none⟩),.int .u64 150] 185)).cell? ⟨0,0,none⟩=some (.iface 222 (.agg #[.pointer (some ⟨9,56,none⟩)])):=by
  rw[World.cell?_alloc_lt _ _ ⟨0,0,none⟩ (by simp),World.cell?_alloc_lt _ _ ⟨0,0,none⟩ hlt];exact hg
 have htl:t.block<w.heap.size:=by
  rcases Nat.lt_or_ge t.block w.heap.size with h|h
  ·exact h
  ·simp [World.cell?,Array.getElem?_eq_none h] at ht0
 have el:=q7k ⟨w.heap.size,0,none⟩ t (((w.alloc (.cells #[.pointer (some t)] 137)).alloc (.cells #[.pointer (some ⟨9,137,none⟩),.pointer (some ⟨w.heap.size,0,none⟩),.int .u64 150] 185)).alloc (.cells #[.pointer (some ⟨9,137,none⟩),.pointer (some ⟨w.heap.size,0,none⟩),.int .u64 150] 185)) (by rw[World.cell?_alloc_lt _ _ ⟨w.heap.size,0,none⟩ (by simp;omega)];simp);have st:=qaB t ⟨w.heap.size+1+1+1,0,none⟩ e old ((((w.alloc (.cells #[.pointer (some t)] 137)).alloc (.cells #[.pointer (some ⟨9,137,none⟩),.pointer (some ⟨w.heap.size,0,none⟩),.int .u64 150] 185)).alloc (.cells #[.pointer (some ⟨9,137,none⟩),.pointer (some ⟨w.heap.size,0,none⟩),.int .u64 150] 185)).alloc (.cells #[.pointer (some e)] 131))
  (by rw[World.cell?_alloc_at _ _ _ _ (by simp)];rfl)
  (by rw[World.cell?_alloc_lt _ _ t (by simp;omega),World.cell?_alloc_lt _ _ t (by simp;omega),World.cell?_alloc_lt _ _ t (by simp;omega),World.cell?_alloc_lt _ _ t htl];exact ht0)
  (by rw[World.frozen?_alloc_old _ _ t (by simp;omega),World.frozen?_alloc_old _ _ t (by simp;omega),World.frozen?_alloc_old _ _ t (by simp;omega),World.frozen?_alloc_old _ _ t (Nat.ne_of_lt htl)];exact hf0)
 have tX:∀(v:Value) (w:World),(ReflectliteType.typeOf #[.iface 174 v]).run Tryz.prog w=.ok (.iface 222 (.agg #[.pointer (some ⟨9,174,none⟩)])) w:=fun v w=>by kernel_rfl
 have aX : ∀ (w : World), (ReflectliteType.relation "AssignableTo" ReflectliteType.assignableTo #[.agg #[.pointer (some ⟨9, 174, none⟩)], .iface 222 (.agg #[.pointer (some ⟨9, 131, none⟩)])]).run Tryz.prog w = .ok (.bool false) w := fun w => by kernel_rfl
 have nA:∀(v:Value) (w:World),(Instr.typeAssert (.iface 174 v) 56 227 true).run Tryz.prog w=.ok (.tuple #[.nilIface,.bool false]) w:=fun v w=>run_typeAssert_lacksB Tryz.underlying227 (by kernel_rfl) (by kernel_rfl) v _ w
 have hUn:∀(v:Value) (w:World),(Instr.typeAssert (.iface 174 v) 56 230 true).run Tryz.prog w=.ok (.tuple #[.iface 174 v,.bool true]) w:=fun v w=>run_typeAssert_hasB Tryz.underlying230 (by kernel_rfl) v _ w
 have mU : ∀ (v : Value) (w : World), (Go.method 464 174 v "Unwrap").run Tryz.prog w = .ok (347, v) w := fun v w => by kernel_rfl
 have HU:=fun(w':World) (_:True)=>q4O e w'
 go_enter Tryz.func82,Tryz.ntmps82
 go_wp2;refine wp_loop_rounds 2 ?_;rw[rounds_succ];go_wp2_with fail
 refine(HU _ trivial).mono ?_;rintro ev w1 ⟨rfl,rfl⟩;go_wp2_with fail
 rw[rounds_succ];go_wp2;go_ret
 exact⟨rfl,rfl⟩
end Go.Proofs.YtcdimmblnbkjjaaGreatDoor.As
