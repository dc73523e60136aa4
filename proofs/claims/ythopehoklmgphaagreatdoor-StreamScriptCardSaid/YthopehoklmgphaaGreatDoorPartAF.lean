/- Lemmas. -/
import Derived.Test.YthopehoklmgphaaGreatDoorProg
import Derived.WalkKit
import Derived.Stop.Asserts
import Derived.RowKitTokens
set_option linter.all false
set_option maxHeartbeats 4000000
set_option maxRecDepth 100000
open Go.Proofs.Tryz
open Go renaming World.cell?_alloc_lt->qa,World.frozen?_alloc_old->qd,World->qf,Value->qh,Addr->qi,Calls->qj
open Option renaming some->qb,none->qe
open Go.Proofs.Tryz renaming prog->qc
open Array renaming getElem?_eq_none->qg
namespace Go.Proofs.YthopehoklmgphaaGreatDoor
namespace As
open Go Go.RowKit Go.Extern.Stop Go.Stop Go.Extern
theorem as_nil(t:qh)(w:qf):qj qc 35 #[.nilIface,t] w fun e w'=>e=.returned (.bool false)/\w'=w:=by go_enter func35,ntmps35;go_wp2;go_ret;exact⟨rfl,rfl⟩
theorem q5G(t:qi)(w:qf):(ReflectliteValue.unpack (.iface 78 (.pointer (qb t)))).run qc w
  = .ok (.agg #[.pointer (qb ⟨9,78,qe⟩),.pointer (qb ⟨w.heap.size,0,qe⟩),.int .u64 150]) (w.alloc (.cells #[.pointer (qb t)] 78)):=by kernel_rfl
theorem qbh (a : Addr) (w : World) : (ReflectliteValue.methodAny (ReflectliteValue.valueError "reflectlite.Value.Type" 0) (fun t _ _ _ => ReflectliteType.toType t) #[.agg #[.pointer (some ⟨9, 78, none⟩), .pointer (some a), .int .u64 150]]).run Tryz.prog w
  = .ok (.iface 122 (.agg #[.pointer (qb ⟨9,78,qe⟩)])) w:=by kernel_rfl
theorem q4P (h : Value) (w : World) : (Go.method 489 122 (.agg #[h]) "Kind").run Tryz.prog w = .ok (364, h) w := by kernel_rfl
theorem qbt(w:qf):((ReflectliteType.abiMethod fun t=>(fun a:Nat=>Value.int IntKind.u8 (a:Int)) <$> Rtype.kind t) #[.pointer (qb ⟨9,78,qe⟩)]).run qc w=.ok (.int .u8 22) w:=by kernel_rfl
theorem qbu(w:qf):((ReflectliteType.abiMethod fun t=>(fun a:Nat=>Value.int IntKind.u8 (a:Int)) <$> Rtype.kind t) #[.pointer (qb ⟨9,76,qe⟩)]).run qc w=.ok (.int .u8 22) w:=by kernel_rfl
theorem qev(z:Sem qh)(f:TypeId->qi->Nat->Nat->Sem qh)(v:qh):ReflectliteValue.method z f #[v]=(do match <- ReflectliteValue.parts v with|none=>z|some (t,a,fl)=>f t a fl (fl%32)):=rfl
theorem q8P(a:qi)(w:qf):(ReflectliteValue.parts (.agg #[.pointer (qb ⟨9,78,qe⟩),.pointer (qb a),.int .u64 150])).run qc w=.ok (qb (78,a,150)) w:=by kernel_rfl
theorem q9d(a p:qi)(W:qf)(ha:W.cell? a=qb (.pointer (qb p))):
  (ReflectliteValue.method (ReflectliteValue.valueError "reflectlite.Value.IsNil" 0) ReflectliteValue.isNil #[.agg #[.pointer (some ⟨9, 78, none⟩), .pointer (some a), .int .u64 150]]).run Tryz.prog W = .ok (.bool false) W := by
 rw[qev];simp only[Sem.run_bind,q8P,Result.andThen];simp [ReflectliteValue.isNil,loadVar,isAgg,underlying,underlying78,ha,Result.andThen]
theorem q4Q (h : Value) (w : World) : (Go.method 489 122 (.agg #[h]) "Elem").run Tryz.prog w = .ok (377, .agg #[h]) w := by kernel_rfl
theorem q2r (h : Value) (w : World) : (Go.method 489 122 (.agg #[h]) "Implements").run Tryz.prog w = .ok (378, .agg #[h]) w := by kernel_rfl
theorem q1T (h : Value) (w : World) : (Go.method 489 122 (.agg #[h]) "AssignableTo").run Tryz.prog w = .ok (375, .agg #[h]) w := by kernel_rfl
theorem qbz(w:qf):(ReflectliteType.method ReflectliteType.elem #[.agg #[.pointer (qb ⟨9,78,qe⟩)]]).run qc w=.ok (.iface 122 (.agg #[.pointer (qb ⟨9,76,qe⟩)])) w:=by kernel_rfl
theorem q3u (w : World) : (ReflectliteType.relation "Implements" ReflectliteType.implements_ #[.agg #[.pointer (some ⟨9, 76, none⟩)], .iface 122 (.agg #[.pointer (some ⟨9, 73, none⟩)])]).run Tryz.prog w = .ok (.bool true) w := by kernel_rfl
theorem q6T(v:qh)(w:qf):(ReflectliteType.typeOf #[.iface 76 v]).run qc w=.ok (.iface 122 (.agg #[.pointer (qb ⟨9,76,qe⟩)])) w:=by kernel_rfl
theorem q3y (w : World) : (ReflectliteType.relation "AssignableTo" ReflectliteType.assignableTo #[.agg #[.pointer (some ⟨9, 76, none⟩)], .iface 122 (.agg #[.pointer (some ⟨9, 76, none⟩)])]).run Tryz.prog w = .ok (.bool true) w := by kernel_rfl
theorem q5H(e:qi)(w:qf):(ReflectliteValue.unpack (.iface 76 (.pointer (qb e)))).run qc w
  = .ok (.agg #[.pointer (qb ⟨9,76,qe⟩),.pointer (qb ⟨w.heap.size,0,qe⟩),.int .u64 150]) (w.alloc (.cells #[.pointer (qb e)] 76)):=by kernel_rfl
theorem qb2(w:qf):(Rtype.elem? 78).run qc w=.ok (qb 76) w:=by kernel_rfl
theorem qf4(p:qi)(w:qf):(ReflectliteValue.mk 76 p ReflectliteValue.flagAddr).run qc w=.ok (.agg #[.pointer (qb ⟨9,76,qe⟩),.pointer (qb p),.int .u64 406]) w:=by kernel_rfl
theorem q9D(a p:qi)(W:qf)(ha:W.cell? a=qb (.pointer (qb p))):
  (ReflectliteValue.method (ReflectliteValue.valueError "reflectlite.Value.Elem" 0) ReflectliteValue.elem #[.agg #[.pointer (some ⟨9, 78, none⟩), .pointer (some a), .int .u64 150]]).run Tryz.prog W
   = .ok (.agg #[.pointer (qb ⟨9,76,qe⟩),.pointer (qb p),.int .u64 406]) W:=by
 rw[qev];simp only[Sem.run_bind,q8P,Result.andThen];simp [ReflectliteValue.elem,loadVar,isAgg,underlying,underlying78,ha,Result.andThen,qb2,qf4]
theorem qeZ(v x:qh):ReflectliteValue.set #[v,x]=(do
  let (qb (dst,a,fl),qb (src,b,_)):=(<- ReflectliteValue.parts v,<- ReflectliteValue.parts x)
   | unsupported (.noEntry "extern/(internal/reflectlite.Value).Set.zeroValue")
  if fl / ReflectliteValue.flagAddr % 2 == 0 then unsupported (.noEntry "extern/(internal/reflectlite.Value).Set.unaddressable")
  let val <- loadVar src b
  if <- Rtype.directlyAssignable dst src then storeVar dst a val
  else if <- Rtype.implements dst src then
   if(<- Rtype.kind src)==20 then
    match val with
    | .nilIface => unsupported (.noEntry "extern/reflectlite: a nil value of one interface type handed on as a value of another")
    | _=>storeVar dst a val
   else storeVar dst a (.iface src val)
  else panicString ("reflectlite.Set: value of type " ++ (<- Rtype.spelt src) ++ " is not assignable to type " ++ (<- Rtype.spelt dst))
  pure (.tuple #[])):=rfl
theorem qav(a:qi)(w:qf):(ReflectliteValue.parts (.agg #[.pointer (qb ⟨9,76,qe⟩),.pointer (qb a),.int .u64 406])).run qc w=.ok (qb (76,a,406)) w:=by kernel_rfl
theorem qc7(a:qi)(w:qf):(ReflectliteValue.parts (.agg #[.pointer (qb ⟨9,76,qe⟩),.pointer (qb a),.int .u64 150])).run qc w=.ok (qb (76,a,150)) w:=by kernel_rfl
theorem qb6(w:qf):(Rtype.directlyAssignable 76 76).run qc w=.ok true w:=by kernel_rfl
theorem qdj(ta b e:qi)(old:qh)(W:qf)(hb:W.cell? b=qb (.pointer (qb e)))(ht:W.cell? ta=qb old)(hf:W.frozen? ta=false):(ReflectliteValue.set #[.agg #[.pointer (qb ⟨9,76,qe⟩),.pointer (qb ta),.int .u64 406],.agg #[.pointer (qb ⟨9,76,qe⟩),.pointer (qb b),.int .u64 150]]).run qc W
   = .ok (.tuple #[]) (W.setCell ta (.pointer (qb e))):=by
 rw[qeZ];simp only[Sem.run_bind,qav,qc7,Result.andThen];simp [ReflectliteValue.flagAddr,loadVar,isAgg,underlying,underlying76,hb,Result.andThen,qb6,storeVar,Value.cells,storeCells,Addr.add];rw[run_store qc W ta _ _ (by rfl)];simp [ht,hf]
theorem q8r(x e:qi)(w:qf)(h:w.cell? x=qb (.pointer (qb e))):qj qc 373 #[.pointer (qb x)] w fun ev w'=>ev=.returned (.iface 76 (.pointer (qb e)))/\w=w':=by go_enter func373,ntmps373;go_wp2;go_ret;exact⟨rfl,rfl⟩
theorem q6i(e:qi)(w:qf):qj qc 386 #[.pointer (qb e)] w fun ev w'=>ev=.returned (.iface 76 (.pointer (qb e)))/\w=w':=by go_enter func386,ntmps386;go_wp2;go_ret;exact⟨rfl,rfl⟩
theorem as_wrong(x e t:qi)(old:qh)(w:qf)(hg:w.cell? ⟨0,0,qe⟩=qb (.iface 122 (.agg #[.pointer (qb ⟨9,73,qe⟩)])))(ht0:w.cell? t=qb old)(hf0:w.frozen? t=false)(hx:w.cell? x=qb (.pointer (qb e))):qj qc 35 #[.iface 112 (.pointer (qb x)),.iface 78 (.pointer (qb t))] w fun ev w'=>ev=.returned (.bool true)/\w'=((((w.alloc (.cells #[.pointer (qb t)] 78)).alloc (.cells #[.pointer (qb ⟨9,78,qe⟩),.pointer (qb ⟨w.heap.size,0,qe⟩),.int .u64 150] 100)).alloc (.cells #[.pointer (qb ⟨9,78,qe⟩),.pointer (qb ⟨w.heap.size,0,qe⟩),.int .u64 150] 100)).alloc (.cells #[.pointer (qb e)] 76)).setCell t (.pointer (qb e)):=by
 have h6:=@run_callFunc_extern Tryz.prog 42 _ (fun args=>ReflectliteValue.unpack (args.getD 0 (.tuple #[]))) func42 (by kernel_rfl) (by kernel_rfl) (by kernel_rfl) (by kernel_rfl);have h7 := @run_callFunc_extern Tryz.prog 43 _ (ReflectliteValue.methodAny (ReflectliteValue.valueError "reflectlite.Value.Type" 0) (fun t _ _ _ => ReflectliteType.toType t)) func43 (by kernel_rfl) (by kernel_rfl) (by kernel_rfl) (by kernel_rfl);have h8 := @run_callFunc_extern Tryz.prog 44 _ (ReflectliteValue.method (ReflectliteValue.valueError "reflectlite.Value.IsNil" 0) ReflectliteValue.isNil) func44 (by kernel_rfl) (by kernel_rfl) (by kernel_rfl) (by kernel_rfl);have h27:=@run_callFunc_extern Tryz.prog 364 _ (ReflectliteType.abiMethod fun t=>do pure (.int .u8 (<- Rtype.kind t))) func364 (by kernel_rfl) (by kernel_rfl) (by kernel_rfl) (by kernel_rfl);have h37:=@run_callFunc_extern Tryz.prog 377 _ (ReflectliteType.method ReflectliteType.elem) func377 (by kernel_rfl) (by kernel_rfl) (by kernel_rfl) (by kernel_rfl);have h38 := @run_callFunc_extern Tryz.prog 378 _ (ReflectliteType.relation "Implements" ReflectliteType.implements_) func378 (by kernel_rfl) (by kernel_rfl) (by kernel_rfl) (by kernel_rfl);have h10:=@run_callFunc_extern Tryz.prog 56 _ ReflectliteType.typeOf func56 (by kernel_rfl) (by kernel_rfl) (by kernel_rfl) (by kernel_rfl);have h35 := @run_callFunc_extern Tryz.prog 375 _ (ReflectliteType.relation "AssignableTo" ReflectliteType.assignableTo) func375 (by kernel_rfl) (by kernel_rfl) (by kernel_rfl) (by kernel_rfl);have h11 := @run_callFunc_extern Tryz.prog 57 _ (ReflectliteValue.method (ReflectliteValue.valueError "reflectlite.Value.Elem" 0) ReflectliteValue.elem) func57 (by kernel_rfl) (by kernel_rfl) (by kernel_rfl) (by kernel_rfl);have h12:=@run_callFunc_extern Tryz.prog 58 _ ReflectliteValue.set func58 (by kernel_rfl) (by kernel_rfl) (by kernel_rfl) (by kernel_rfl);have tO:=q6T;have mA:=q1T;have a25:=q3y;have v25:=q5H;have f6:=q5G;have f7:=qbh;have mK:=q4P;have mE:=q4Q;have mI:=q2r;have k27:=qbt;have k25:=qbu;have e27:=qbz;have i25:=q3u;have n8:=q9d ⟨w.heap.size,0,none⟩ t ((w.alloc (.cells #[.pointer (some t)] 78)).alloc (.cells #[.pointer (some ⟨9,78,none⟩),.pointer (some ⟨w.heap.size,0,none⟩),.int .u64 150] 100)) (by simp);have hlt:0<w.heap.size:=by
  rcases Nat.eq_zero_or_pos w.heap.size with h0|h
  ·simp [World.cell?,h0] at hg
  ·exact h
 have hg2:((w.alloc (.cells #[.pointer (qb t)] 78)).alloc (.cells #[.pointer (qb ⟨9,78,qe⟩),.pointer (qb ⟨w.heap.size,0,qe⟩),.int .u64 150] 100)).cell? ⟨0,0,qe⟩=qb (.iface 122 (.agg #[.pointer (qb ⟨9,73,qe⟩)])):=by rw[qa _ _ ⟨0,0,qe⟩ (by simp),qa _ _ ⟨0,0,qe⟩ hlt];exact hg
 have htl:t.block<w.heap.size:=by
  rcases Nat.lt_or_ge t.block w.heap.size with h|h
  ·exact h
  ·simp [World.cell?,qg h] at ht0
 have el:=q9D ⟨w.heap.size,0,qe⟩ t (((w.alloc (.cells #[.pointer (qb t)] 78)).alloc (.cells #[.pointer (qb ⟨9,78,qe⟩),.pointer (qb ⟨w.heap.size,0,qe⟩),.int .u64 150] 100)).alloc (.cells #[.pointer (qb ⟨9,78,qe⟩),.pointer (qb ⟨w.heap.size,0,qe⟩),.int .u64 150] 100)) (by rw[qa _ _ ⟨w.heap.size,0,qe⟩ (by simp;omega)];simp);have st:=qdj t ⟨w.heap.size+1+1+1,0,qe⟩ e old ((((w.alloc (.cells #[.pointer (qb t)] 78)).alloc (.cells #[.pointer (qb ⟨9,78,qe⟩),.pointer (qb ⟨w.heap.size,0,qe⟩),.int .u64 150] 100)).alloc (.cells #[.pointer (qb ⟨9,78,qe⟩),.pointer (qb ⟨w.heap.size,0,qe⟩),.int .u64 150] 100)).alloc (.cells #[.pointer (qb e)] 76))
  (by rw[World.cell?_alloc_at _ _ _ _ (by simp)];rfl)
  (by rw[qa _ _ t (by simp;omega),qa _ _ t (by simp;omega),qa _ _ t (by simp;omega),qa _ _ t htl];exact ht0)
  (by rw[qd _ _ t (by simp;omega),qd _ _ t (by simp;omega),qd _ _ t (by simp;omega),qd _ _ t (Nat.ne_of_lt htl)];exact hf0)
 have tX:∀(v:qh) (w:qf),(ReflectliteType.typeOf #[.iface 112 v]).run qc w=.ok (.iface 122 (.agg #[.pointer (qb ⟨9,112,qe⟩)])) w:=fun v w=>by kernel_rfl
 have aX : ∀ (w : World), (ReflectliteType.relation "AssignableTo" ReflectliteType.assignableTo #[.agg #[.pointer (some ⟨9, 112, none⟩)], .iface 122 (.agg #[.pointer (some ⟨9, 76, none⟩)])]).run Tryz.prog w = .ok (.bool false) w := fun w => by kernel_rfl
 have nA:∀(v:qh) (w:qf),(Instr.typeAssert (.iface 112 v) 73 127 true).run qc w=.ok (.tuple #[.nilIface,.bool false]) w:=fun v w=>run_typeAssert_lacksB underlying127 (by kernel_rfl) (by kernel_rfl) v _ w
 have hUn:∀(v:qh) (w:qf),(Instr.typeAssert (.iface 112 v) 73 130 true).run qc w=.ok (.tuple #[.iface 112 v,.bool true]) w:=fun v w=>run_typeAssert_hasB underlying130 (by kernel_rfl) v _ w
 have mU : ∀ (v : Value) (w : World), (Go.method 489 112 v "Unwrap").run Tryz.prog w = .ok (373, v) w := fun v w => by kernel_rfl
 have hxl:x.block<w.heap.size:=by
  rcases Nat.lt_or_ge x.block w.heap.size with h|h
  ·exact h
  ·simp [World.cell?,qg h] at hx
 have HU:=fun(w':qf) h=>q8r x e w' h
 go_enter func35,ntmps35;go_wp2;refine wp_loop_rounds 2 ?_;rw[rounds_succ];go_wp2_with fail;refine(HU _ ?_).mono ?_
 ·rw[qa _ _ x (by simp;omega),qa _ _ x (by simp;omega),qa _ _ x hxl];exact hx
 rintro ev w1 ⟨rfl,rfl⟩;go_wp2_with fail;rw[rounds_succ];go_wp2;go_ret;exact⟨rfl,rfl⟩
theorem as_refused(e t:qi)(old:qh)(w:qf)(hg:w.cell? ⟨0,0,qe⟩=qb (.iface 122 (.agg #[.pointer (qb ⟨9,73,qe⟩)])))(ht0:w.cell? t=qb old)(hf0:w.frozen? t=false):qj qc 35 #[.iface 141 (.pointer (qb e)),.iface 78 (.pointer (qb t))] w fun ev w'=>ev=.returned (.bool true)/\w'=((((w.alloc (.cells #[.pointer (qb t)] 78)).alloc (.cells #[.pointer (qb ⟨9,78,qe⟩),.pointer (qb ⟨w.heap.size,0,qe⟩),.int .u64 150] 100)).alloc (.cells #[.pointer (qb ⟨9,78,qe⟩),.pointer (qb ⟨w.heap.size,0,qe⟩),.int .u64 150] 100)).alloc (.cells #[.pointer (qb e)] 76)).setCell t (.pointer (qb e)):=by
 have h6:=@run_callFunc_extern Tryz.prog 42 _ (fun args=>ReflectliteValue.unpack (args.getD 0 (.tuple #[]))) func42 (by kernel_rfl) (by kernel_rfl) (by kernel_rfl) (by kernel_rfl);have h7 := @run_callFunc_extern Tryz.prog 43 _ (ReflectliteValue.methodAny (ReflectliteValue.valueError "reflectlite.Value.Type" 0) (fun t _ _ _ => ReflectliteType.toType t)) func43 (by kernel_rfl) (by kernel_rfl) (by kernel_rfl) (by kernel_rfl);have h8 := @run_callFunc_extern Tryz.prog 44 _ (ReflectliteValue.method (ReflectliteValue.valueError "reflectlite.Value.IsNil" 0) ReflectliteValue.isNil) func44 (by kernel_rfl) (by kernel_rfl) (by kernel_rfl) (by kernel_rfl);have h27:=@run_callFunc_extern Tryz.prog 364 _ (ReflectliteType.abiMethod fun t=>do pure (.int .u8 (<- Rtype.kind t))) func364 (by kernel_rfl) (by kernel_rfl) (by kernel_rfl) (by kernel_rfl);have h37:=@run_callFunc_extern Tryz.prog 377 _ (ReflectliteType.method ReflectliteType.elem) func377 (by kernel_rfl) (by kernel_rfl) (by kernel_rfl) (by kernel_rfl);have h38 := @run_callFunc_extern Tryz.prog 378 _ (ReflectliteType.relation "Implements" ReflectliteType.implements_) func378 (by kernel_rfl) (by kernel_rfl) (by kernel_rfl) (by kernel_rfl);have h10:=@run_callFunc_extern Tryz.prog 56 _ ReflectliteType.typeOf func56 (by kernel_rfl) (by kernel_rfl) (by kernel_rfl) (by kernel_rfl);have h35 := @run_callFunc_extern Tryz.prog 375 _ (ReflectliteType.relation "AssignableTo" ReflectliteType.assignableTo) func375 (by kernel_rfl) (by kernel_rfl) (by kernel_rfl) (by kernel_rfl);have h11 := @run_callFunc_extern Tryz.prog 57 _ (ReflectliteValue.method (ReflectliteValue.valueError "reflectlite.Value.Elem" 0) ReflectliteValue.elem) func57 (by kernel_rfl) (by kernel_rfl) (by kernel_rfl) (by kernel_rfl);have h12:=@run_callFunc_extern Tryz.prog 58 _ ReflectliteValue.set func58 (by kernel_rfl) (by kernel_rfl) (by kernel_rfl) (by kernel_rfl);have tO:=q6T;have mA:=q1T;have a25:=q3y;have v25:=q5H;have f6:=q5G;have f7:=qbh;have mK:=q4P;have mE:=q4Q;have mI:=q2r;have k27:=qbt;have k25:=qbu;have e27:=qbz;have i25:=q3u;have n8:=q9d ⟨w.heap.size,0,none⟩ t ((w.alloc (.cells #[.pointer (some t)] 78)).alloc (.cells #[.pointer (some ⟨9,78,none⟩),.pointer (some ⟨w.heap.size,0,none⟩),.int .u64 150] 100)) (by simp);have hlt:0<w.heap.size:=by
  rcases Nat.eq_zero_or_pos w.heap.size with h0|h
  ·simp [World.cell?,h0] at hg
  ·exact h
 have hg2:((w.alloc (.cells #[.pointer (qb t)] 78)).alloc (.cells #[.pointer (qb ⟨9,78,qe⟩),.pointer (qb ⟨w.heap.size,0,qe⟩),.int .u64 150] 100)).cell? ⟨0,0,qe⟩=qb (.iface 122 (.agg #[.pointer (qb ⟨9,73,qe⟩)])):=by rw[qa _ _ ⟨0,0,qe⟩ (by simp),qa _ _ ⟨0,0,qe⟩ hlt];exact hg
 have htl:t.block<w.heap.size:=by
  rcases Nat.lt_or_ge t.block w.heap.size with h|h
  ·exact h
  ·simp [World.cell?,qg h] at ht0
 have el:=q9D ⟨w.heap.size,0,qe⟩ t (((w.alloc (.cells #[.pointer (qb t)] 78)).alloc (.cells #[.pointer (qb ⟨9,78,qe⟩),.pointer (qb ⟨w.heap.size,0,qe⟩),.int .u64 150] 100)).alloc (.cells #[.pointer (qb ⟨9,78,qe⟩),.pointer (qb ⟨w.heap.size,0,qe⟩),.int .u64 150] 100)) (by rw[qa _ _ ⟨w.heap.size,0,qe⟩ (by simp;omega)];simp);have st:=qdj t ⟨w.heap.size+1+1+1,0,qe⟩ e old ((((w.alloc (.cells #[.pointer (qb t)] 78)).alloc (.cells #[.pointer (qb ⟨9,78,qe⟩),.pointer (qb ⟨w.heap.size,0,qe⟩),.int .u64 150] 100)).alloc (.cells #[.pointer (qb ⟨9,78,qe⟩),.pointer (qb ⟨w.heap.size,0,qe⟩),.int .u64 150] 100)).alloc (.cells #[.pointer (qb e)] 76))
  (by rw[World.cell?_alloc_at _ _ _ _ (by simp)];rfl)
  (by rw[qa _ _ t (by simp;omega),qa _ _ t (by simp;omega),qa _ _ t (by simp;omega),qa _ _ t htl];exact ht0)
  (by rw[qd _ _ t (by simp;omega),qd _ _ t (by simp;omega),qd _ _ t (by simp;omega),qd _ _ t (Nat.ne_of_lt htl)];exact hf0)
 have tX:∀(v:qh) (w:qf),(ReflectliteType.typeOf #[.iface 141 v]).run qc w=.ok (.iface 122 (.agg #[.pointer (qb ⟨9,141,qe⟩)])) w:=fun v w=>by kernel_rfl
 have aX : ∀ (w : World), (ReflectliteType.relation "AssignableTo" ReflectliteType.assignableTo #[.agg #[.pointer (some ⟨9, 141, none⟩)], .iface 122 (.agg #[.pointer (some ⟨9, 76, none⟩)])]).run Tryz.prog w = .ok (.bool false) w := fun w => by kernel_rfl
 have nA:∀(v:qh) (w:qf),(Instr.typeAssert (.iface 141 v) 73 127 true).run qc w=.ok (.tuple #[.nilIface,.bool false]) w:=fun v w=>run_typeAssert_lacksB underlying127 (by kernel_rfl) (by kernel_rfl) v _ w
 have hUn:∀(v:qh) (w:qf),(Instr.typeAssert (.iface 141 v) 73 130 true).run qc w=.ok (.tuple #[.iface 141 v,.bool true]) w:=fun v w=>run_typeAssert_hasB underlying130 (by kernel_rfl) v _ w
 have mU : ∀ (v : Value) (w : World), (Go.method 489 141 v "Unwrap").run Tryz.prog w = .ok (386, v) w := fun v w => by kernel_rfl
 have HU:=fun(w':qf) (_:True)=>q6i e w'
 go_enter func35,ntmps35;go_wp2;refine wp_loop_rounds 2 ?_;rw[rounds_succ];go_wp2_with fail;refine(HU _ trivial).mono ?_;rintro ev w1 ⟨rfl,rfl⟩;go_wp2_with fail;rw[rounds_succ];go_wp2;go_ret;exact⟨rfl,rfl⟩
end As
end Go.Proofs.YthopehoklmgphaaGreatDoor
