/- Lemmas. -/
import Derived.Test.YtokgagenofjmgaaGreatDoorProg
import Derived.WalkKit
import Derived.Stop.Asserts
import Derived.RowKitTokens
set_option linter.all false
set_option maxHeartbeats 4000000
set_option maxRecDepth 100000
open Go.Proofs.Tryz
open Go renaming World.cell?_alloc_lt->qa,World.frozen?_alloc_old->qd,World->qf,Value->qh,Addr->qi,Calls->qj
open Option renaming some->qb,none->qe
open Go.Proofs.Tryz renaming prog->qc
open Array renaming getElem?_eq_none->qg
namespace Go.Proofs.YtokgagenofjmgaaGreatDoor
namespace As
open Go Go.RowKit Go.Extern.Stop Go.Stop Go.Extern
theorem as_nil(t:qh)(w:qf):qj qc 30 #[.nilIface,t] w fun e w'=>e=.returned (.bool false)/\w'=w:=by go_enter func30,ntmps30;go_wp2;go_ret;exact⟨rfl,rfl⟩
theorem q5M(t:qi)(w:qf):(ReflectliteValue.unpack (.iface 68 (.pointer (qb t)))).run qc w
  = .ok (.agg #[.pointer (qb ⟨9,68,qe⟩),.pointer (qb ⟨w.heap.size,0,qe⟩),.int .u64 150]) (w.alloc (.cells #[.pointer (qb t)] 68)):=by kernel_rfl
theorem qbr (a : Addr) (w : World) : (ReflectliteValue.methodAny (ReflectliteValue.valueError "reflectlite.Value.Type" 0) (fun t _ _ _ => ReflectliteType.toType t) #[.agg #[.pointer (some ⟨9, 68, none⟩), .pointer (some a), .int .u64 150]]).run Tryz.prog w
  = .ok (.iface 112 (.agg #[.pointer (qb ⟨9,68,qe⟩)])) w:=by kernel_rfl
theorem q4Y (h : Value) (w : World) : (Go.method 479 112 (.agg #[h]) "Kind").run Tryz.prog w = .ok (359, h) w := by kernel_rfl
theorem qbD(w:qf):((ReflectliteType.abiMethod fun t=>(fun a:Nat=>Value.int IntKind.u8 (a:Int)) <$> Rtype.kind t) #[.pointer (qb ⟨9,68,qe⟩)]).run qc w=.ok (.int .u8 22) w:=by kernel_rfl
theorem qbE(w:qf):((ReflectliteType.abiMethod fun t=>(fun a:Nat=>Value.int IntKind.u8 (a:Int)) <$> Rtype.kind t) #[.pointer (qb ⟨9,66,qe⟩)]).run qc w=.ok (.int .u8 22) w:=by kernel_rfl
theorem qeM(z:Sem qh)(f:TypeId->qi->Nat->Nat->Sem qh)(v:qh):ReflectliteValue.method z f #[v]=(do match <- ReflectliteValue.parts v with|none=>z|some (t,a,fl)=>f t a fl (fl%32)):=rfl
theorem q8U(a:qi)(w:qf):(ReflectliteValue.parts (.agg #[.pointer (qb ⟨9,68,qe⟩),.pointer (qb a),.int .u64 150])).run qc w=.ok (qb (68,a,150)) w:=by kernel_rfl
theorem q9j(a p:qi)(W:qf)(ha:W.cell? a=qb (.pointer (qb p))):
  (ReflectliteValue.method (ReflectliteValue.valueError "reflectlite.Value.IsNil" 0) ReflectliteValue.isNil #[.agg #[.pointer (some ⟨9, 68, none⟩), .pointer (some a), .int .u64 150]]).run Tryz.prog W = .ok (.bool false) W := by
 rw[qeM];simp only[Sem.run_bind,q8U,Result.andThen];simp [ReflectliteValue.isNil,loadVar,isAgg,underlying,underlying68,ha,Result.andThen]
theorem q4Z (h : Value) (w : World) : (Go.method 479 112 (.agg #[h]) "Elem").run Tryz.prog w = .ok (372, .agg #[h]) w := by kernel_rfl
theorem q2D (h : Value) (w : World) : (Go.method 479 112 (.agg #[h]) "Implements").run Tryz.prog w = .ok (373, .agg #[h]) w := by kernel_rfl
theorem q23 (h : Value) (w : World) : (Go.method 479 112 (.agg #[h]) "AssignableTo").run Tryz.prog w = .ok (370, .agg #[h]) w := by kernel_rfl
theorem qbJ(w:qf):(ReflectliteType.method ReflectliteType.elem #[.agg #[.pointer (qb ⟨9,68,qe⟩)]]).run qc w=.ok (.iface 112 (.agg #[.pointer (qb ⟨9,66,qe⟩)])) w:=by kernel_rfl
theorem q3I (w : World) : (ReflectliteType.relation "Implements" ReflectliteType.implements_ #[.agg #[.pointer (some ⟨9, 66, none⟩)], .iface 112 (.agg #[.pointer (some ⟨9, 63, none⟩)])]).run Tryz.prog w = .ok (.bool true) w := by kernel_rfl
theorem q6Y(v:qh)(w:qf):(ReflectliteType.typeOf #[.iface 66 v]).run qc w=.ok (.iface 112 (.agg #[.pointer (qb ⟨9,66,qe⟩)])) w:=by kernel_rfl
theorem q3M (w : World) : (ReflectliteType.relation "AssignableTo" ReflectliteType.assignableTo #[.agg #[.pointer (some ⟨9, 66, none⟩)], .iface 112 (.agg #[.pointer (some ⟨9, 66, none⟩)])]).run Tryz.prog w = .ok (.bool true) w := by kernel_rfl
theorem q5N(e:qi)(w:qf):(ReflectliteValue.unpack (.iface 66 (.pointer (qb e)))).run qc w
  = .ok (.agg #[.pointer (qb ⟨9,66,qe⟩),.pointer (qb ⟨w.heap.size,0,qe⟩),.int .u64 150]) (w.alloc (.cells #[.pointer (qb e)] 66)):=by kernel_rfl
theorem qb8(w:qf):(Rtype.elem? 68).run qc w=.ok (qb 66) w:=by kernel_rfl
theorem qfp(p:qi)(w:qf):(ReflectliteValue.mk 66 p ReflectliteValue.flagAddr).run qc w=.ok (.agg #[.pointer (qb ⟨9,66,qe⟩),.pointer (qb p),.int .u64 406]) w:=by kernel_rfl
theorem q9J(a p:qi)(W:qf)(ha:W.cell? a=qb (.pointer (qb p))):
  (ReflectliteValue.method (ReflectliteValue.valueError "reflectlite.Value.Elem" 0) ReflectliteValue.elem #[.agg #[.pointer (some ⟨9, 68, none⟩), .pointer (some a), .int .u64 150]]).run Tryz.prog W
   = .ok (.agg #[.pointer (qb ⟨9,66,qe⟩),.pointer (qb p),.int .u64 406]) W:=by
 rw[qeM];simp only[Sem.run_bind,q8U,Result.andThen];simp [ReflectliteValue.elem,loadVar,isAgg,underlying,underlying68,ha,Result.andThen,qb8,qfp]
theorem qfk(v x:qh):ReflectliteValue.set #[v,x]=(do
  let (qb (dst,a,fl),qb (src,b,_)):=(<- ReflectliteValue.parts v,<- ReflectliteValue.parts x)
   | unsupported (.noEntry "extern/(internal/reflectlite.Value).Set.zeroValue")
  if fl / ReflectliteValue.flagAddr % 2 == 0 then unsupported (.noEntry "extern/(internal/reflectlite.Value).Set.unaddressable")
  let val <- loadVar src b
  if <- Rtype.directlyAssignable dst src then storeVar dst a val
  else if <- Rtype.implements dst src then
   if(<- Rtype.kind src)==20 then
    match val with
    | .nilIface => unsupported (.noEntry "extern/reflectlite: a nil value of one interface type handed on as a value of another")
    | _=>storeVar dst a val
   else storeVar dst a (.iface src val)
  else panicString ("reflectlite.Set: value of type " ++ (<- Rtype.spelt src) ++ " is not assignable to type " ++ (<- Rtype.spelt dst))
  pure (.tuple #[])):=rfl
theorem qaC(a:qi)(w:qf):(ReflectliteValue.parts (.agg #[.pointer (qb ⟨9,66,qe⟩),.pointer (qb a),.int .u64 406])).run qc w=.ok (qb (66,a,406)) w:=by kernel_rfl
theorem qch(a:qi)(w:qf):(ReflectliteValue.parts (.agg #[.pointer (qb ⟨9,66,qe⟩),.pointer (qb a),.int .u64 150])).run qc w=.ok (qb (66,a,150)) w:=by kernel_rfl
theorem qbb(w:qf):(Rtype.directlyAssignable 66 66).run qc w=.ok true w:=by kernel_rfl
theorem qdw(ta b e:qi)(old:qh)(W:qf)(hb:W.cell? b=qb (.pointer (qb e)))(ht:W.cell? ta=qb old)(hf:W.frozen? ta=false):(ReflectliteValue.set #[.agg #[.pointer (qb ⟨9,66,qe⟩),.pointer (qb ta),.int .u64 406],.agg #[.pointer (qb ⟨9,66,qe⟩),.pointer (qb b),.int .u64 150]]).run qc W
   = .ok (.tuple #[]) (W.setCell ta (.pointer (qb e))):=by
 rw[qfk];simp only[Sem.run_bind,qaC,qch,Result.andThen];simp [ReflectliteValue.flagAddr,loadVar,isAgg,underlying,underlying66,hb,Result.andThen,qbb,storeVar,Value.cells,storeCells,Addr.add];rw[run_store qc W ta _ _ (by rfl)];simp [ht,hf]
theorem q8u(x e:qi)(w:qf)(h:w.cell? x=qb (.pointer (qb e))):qj qc 368 #[.pointer (qb x)] w fun ev w'=>ev=.returned (.iface 66 (.pointer (qb e)))/\w=w':=by go_enter func368,ntmps368;go_wp2;go_ret;exact⟨rfl,rfl⟩
theorem q6p(e:qi)(w:qf):qj qc 381 #[.pointer (qb e)] w fun ev w'=>ev=.returned (.iface 66 (.pointer (qb e)))/\w=w':=by go_enter func381,ntmps381;go_wp2;go_ret;exact⟨rfl,rfl⟩
theorem as_wrong(x e t:qi)(old:qh)(w:qf)(hg:w.cell? ⟨0,0,qe⟩=qb (.iface 112 (.agg #[.pointer (qb ⟨9,63,qe⟩)])))(ht0:w.cell? t=qb old)(hf0:w.frozen? t=false)(hx:w.cell? x=qb (.pointer (qb e))):qj qc 30 #[.iface 102 (.pointer (qb x)),.iface 68 (.pointer (qb t))] w fun ev w'=>ev=.returned (.bool true)/\w'=((((w.alloc (.cells #[.pointer (qb t)] 68)).alloc (.cells #[.pointer (qb ⟨9,68,qe⟩),.pointer (qb ⟨w.heap.size,0,qe⟩),.int .u64 150] 90)).alloc (.cells #[.pointer (qb ⟨9,68,qe⟩),.pointer (qb ⟨w.heap.size,0,qe⟩),.int .u64 150] 90)).alloc (.cells #[.pointer (qb e)] 66)).setCell t (.pointer (qb e)):=by
 have h6:=@run_callFunc_extern Tryz.prog 37 _ (fun args=>ReflectliteValue.unpack (args.getD 0 (.tuple #[]))) func37 (by kernel_rfl) (by kernel_rfl) (by kernel_rfl) (by kernel_rfl);have h7 := @run_callFunc_extern Tryz.prog 38 _ (ReflectliteValue.methodAny (ReflectliteValue.valueError "reflectlite.Value.Type" 0) (fun t _ _ _ => ReflectliteType.toType t)) func38 (by kernel_rfl) (by kernel_rfl) (by kernel_rfl) (by kernel_rfl);have h8 := @run_callFunc_extern Tryz.prog 39 _ (ReflectliteValue.method (ReflectliteValue.valueError "reflectlite.Value.IsNil" 0) ReflectliteValue.isNil) func39 (by kernel_rfl) (by kernel_rfl) (by kernel_rfl) (by kernel_rfl);have h27:=@run_callFunc_extern Tryz.prog 359 _ (ReflectliteType.abiMethod fun t=>do pure (.int .u8 (<- Rtype.kind t))) func359 (by kernel_rfl) (by kernel_rfl) (by kernel_rfl) (by kernel_rfl);have h37:=@run_callFunc_extern Tryz.prog 372 _ (ReflectliteType.method ReflectliteType.elem) func372 (by kernel_rfl) (by kernel_rfl) (by kernel_rfl) (by kernel_rfl);have h38 := @run_callFunc_extern Tryz.prog 373 _ (ReflectliteType.relation "Implements" ReflectliteType.implements_) func373 (by kernel_rfl) (by kernel_rfl) (by kernel_rfl) (by kernel_rfl);have h10:=@run_callFunc_extern Tryz.prog 51 _ ReflectliteType.typeOf func51 (by kernel_rfl) (by kernel_rfl) (by kernel_rfl) (by kernel_rfl);have h35 := @run_callFunc_extern Tryz.prog 370 _ (ReflectliteType.relation "AssignableTo" ReflectliteType.assignableTo) func370 (by kernel_rfl) (by kernel_rfl) (by kernel_rfl) (by kernel_rfl);have h11 := @run_callFunc_extern Tryz.prog 52 _ (ReflectliteValue.method (ReflectliteValue.valueError "reflectlite.Value.Elem" 0) ReflectliteValue.elem) func52 (by kernel_rfl) (by kernel_rfl) (by kernel_rfl) (by kernel_rfl);have h12:=@run_callFunc_extern Tryz.prog 53 _ ReflectliteValue.set func53 (by kernel_rfl) (by kernel_rfl) (by kernel_rfl) (by kernel_rfl);have tO:=q6Y;have mA:=q23;have a25:=q3M;have v25:=q5N;have f6:=q5M;have f7:=qbr;have mK:=q4Y;have mE:=q4Z;have mI:=q2D;have k27:=qbD;have k25:=qbE;have e27:=qbJ;have i25:=q3I;have n8:=q9j ⟨w.heap.size,0,none⟩ t ((w.alloc (.cells #[.pointer (some t)] 68)).alloc (.cells #[.pointer (some ⟨9,68,none⟩),.pointer (some ⟨w.heap.size,0,none⟩),.int .u64 150] 90)) (by simp);have hlt:0<w.heap.size:=by
  rcases Nat.eq_zero_or_pos w.heap.size with h0|h
  ·simp [World.cell?,h0] at hg
  ·exact h
 have hg2:((w.alloc (.cells #[.pointer (qb t)] 68)).alloc (.cells #[.pointer (qb ⟨9,68,qe⟩),.pointer (qb ⟨w.heap.size,0,qe⟩),.int .u64 150] 90)).cell? ⟨0,0,qe⟩=qb (.iface 112 (.agg #[.pointer (qb ⟨9,63,qe⟩)])):=by rw[qa _ _ ⟨0,0,qe⟩ (by simp),qa _ _ ⟨0,0,qe⟩ hlt];exact hg
 have htl:t.block<w.heap.size:=by
  rcases Nat.lt_or_ge t.block w.heap.size with h|h
  ·exact h
  ·simp [World.cell?,qg h] at ht0
 have el:=q9J ⟨w.heap.size,0,qe⟩ t (((w.alloc (.cells #[.pointer (qb t)] 68)).alloc (.cells #[.pointer (qb ⟨9,68,qe⟩),.pointer (qb ⟨w.heap.size,0,qe⟩),.int .u64 150] 90)).alloc (.cells #[.pointer (qb ⟨9,68,qe⟩),.pointer (qb ⟨w.heap.size,0,qe⟩),.int .u64 150] 90)) (by rw[qa _ _ ⟨w.heap.size,0,qe⟩ (by simp;omega)];simp);have st:=qdw t ⟨w.heap.size+1+1+1,0,qe⟩ e old ((((w.alloc (.cells #[.pointer (qb t)] 68)).alloc (.cells #[.pointer (qb ⟨9,68,qe⟩),.pointer (qb ⟨w.heap.size,0,qe⟩),.int .u64 150] 90)).alloc (.cells #[.pointer (qb ⟨9,68,qe⟩),.pointer (qb ⟨w.heap.size,0,qe⟩),.int .u64 150] 90)).alloc (.cells #[.pointer (qb e)] 66))
  (by rw[World.cell?_alloc_at _ _ _ _ (by simp)];rfl)
  (by rw[qa _ _ t (by simp;omega),qa _ _ t (by simp;omega),qa _ _ t (by simp;omega),qa _ _ t htl];exact ht0)
  (by rw[qd _ _ t (by simp;omega),qd _ _ t (by simp;omega),qd _ _ t (by simp;omega),qd _ _ t (Nat.ne_of_lt htl)];exact hf0)
 have tX:∀(v:qh) (w:qf),(ReflectliteType.typeOf #[.iface 102 v]).run qc w=.ok (.iface 112 (.agg #[.pointer (qb ⟨9,102,qe⟩)])) w:=fun v w=>by kernel_rfl
 have aX : ∀ (w : World), (ReflectliteType.relation "AssignableTo" ReflectliteType.assignableTo #[.agg #[.pointer (some ⟨9, 102, none⟩)], .iface 112 (.agg #[.pointer (some ⟨9, 66, none⟩)])]).run Tryz.prog w = .ok (.bool false) w := fun w => by kernel_rfl
 have nA:∀(v:qh) (w:qf),(Instr.typeAssert (.iface 102 v) 63 117 true).run qc w=.ok (.tuple #[.nilIface,.bool false]) w:=fun v w=>run_typeAssert_lacksB underlying117 (by kernel_rfl) (by kernel_rfl) v _ w
 have hUn:∀(v:qh) (w:qf),(Instr.typeAssert (.iface 102 v) 63 120 true).run qc w=.ok (.tuple #[.iface 102 v,.bool true]) w:=fun v w=>run_typeAssert_hasB underlying120 (by kernel_rfl) v _ w
 have mU : ∀ (v : Value) (w : World), (Go.method 479 102 v "Unwrap").run Tryz.prog w = .ok (368, v) w := fun v w => by kernel_rfl
 have hxl:x.block<w.heap.size:=by
  rcases Nat.lt_or_ge x.block w.heap.size with h|h
  ·exact h
  ·simp [World.cell?,qg h] at hx
 have HU:=fun(w':qf) h=>q8u x e w' h
 go_enter func30,ntmps30;go_wp2;refine wp_loop_rounds 2 ?_;rw[rounds_succ];go_wp2_with fail;refine(HU _ ?_).mono ?_
 ·rw[qa _ _ x (by simp;omega),qa _ _ x (by simp;omega),qa _ _ x hxl];exact hx
 rintro ev w1 ⟨rfl,rfl⟩;go_wp2_with fail;rw[rounds_succ];go_wp2;go_ret;exact⟨rfl,rfl⟩
theorem as_refused(e t:qi)(old:qh)(w:qf)(hg:w.cell? ⟨0,0,qe⟩=qb (.iface 112 (.agg #[.pointer (qb ⟨9,63,qe⟩)])))(ht0:w.cell? t=qb old)(hf0:w.frozen? t=false):qj qc 30 #[.iface 131 (.pointer (qb e)),.iface 68 (.pointer (qb t))] w fun ev w'=>ev=.returned (.bool true)/\w'=((((w.alloc (.cells #[.pointer (qb t)] 68)).alloc (.cells #[.pointer (qb ⟨9,68,qe⟩),.pointer (qb ⟨w.heap.size,0,qe⟩),.int .u64 150] 90)).alloc (.cells #[.pointer (qb ⟨9,68,qe⟩),.pointer (qb ⟨w.heap.size,0,qe⟩),.int .u64 150] 90)).alloc (.cells #[.pointer (qb e)] 66)).setCell t (.pointer (qb e)):=by
 have h6:=@run_callFunc_extern Tryz.prog 37 _ (fun args=>ReflectliteValue.unpack (args.getD 0 (.tuple #[]))) func37 (by kernel_rfl) (by kernel_rfl) (by kernel_rfl) (by kernel_rfl);have h7 := @run_callFunc_extern Tryz.prog 38 _ (ReflectliteValue.methodAny (ReflectliteValue.valueError "reflectlite.Value.Type" 0) (fun t _ _ _ => ReflectliteType.toType t)) func38 (by kernel_rfl) (by kernel_rfl) (by kernel_rfl) (by kernel_rfl);have h8 := @run_callFunc_extern Tryz.prog 39 _ (ReflectliteValue.method (ReflectliteValue.valueError "reflectlite.Value.IsNil" 0) ReflectliteValue.isNil) func39 (by kernel_rfl) (by kernel_rfl) (by kernel_rfl) (by kernel_rfl);have h27:=@run_callFunc_extern Tryz.prog 359 _ (ReflectliteType.abiMethod fun t=>do pure (.int .u8 (<- Rtype.kind t))) func359 (by kernel_rfl) (by kernel_rfl) (by kernel_rfl) (by kernel_rfl);have h37:=@run_callFunc_extern Tryz.prog 372 _ (ReflectliteType.method ReflectliteType.elem) func372 (by kernel_rfl) (by kernel_rfl) (by kernel_rfl) (by kernel_rfl);have h38 := @run_callFunc_extern Tryz.prog 373 _ (ReflectliteType.relation "Implements" ReflectliteType.implements_) func373 (by kernel_rfl) (by kernel_rfl) (by kernel_rfl) (by kernel_rfl);have h10:=@run_callFunc_extern Tryz.prog 51 _ ReflectliteType.typeOf func51 (by kernel_rfl) (by kernel_rfl) (by kernel_rfl) (by kernel_rfl);have h35 := @run_callFunc_extern Tryz.prog 370 _ (ReflectliteType.relation "AssignableTo" ReflectliteType.assignableTo) func370 (by kernel_rfl) (by kernel_rfl) (by kernel_rfl) (by kernel_rfl);have h11 := @run_callFunc_extern Tryz.prog 52 _ (ReflectliteValue.method (ReflectliteValue.valueError "reflectlite.Value.Elem" 0) ReflectliteValue.elem) func52 (by kernel_rfl) (by kernel_rfl) (by kernel_rfl) (by kernel_rfl);have h12:=@run_callFunc_extern Tryz.prog 53 _ ReflectliteValue.set func53 (by kernel_rfl) (by kernel_rfl) (by kernel_rfl) (by kernel_rfl);have tO:=q6Y;have mA:=q23;have a25:=q3M;have v25:=q5N;have f6:=q5M;have f7:=qbr;have mK:=q4Y;have mE:=q4Z;have mI:=q2D;have k27:=qbD;have k25:=qbE;have e27:=qbJ;have i25:=q3I;have n8:=q9j ⟨w.heap.size,0,none⟩ t ((w.alloc (.cells #[.pointer (some t)] 68)).alloc (.cells #[.pointer (some ⟨9,68,none⟩),.pointer (some ⟨w.heap.size,0,none⟩),.int .u64 150] 90)) (by simp);have hlt:0<w.heap.size:=by
  rcases Nat.eq_zero_or_pos w.heap.size with h0|h
  ·simp [World.cell?,h0] at hg
  ·exact h
 have hg2:((w.alloc (.cells #[.pointer (qb t)] 68)).alloc (.cells #[.pointer (qb ⟨9,68,qe⟩),.pointer (qb ⟨w.heap.size,0,qe⟩),.int .u64 150] 90)).cell? ⟨0,0,qe⟩=qb (.iface 112 (.agg #[.pointer (qb ⟨9,63,qe⟩)])):=by rw[qa _ _ ⟨0,0,qe⟩ (by simp),qa _ _ ⟨0,0,qe⟩ hlt];exact hg
 have htl:t.block<w.heap.size:=by
  rcases Nat.lt_or_ge t.block w.heap.size with h|h
  ·exact h
  ·simp [World.cell?,qg h] at ht0
 have el:=q9J ⟨w.heap.size,0,qe⟩ t (((w.alloc (.cells #[.pointer (qb t)] 68)).alloc (.cells #[.pointer (qb ⟨9,68,qe⟩),.pointer (qb ⟨w.heap.size,0,qe⟩),.int .u64 150] 90)).alloc (.cells #[.pointer (qb ⟨9,68,qe⟩),.pointer (qb ⟨w.heap.size,0,qe⟩),.int .u64 150] 90)) (by rw[qa _ _ ⟨w.heap.size,0,qe⟩ (by simp;omega)];simp);have st:=qdw t ⟨w.heap.size+1+1+1,0,qe⟩ e old ((((w.alloc (.cells #[.pointer (qb t)] 68)).alloc (.cells #[.pointer (qb ⟨9,68,qe⟩),.pointer (qb ⟨w.heap.size,0,qe⟩),.int .u64 150] 90)).alloc (.cells #[.pointer (qb ⟨9,68,qe⟩),.pointer (qb ⟨w.heap.size,0,qe⟩),.int .u64 150] 90)).alloc (.cells #[.pointer (qb e)] 66))
  (by rw[World.cell?_alloc_at _ _ _ _ (by simp)];rfl)
  (by rw[qa _ _ t (by simp;omega),qa _ _ t (by simp;omega),qa _ _ t (by simp;omega),qa _ _ t htl];exact ht0)
  (by rw[qd _ _ t (by simp;omega),qd _ _ t (by simp;omega),qd _ _ t (by simp;omega),qd _ _ t (Nat.ne_of_lt htl)];exact hf0)
 have tX:∀(v:qh) (w:qf),(ReflectliteType.typeOf #[.iface 131 v]).run qc w=.ok (.iface 112 (.agg #[.pointer (qb ⟨9,131,qe⟩)])) w:=fun v w=>by kernel_rfl
 have aX : ∀ (w : World), (ReflectliteType.relation "AssignableTo" ReflectliteType.assignableTo #[.agg #[.pointer (some ⟨9, 131, none⟩)], .iface 112 (.agg #[.pointer (some ⟨9, 66, none⟩)])]).run Tryz.prog w = .ok (.bool false) w := fun w => by kernel_rfl
 have nA:∀(v:qh) (w:qf),(Instr.typeAssert (.iface 131 v) 63 117 true).run qc w=.ok (.tuple #[.nilIface,.bool false]) w:=fun v w=>run_typeAssert_lacksB underlying117 (by kernel_rfl) (by kernel_rfl) v _ w
 have hUn:∀(v:qh) (w:qf),(Instr.typeAssert (.iface 131 v) 63 120 true).run qc w=.ok (.tuple #[.iface 131 v,.bool true]) w:=fun v w=>run_typeAssert_hasB underlying120 (by kernel_rfl) v _ w
 have mU : ∀ (v : Value) (w : World), (Go.method 479 131 v "Unwrap").run Tryz.prog w = .ok (381, v) w := fun v w => by kernel_rfl
 have HU:=fun(w':qf) (_:True)=>q6p e w'
 go_enter func30,ntmps30;go_wp2;refine wp_loop_rounds 2 ?_;rw[rounds_succ];go_wp2_with fail;refine(HU _ trivial).mono ?_;rintro ev w1 ⟨rfl,rfl⟩;go_wp2_with fail;rw[rounds_succ];go_wp2;go_ret;exact⟨rfl,rfl⟩
end As
end Go.Proofs.YtokgagenofjmgaaGreatDoor
