/- Lemmas. -/
import Derived.Test.YtcdimmblnbkjjaaGreatDoorPartBC
import Derived.Carry
import Derived.ChangeMaps5
set_option linter.all false
set_option maxRecDepth 100000
namespace Go.Proofs.YtcdimmblnbkjjaaGreatDoor.Fin3
open Go Go.ChangeShapes Go.WideShapes Go.ChangeAt Go.RowKit Go.Deep R5
theorem own:ownKnob Tryz.prog.godebug=none:=by kernel_rfl
theorem q54:laidOutB Tryz.prog=true:=by kernel_rfl
theorem q9v : Tryz.prog.globalNamed "math/bits.deBruijn32tab" = some 4 := by kernel_rfl
theorem q7x:(Tryz.prog.globals[4]?).map (·.type)=some 303:=by kernel_rfl
theorem q9H:Tryz.prog.cellsOf 303=32:=by kernel_rfl
theorem q8G:∀j:Fin 32,([0,1,28,2,29,14,24,3,30,22,20,15,25,17,4,8,31,27,13,23,21,19,16,7,26,12,18,6,11,5,10,9]:List Int).getD j.val 0=((Lib.deBruijn32tab.getD j.val 0:Nat):Int):=by decide
theorem q9g{W:World}(h:laidMetH Tryz.prog Rows.readNumbersRow.laid W):Std W:=by
 have ht : Lib.TabIs Tryz.prog W "math/bits.deBruijn32tab" .u8 [0, 1, 28, 2, 29, 14, 24, 3, 30, 22, 20, 15, 25, 17, 4, 8, 31, 27, 13, 23, 21, 19, 16, 7, 26, 12, 18, 6, 11, 5, 10, 9] :=
  Lib.tabIs_of_head (rest:=[]) q9v q7x Tryz.underlying303 Tryz.underlying5 c8 q9H h
 have hc:∀j,j<32->W.cell? ⟨4,j,none⟩=some (.int .u8 ((Lib.deBruijn32tab.getD j 0:Nat):Int)):=fun j hj=>by
  rw[ht.cell q9v j hj,q8G ⟨j,hj⟩]
 exact⟨fun j hj=>hc j hj,q6U (hc 0 (by decide))⟩
theorem q4W(H:Type)(enc:TypeId × Value->H)(W:World)(base:Nat)(args:Array Value)(ds gs:List (DataW H))(before:List MemPlace)
  (hval:∀(j:Nat) t v,Tryz.f3.params[j]?=some t->args[j]?=some v->Value.okWide Tryz.prog W .any base t v)
  (hW:DataW.Whole enc Tryz.prog Tryz.f3.params.toList Rows.readNumbersSpec.vars false W args.toList ds gs before)
  (hz:(DataW.weightsEach Tryz.prog (Tryz.f3.params.toList++(OpenSpec.ofChange Rows.readNumbersSpec).bare.plain.varTypes Tryz.prog) (ds++gs)).all (·<=reachBytes)=true) (hL:laidMetH Tryz.prog Rows.readNumbersRow.laid W) :
  Calls Tryz.prog 3 args W fun e W'=>∃v,e=.returned v/\Rows.readNumbersSpec.post enc Tryz.prog Tryz.f3 false true false false W args v W':=by
 have a1:=hW;obtain⟨p,q,a7,hV,rfl,b0,b3⟩:=hW;have hA:DataW.TrodAll enc Tryz.prog W 0 (fun _=>true) true Tryz.f3.params.toList args.toList ds p:=a7;rw[Tryz.params3] at hA hval hz;obtain⟨v0,v1,v2,d0,d1,d2,p0,p1,p2,rfl,rfl,rfl,h0,h1,h2⟩:=trodAll_three hA;obtain⟨rfl,rfl⟩:=trodVars_none hV;have a8:∀k∈DataW.weights Tryz.prog 33 d1,k<=reachBytes:=fun k hk=>by
  have hm:=DataW.weights_mem_each (P:=Tryz.prog) (ts:=(#[23,33,5]:Array TypeId).toList++(OpenSpec.ofChange Rows.readNumbersSpec).bare.plain.varTypes Tryz.prog) (ds:=[d0,d1,d2]++[]) (j:=1) (t:=33) (d:=d1) rfl rfl k hk;exact of_decide_eq_true (List.all_eq_true.1 hz _ hm)
 have a2:∀x∈p0,x.block<W.heap.size:=fun x hx=>by simpa using a1.lt x (by simp [hx])
 have a3:∀x∈p1,x.block<W.heap.size:=fun x hx=>by simpa using a1.lt x (by simp [hx])
 have a4:∀x∈p2,x.block<W.heap.size:=fun x hx=>by simpa using a1.lt x (by simp [hx])
 have fin:∀(e:Ending) (W':World),(e=.returned (.bool true)/\Below W.heap.size W W')->∃v,e=.returned v/\Rows.readNumbersSpec.post enc Tryz.prog Tryz.f3 false true false false W #[v0,v1,v2] v W':=by
  rintro e W' ⟨rfl,a0⟩;refine⟨_,rfl,_,_,_,[],p0++(p1++p2),[],a1,?_,?_,rfl,a0.frame _,fun h=>by cases h⟩
  ·exact trodAll_mk1 (shut_bool Tryz.underlying4 _)
  ·exact trodAll_mk3 (Below.trod q54 (by kernel_rfl) (of_decide_eq_true (by kernel_rfl)) h0 a0 a2) (Below.trod q54 (by kernel_rfl) (of_decide_eq_true (by kernel_rfl)) h1 a0 a3) (Below.trod q54 (by kernel_rfl) (of_decide_eq_true (by kernel_rfl)) h2 a0 a4)
 obtain⟨E,F,rfl⟩:=q6x (hval 0 23 v0 rfl rfl) h0;obtain⟨kind,neg,dneg,s,x,a5,Ad,n,c,xs,hx,pl,rfl,hr,a6,hn,hs⟩:=q4Y (hval 1 33 v1 rfl rfl) h1 a8;obtain⟨m0,rfl,-,-,wf⟩:=open_int Tryz.underlying5 (hval 2 5 v2 rfl rfl) h2;obtain⟨b1,b2⟩:=bounds_u8 wf;obtain⟨mode,rfl⟩:∃m:Nat,m0=m:=⟨m0.toNat,by omega⟩;have a9:(s.size:Int)<=4611686018427387904:=by omega
 exact(Law.ReadNumbers E F kind neg dneg s x a5 Ad n c xs hx pl mode W hr a6 hn a9 (q9g hL)).mono fin
def put(cs:List Value)(o:Obj):Obj:=match o with|.cells _ t frozen=>.cells cs.toArray t frozen|o=>o
noncomputable def q4C(os:Os):World:=
 {World.holding Tryz.prog os ⟨#[],#[],[]⟩ with heap:=(World.holding Tryz.prog os ⟨#[],#[],[]⟩).heap.modify 4 (put (([0,1,28,2,29,14,24,3,30,22,20,15,25,17,4,8,31,27,13,23,21,19,16,7,26,12,18,6,11,5,10,9]:List Int).map (.int .u8)))}
def q8N:Array Value:=#[fm 0 0,q4Z 0 false false .empty 0 false none 0 0 0 0,.int .u8 0]
theorem q7s(os:Os)(args:Array Value):laidMet Tryz.prog Rows.readNumbersRow.laid ((q4C os).forCall (fun _ _=>0) ⟨#[],args,[]⟩).memory:=
 laidMet_of_run' 8 (by kernel_rfl) (by kernel_rfl)
theorem q6s(os:Os)(started:os.Started)(H:Type)(enc:TypeId × Value->H)(F:Stop.Interp):
  ReturnsInHanded {} Tryz.checked os 3 .any ((OpenSpec.ofChange Rows.readNumbersSpec).preRow enc Tryz.prog Tryz.f3 Rows.readNumbersRow.domain false Rows.readNumbersRow.laid) (((OpenSpec.ofChange Rows.readNumbersSpec).at F).post enc Tryz.prog Tryz.f3 false true false false):=by
 refine returnsInHanded_of_row (C:=Tryz.checked) (s:=OpenSpec.ofChange Rows.readNumbersSpec) own started (by kernel_rfl) Tryz.func3
  (witness_row_at (enc:=enc) (C:=Tryz.checked) false (q4C os) q8N rfl (by kernel_rfl) (by kernel_rfl) (by kernel_rfl)
   (OpenSpec.preRow_of_B rfl 8 (by kernel_rfl) (by kernel_rfl) (q7s os _))) ?_
 intro W base args ds gs before a0 hW _ _ hz hL _ _;exact q4W H enc W base args ds gs before a0 hW hz hL
end Go.Proofs.YtcdimmblnbkjjaaGreatDoor.Fin3
