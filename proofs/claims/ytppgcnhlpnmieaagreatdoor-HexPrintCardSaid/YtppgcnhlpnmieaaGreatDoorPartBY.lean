/- Lemmas. -/
import Derived.Test.YtppgcnhlpnmieaaGreatDoorPartBW
import Derived.Test.YtppgcnhlpnmieaaGreatDoorPartBV
import Derived.Carry
import Derived.ChangeMaps5
import Derived.SizedLaws
set_option linter.all false
set_option maxRecDepth 100000
namespace Go.Proofs.YtppgcnhlpnmieaaGreatDoor.Hfn
open Go Go.ChangeShapes Go.WideShapes Go.ChangeAt Go.RowKit Go.Deep R5 Hx
theorem q6h(H:Type)(enc:TypeId × Value->H)(W:World)(base:Nat)(args:Array Value)(ds gs:List (DataW H))(before:List MemPlace)
  (hval:∀(j:Nat) t v,Tryz.f5.params[j]?=some t->args[j]?=some v->Value.okWide Tryz.prog W .any base t v)
  (hW:DataW.Whole enc Tryz.prog Tryz.f5.params.toList Rows.hexPrintSpec.vars false W args.toList ds gs before) (hL:laidMetH Tryz.prog Rows.hexPrintRow.laid W) :
  Calls Tryz.prog 5 args W fun e W'=>∃v,e=.returned v/\Rows.hexPrintSpec.post enc Tryz.prog Tryz.f5 false true false false W args v W':=by
 have a1:=hW;obtain⟨p,q,a6,hV,rfl,a7,a8⟩:=hW;have hA:DataW.TrodAll enc Tryz.prog W 0 (fun _=>true) true Tryz.f5.params.toList args.toList ds p:=a6;rw[Tryz.params5] at hA hval;obtain⟨v0,v1,v2,v3,d0,d1,d2,d3,p0,p1,p2,p3,rfl,rfl,rfl,h0,h1,h2,h3⟩:=trodAll_four hA;obtain⟨rfl,rfl⟩:=trodVars_none hV;have a2:∀x∈p0,x.block<W.heap.size:=fun x hx=>by simpa using a1.lt x (by simp [hx])
 have a3:∀x∈p1,x.block<W.heap.size:=fun x hx=>by simpa using a1.lt x (by simp [hx])
 have a4:∀x∈p2,x.block<W.heap.size:=fun x hx=>by simpa using a1.lt x (by simp [hx])
 have a5:∀x∈p3,x.block<W.heap.size:=fun x hx=>by simpa using a1.lt x (by simp [hx])
 have fin:∀(e:Ending) (W':World),(e=.returned (.bool true)/\Below W.heap.size W W')->∃v,e=.returned v/\Rows.hexPrintSpec.post enc Tryz.prog Tryz.f5 false true false false W #[v0,v1,v2,v3] v W':=by
  rintro e W' ⟨rfl,a0⟩;refine⟨_,rfl,_,_,_,[],p0++(p1++(p2++p3)),[],a1,?_,?_,rfl,a0.frame _,fun h=>by cases h⟩
  ·exact trodAll_mk1 (shut_bool Tryz.underlying4 _)
  ·exact trodAll_mk4 (Below.trod q4X (by kernel_rfl) (of_decide_eq_true (by kernel_rfl)) h0 a0 a2) (Below.trod q4X (by kernel_rfl) (of_decide_eq_true (by kernel_rfl)) h1 a0 a3)
    (Below.trod q4X (by kernel_rfl) (of_decide_eq_true (by kernel_rfl)) h2 a0 a4) (Below.trod q4X (by kernel_rfl) (of_decide_eq_true (by kernel_rfl)) h3 a0 a5)
 obtain⟨E,F,rfl⟩:=q8l (hval 0 23 v0 rfl rfl) h0;obtain⟨b0,rfl,-,-,wb⟩:=open_int Tryz.underlying31 (hval 1 31 v1 rfl rfl) h1;obtain⟨places,rfl,-,-,wi⟩:=open_int Tryz.underlying3 (hval 2 3 v2 rfl rfl) h2;obtain⟨m0,rfl,-,-,wm⟩:=open_int Tryz.underlying5 (hval 3 5 v3 rfl rfl) h3;obtain⟨b1,b2⟩:=bounds_u64 wb;obtain⟨b3,b4⟩:=bounds_u8 wm;obtain⟨b,rfl⟩:∃b:Nat,b0=b:=⟨b0.toNat,by omega⟩;obtain⟨mode,rfl⟩:∃m:Nat,m0=m:=⟨m0.toNat,by omega⟩;have hl:=q7t W hL;exact(HexPrint E F b places mode W (qdn hl) (qc2 hl) (by omega)).mono fin
def qch:Array Value:=#[fm 0 0,.int .u64 0,.int .i64 0,.int .u8 0]
theorem q8f(os:Os)(started:os.Started)(H:Type)(enc:TypeId × Value->H)(F:Stop.Interp):
  ReturnsInHanded {} Tryz.checked os 5 .any ((OpenSpec.ofChange Rows.hexPrintSpec).preRow enc Tryz.prog Tryz.f5 Rows.hexPrintRow.domain false Rows.hexPrintRow.laid) (((OpenSpec.ofChange Rows.hexPrintSpec).at F).post enc Tryz.prog Tryz.f5 false true false false):=by
 refine returnsInHanded_of_row (C:=Tryz.checked) (s:=OpenSpec.ofChange Rows.hexPrintSpec) own started (by kernel_rfl) Tryz.func5
  (witness_row_at (enc:=enc) (C:=Tryz.checked) false (q5F os) qch rfl (by kernel_rfl) (by kernel_rfl) (by kernel_rfl)
   (OpenSpec.preRow_of_B rfl 8 (by kernel_rfl) (by kernel_rfl) (q9R os _))) ?_
 intro W base args ds gs before a0 hW _ _ hz hL _ _;exact q6h H enc W base args ds gs before a0 hW hL
end Go.Proofs.YtppgcnhlpnmieaaGreatDoor.Hfn
