/- The law ShortMirrored: of any form, float, mode and decimal: the float with the other sign has by the mirrored mode the same digits with the other sign; by Even no more than are enough; a decimal of as few digits as are sure is not told with more; what was handed in stays. The library's variables are tied to the program's text. -/
import Derived.Test.YtabcgemembkkcaaGreatDoorMirrBV
import Derived.Test.YtabcgemembkkcaaGreatDoorMirrBX
set_option linter.all false
set_option maxRecDepth 100000
open Go.Proofs.Tryz
open Go.Proofs.Tryz renaming prog->qa
open Bool renaming false->qb,true->qc
namespace Go.Proofs.YtabcgemembkkcaaGreatDoor
namespace Bfn
open Go Go.ChangeShapes Go.WideShapes Go.ChangeAt Go.RowKit Go.Deep R5
theorem b3_contract(H:Type)(enc:TypeId × Value->H)(W:World)(base:Nat)(args:Array Value)(ds gs:List (DataW H))(before:List MemPlace)
  (hval:∀(j:Nat) t v,Tryz.f6.params[j]?=some t->args[j]?=some v->Value.okWide qa W .any base t v)
  (hW:DataW.Whole enc qa Tryz.f6.params.toList Rows.shortMirroredSpec.vars qb W args.toList ds gs before)
  (hz:(DataW.weightsEach qa (Tryz.f6.params.toList++(OpenSpec.ofChange Rows.shortMirroredSpec).bare.plain.varTypes qa) (ds++gs)).all (·<=reachBytes)=qc) (hL:laidMetH qa Rows.shortMirroredRow.laid W) :
  Calls qa 6 args W fun e W'=>∃v,e=.returned v/\Rows.shortMirroredSpec.post enc qa Tryz.f6 qb qc qb qb W args v W':=by
 have a:=hW;obtain⟨p,q,J,R,rfl,Z,a0⟩:=hW;have g:DataW.TrodAll enc qa W 0 (fun _=>qc) qc Tryz.f6.params.toList args.toList ds p:=J;rw[Tryz.params6] at g hval hz;obtain⟨i,l,n,o,S,T,U,f,r,u,p2,w,rfl,rfl,rfl,y,z,C,D⟩:=trodAll_four g;obtain⟨rfl,rfl⟩:=trodVars_none R;have K:∀x∈r,x.block<W.heap.size:=fun x hx=>by simpa using a.lt x (by simp [hx])
 have L:∀x∈u,x.block<W.heap.size:=fun x hx=>by simpa using a.lt x (by simp [hx])
 have M:∀x∈p2,x.block<W.heap.size:=fun x hx=>by simpa using a.lt x (by simp [hx])
 have N:∀x∈w,x.block<W.heap.size:=fun x hx=>by simpa using a.lt x (by simp [hx])
 have fin:∀(e:Ending) (W':World),(e=.returned (.bool qc)/\Below W.heap.size W W')->∃v,e=.returned v/\Rows.shortMirroredSpec.post enc qa Tryz.f6 qb qc qb qb W #[i,l,n,o] v W':=by
  rintro e W' ⟨rfl,c⟩;refine⟨_,rfl,_,_,_,[],r++(u++(p2++w)),[],a,?_,?_,rfl,c.frame _,fun h=>by cases h⟩
  ·exact trodAll_mk1 (shut_bool underlying4 _)
  ·exact trodAll_mk4 (Below.trod laidOut (by kernel_rfl) (k1j (by kernel_rfl)) y c K) (Below.trod laidOut (by kernel_rfl) (k1j (by kernel_rfl)) z c L) (Below.trod laidOut (by kernel_rfl) (k1j (by kernel_rfl)) C c M) (Below.trod laidOut (by kernel_rfl) (k1j (by kernel_rfl)) D c N)
 obtain⟨E,F,rfl⟩:=open_form (hval 0 23 i rfl rfl) y;have O:∀k∈DataW.weights qa 27 f,k<=reachBytes:=fun k hk=>by have V:=DataW.weights_mem_each (P:=qa) (ts:=(#[23,24,5,27]:Array TypeId).toList++(OpenSpec.ofChange Rows.shortMirroredSpec).bare.plain.varTypes qa) (ds:=[S,T,U,f]++[]) (j:=3) (t:=27) (d:=f) rfl rfl k hk;exact k1j (k1M.1 hz _ V)
 obtain⟨neg,s,x,rfl,X⟩:=open_dec (hval 3 27 o rfl rfl) D O;obtain⟨G,rfl,-,-,wb⟩:=open_int underlying24 (hval 1 24 l rfl rfl) z;obtain⟨I,rfl,-,-,Y⟩:=open_int underlying5 (hval 2 5 n rfl rfl) C;obtain⟨b1,b2⟩:=bounds_u64 wb;obtain⟨b3,b4⟩:=bounds_u8 Y;obtain⟨b,rfl⟩:∃b:Nat,G=b:=⟨G.toNat,by omega⟩;obtain⟨mode,rfl⟩:∃m:Nat,I=m:=⟨I.toNat,by omega⟩;have Q:=std_of (plain_list W hL);exact(Sho.ShortMirrored E F b mode neg s x W (by omega) (by omega) X Q).mono fin
def b3Args:Array Value:=#[fm 0 0,.int .u64 0,.int .u8 0,decV qb .empty 0]
theorem b3_lifted(os:Os)(started:os.Started)(H:Type)(enc:TypeId × Value->H)(F:Stop.Interp):ReturnsInHanded {} Tryz.checked os 6 .any ((OpenSpec.ofChange Rows.shortMirroredSpec).preRow enc qa Tryz.f6 Rows.shortMirroredRow.domain qb Rows.shortMirroredRow.laid) (((OpenSpec.ofChange Rows.shortMirroredSpec).at F).post enc qa Tryz.f6 qb qc qb qb):=by
 refine returnsInHanded_of_row (C:=Tryz.checked) (s:=OpenSpec.ofChange Rows.shortMirroredSpec) own started (by kernel_rfl) func6
  (witness_row_at (enc:=enc) (C:=Tryz.checked) qb (laidWorld os) b3Args rfl (by kernel_rfl) (by kernel_rfl) (by kernel_rfl)
   (OpenSpec.preRow_of_B rfl 8 (by kernel_rfl) (by kernel_rfl) (laid_met os _))) ?_
 intro W base args b c before a d _ _ e f _ _;exact b3_contract H enc W base args b c before a d e f
theorem b3_said:Rows.ShortMirroredSaid:=OpenClaim.holds_of_cond 6 Tryz.f6 rfl rfl rfl rfl rfl rfl rfl ⟨rfl,rfl,rfl,rfl,rfl⟩ rfl rfl rfl rfl rfl (by kernel_rfl) func6 b3_closed
  (k1j (by kernel_rfl)) (by unfold Func.isWrapper;first|(rw[k0n (by decide +kernel)];kernel_rfl)|(rw[k0o (by decide +kernel)];exact⟨rfl,rfl⟩))
  (fun os started H enc _ F=>by rw[OpenClaim.pre_eq_preRow];exact b3_lifted os started H enc F)
theorem b3_plain (f : FuncId) (fn : Func) (hf : Tryz.pinned.checked.prog.funcNamed "numeral/numerallaw18.ShortMirrored" = some f) (hfn : Tryz.pinned.checked.prog.funcs[f]? = some fn) :
  qb=Tryz.pinned.checked.prog.looks []/\∀(j:Nat) t,fn.params[j]?=some t->Tryz.pinned.checked.prog.wantsStandIn t=qb:=by
 obtain rfl : f = 6 := Option.some.inj ((show Tryz.prog.funcNamed "numeral/numerallaw18.ShortMirrored" = some 6 by kernel_rfl).symm.trans hf) |>.symm;obtain rfl:fn=Tryz.f6:=(Option.some.inj (func6.symm.trans hfn)).symm;refine⟨by kernel_rfl,fun j t ht=>?_⟩;rw[Tryz.params6] at ht;have hm:t∈[23,24,5,27]:=by simpa using Array.mem_of_getElem? ht
 have hall:([23,24,5,27].all fun u=>!Tryz.prog.wantsStandIn u)=qc:=by kernel_rfl
 exact(show Tryz.prog.wantsStandIn t=qb by simpa using k1M.1 hall t hm)
end Bfn
section
open Go
set_option maxHeartbeats 16000000 in
theorem shortMirrored_card:Rows.ShortMirroredCardSaid:=Claim7.holds_tied_plain_at .later [] _ _ _ _ Bfn.b3_said (fun _ h=>by cases h) (by as_aux_lemma=>kernel_rfl) (fun _ h=>by cases h) shortMirrored_row_tie rfl ⟨rfl,rfl⟩ (by as_aux_lemma=>kernel_rfl) rfl Bfn.b3_plain (by as_aux_lemma=>kernel_rfl)
#print axioms shortMirrored_card
end
end Go.Proofs.YtabcgemembkkcaaGreatDoor
