/- The law StreamItems returns true for every form, mode, list of separators, text and number of items: proved of every world in which the arguments lie as the statement says and the library's tables are laid. -/
import Derived.Test.YtokgagenofjmgaaGreatDoorPartBX
import Derived.Test.YtokgagenofjmgaaGreatDoorPartBW
set_option linter.all false
set_option maxRecDepth 100000
open Go.Proofs.Tryz
open Go.Proofs.Tryz renaming prog->qa
open Bool renaming false->qb,true->qc
namespace Go.Proofs.YtokgagenofjmgaaGreatDoor
namespace Sfn
open Go Go.ChangeShapes Go.WideShapes Go.ChangeAt Go.RowKit Go.Deep R5 Scn Rdx
theorem si_contract(H:Type)(enc:TypeId × Value->H)(W:World)(base:Nat)(args:Array Value)(ds gs:List (DataW H))(before:List MemPlace)
  (hval:∀(j:Nat) t v,Tryz.f3.params[j]?=some t->args[j]?=some v->Value.okWide qa W .any base t v)
  (hW:DataW.Whole enc qa Tryz.f3.params.toList Rows.streamItemsSpec.vars qb W args.toList ds gs before)
  (hz:(DataW.weightsEach qa (Tryz.f3.params.toList++(OpenSpec.ofChange Rows.streamItemsSpec).bare.plain.varTypes qa) (ds++gs)).all (·<=reachBytes)=qc) (hL:laidMetH qa Rows.streamItemsRow.laid W) :
  Calls qa 3 args W fun e W'=>∃v,e=.returned v/\Rows.streamItemsSpec.post enc qa Tryz.f3 qb qc qb qb W args v W':=by
 have a:=hW;obtain⟨p,q,K,U,rfl,X,Y⟩:=hW;have f:DataW.TrodAll enc qa W 0 (fun _=>qc) qc Tryz.f3.params.toList args.toList ds p:=K;rw[Tryz.params3] at f hval hz;obtain⟨g,i,k,l,n,Z,d1,d2,d3,d4,o,r,p2,u,w,rfl,rfl,rfl,y,z,C,D,G⟩:=trodAll_five f;obtain⟨rfl,rfl⟩:=trodVars_none U;have L:∀x∈o,x.block<W.heap.size:=fun x hx=>by simpa using a.lt x (by simp [hx])
 have M:∀x∈r,x.block<W.heap.size:=fun x hx=>by simpa using a.lt x (by simp [hx])
 have N:∀x∈p2,x.block<W.heap.size:=fun x hx=>by simpa using a.lt x (by simp [hx])
 have O:∀x∈u,x.block<W.heap.size:=fun x hx=>by simpa using a.lt x (by simp [hx])
 have P:∀x∈w,x.block<W.heap.size:=fun x hx=>by simpa using a.lt x (by simp [hx])
 have fin:∀(e:Ending) (W':World),(e=.returned (.bool qc)/\Below W.heap.size W W')->∃v,e=.returned v/\Rows.streamItemsSpec.post enc qa Tryz.f3 qb qc qb qb W #[g,i,k,l,n] v W':=by
  rintro e W' ⟨rfl,b⟩;refine⟨_,rfl,_,_,_,[],o++(r++(p2++(u++w))),[],a,?_,?_,rfl,b.frame _,fun h=>by cases h⟩
  ·exact trodAll_mk1 (shut_bool underlying4 _)
  ·exact trodAll_mk5 (Below.trod laidOut (by kernel_rfl) (k1V (by kernel_rfl)) y b L) (Below.trod laidOut (by kernel_rfl) (k1V (by kernel_rfl)) z b M)
    (Below.trod laidOut (by kernel_rfl) (k1V (by kernel_rfl)) C b N) (Below.trod laidOut (by kernel_rfl) (k1V (by kernel_rfl)) D b O) (Below.trod laidOut (by kernel_rfl) (k1V (by kernel_rfl)) G b P)
 obtain⟨E,F,rfl⟩:=open_form (hval 0 23 g rfl rfl) y;obtain⟨I,rfl,-,-,V⟩:=open_int underlying5 (hval 1 5 i rfl rfl) z;obtain⟨c,rfl,Q,-,-⟩:=Go.ChangeMaps.open_string underlying9 (hval 2 9 k rfl rfl) C;obtain⟨s,rfl,R,-,-⟩:=Go.ChangeMaps.open_string underlying9 (hval 3 9 l rfl rfl) D;have S:c.size<=140737488351232:=by have d:=sized_string hz (j:=2) (t:=9) (bytes:=c.data.toList) rfl (by rw[Q];rfl);rw[k2u] at d;have:c.data.size=c.size:=rfl;unfold reachBytes at d;omega
 have T:s.size<=140737488351232:=by have d:=sized_string hz (j:=3) (t:=9) (bytes:=s.data.toList) rfl (by rw[R];rfl);rw[k2u] at d;have:s.data.size=s.size:=rfl;unfold reachBytes at d;omega
 obtain⟨most,rfl,-,-,-⟩:=open_int underlying3 (hval 4 3 n rfl rfl) G;obtain⟨b1,b2⟩:=bounds_u8 V;obtain⟨mode,rfl⟩:∃m:Nat,I=m:=⟨I.toNat,by omega⟩;have J:=plain_list W hL;exact(Str.StreamItems W (bg_of J.1) J.2 E F mode c s most S T).mono fin
def siArgs:Array Value:=#[fm 0 0,.int .u8 0,.string .empty,.string .empty,.int .i64 0]
theorem si_lifted(os:Os)(started:os.Started)(H:Type)(enc:TypeId × Value->H)(F:Stop.Interp):ReturnsInHanded {} Tryz.checked os 3 .any ((OpenSpec.ofChange Rows.streamItemsSpec).preRow enc qa Tryz.f3 Rows.streamItemsRow.domain qb Rows.streamItemsRow.laid) (((OpenSpec.ofChange Rows.streamItemsSpec).at F).post enc qa Tryz.f3 qb qc qb qb):=by
 refine returnsInHanded_of_row (C:=Tryz.checked) (s:=OpenSpec.ofChange Rows.streamItemsSpec) own started (by kernel_rfl) func3
  (witness_row_at (enc:=enc) (C:=Tryz.checked) qb (laidWorld os) siArgs rfl (by kernel_rfl) (by kernel_rfl) (by kernel_rfl)
   (OpenSpec.preRow_of_B rfl 8 (by kernel_rfl) (by kernel_rfl) (laid_met os _))) ?_
 intro W base args b c before a d _ _ e f _ _;exact si_contract H enc W base args b c before a d e f
theorem si_said:Rows.StreamItemsSaid:=OpenClaim.holds_of_cond 3 Tryz.f3 rfl rfl rfl rfl rfl rfl rfl ⟨rfl,rfl,rfl,rfl,rfl⟩ rfl rfl rfl rfl rfl (by kernel_rfl) func3 si_closed
  (k1V (by kernel_rfl)) (by unfold Func.isWrapper;first|(rw[if_pos (by decide +kernel)];kernel_rfl)|(rw[if_neg (by decide +kernel)];exact⟨rfl,rfl⟩))
  (fun os started H enc _ F=>by rw[OpenClaim.pre_eq_preRow];exact si_lifted os started H enc F)
theorem si_plain (f : FuncId) (fn : Func) (hf : Tryz.pinned.checked.prog.funcNamed "numeral/numerallaw24.StreamItems" = some f) (hfn : Tryz.pinned.checked.prog.funcs[f]? = some fn) :
  qc=Tryz.pinned.checked.prog.looks []/\∀(j:Nat) t,fn.params[j]?=some t->Tryz.pinned.checked.prog.wantsStandIn t=qb:=by
 obtain rfl : f = 3 := Option.some.inj ((show Tryz.prog.funcNamed "numeral/numerallaw24.StreamItems" = some 3 by kernel_rfl).symm.trans hf) |>.symm;obtain rfl:fn=Tryz.f3:=(Option.some.inj (func3.symm.trans hfn)).symm;refine⟨by kernel_rfl,fun j t ht=>?_⟩;rw[Tryz.params3] at ht;have hm:t∈[23,5,9,9,3]:=by simpa using Array.mem_of_getElem? ht
 have hall:([23,5,9,9,3].all fun u=>!Tryz.prog.wantsStandIn u)=qc:=by kernel_rfl
 exact(show Tryz.prog.wantsStandIn t=qb by simpa using k1C.1 hall t hm)
end Sfn
section
open Go
set_option maxHeartbeats 16000000 in
theorem streamItems_card:Rows.StreamItemsCardSaid:=Claim7.holds_tied_plain_at .later [] _ _ _ _ Sfn.si_said (fun _ h=>by cases h) (by as_aux_lemma=>kernel_rfl) (fun _ h=>by cases h) streamItems_row_tie rfl ⟨rfl,rfl⟩ (by as_aux_lemma=>kernel_rfl) rfl Sfn.si_plain (by as_aux_lemma=>kernel_rfl)
#print axioms streamItems_card
end
end Go.Proofs.YtokgagenofjmgaaGreatDoor
