/- The law StreamScript returns true for every form, mode, list of separators and script of calls: proved of every world in which the arguments lie as the statement says and the library's tables are laid. -/
import Derived.Test.YthopehoklmgphaaGreatDoorPartCA
import Derived.Test.YthopehoklmgphaaGreatDoorPartBZ
import Derived.Test.YthopehoklmgphaaGreatDoorPartAK
set_option linter.all false
set_option maxRecDepth 100000
open Go.Proofs.Tryz
open Go.Proofs.Tryz renaming prog->qa
open Bool renaming false->qb,true->qc
namespace Go.Proofs.YthopehoklmgphaaGreatDoor
namespace Sfn
open Go Go.ChangeShapes Go.WideShapes Go.ChangeAt Go.RowKit Go.Deep R5 Scn Rdx
theorem ss_contract(H:Type)(enc:TypeId × Value->H)(W:World)(base:Nat)(args:Array Value)(ds gs:List (DataW H))(before:List MemPlace)
  (hval:∀(j:Nat) t v,Tryz.f3.params[j]?=some t->args[j]?=some v->Value.okWide qa W .any base t v)
  (hW:DataW.Whole enc qa Tryz.f3.params.toList Rows.streamScriptSpec.vars qb W args.toList ds gs before)
  (hz:(DataW.weightsEach qa (Tryz.f3.params.toList++(OpenSpec.ofChange Rows.streamScriptSpec).bare.plain.varTypes qa) (ds++gs)).all (·<=reachBytes)=qc) (hL:laidMetH qa Rows.streamScriptRow.laid W) :
  Calls qa 3 args W fun e W'=>∃v,e=.returned v/\Rows.streamScriptSpec.post enc qa Tryz.f3 qb qc qb qb W args v W':=by
 have a:=hW;obtain⟨p,q,J,Q,rfl,U,V⟩:=hW;have g:DataW.TrodAll enc qa W 0 (fun _=>qc) qc Tryz.f3.params.toList args.toList ds p:=J;rw[Tryz.params3] at g hval hz;obtain⟨i,k,l,o,X,Y,Z,d3,r,s,p2,u,rfl,rfl,rfl,w,y,z,D⟩:=trodAll_four g;obtain⟨rfl,rfl⟩:=trodVars_none Q;have K:∀x∈r,x.block<W.heap.size:=fun x hx=>by simpa using a.lt x (by simp [hx])
 have L:∀x∈s,x.block<W.heap.size:=fun x hx=>by simpa using a.lt x (by simp [hx])
 have M:∀x∈p2,x.block<W.heap.size:=fun x hx=>by simpa using a.lt x (by simp [hx])
 have N:∀x∈u,x.block<W.heap.size:=fun x hx=>by simpa using a.lt x (by simp [hx])
 have fin:∀(e:Ending) (W':World),(e=.returned (.bool qc)/\Below W.heap.size W W')->∃v,e=.returned v/\Rows.streamScriptSpec.post enc qa Tryz.f3 qb qc qb qb W #[i,k,l,o] v W':=by
  rintro e W' ⟨rfl,b⟩;refine⟨_,rfl,_,_,_,[],r++(s++(p2++u)),[],a,?_,?_,rfl,b.frame _,fun h=>by cases h⟩
  ·exact trodAll_mk1 (shut_bool underlying4 _)
  ·exact trodAll_mk4 (Below.trod laidOut (by kernel_rfl) (k22 (by kernel_rfl)) w b K) (Below.trod laidOut (by kernel_rfl) (k22 (by kernel_rfl)) y b L)
    (Below.trod laidOut (by kernel_rfl) (k22 (by kernel_rfl)) z b M) (Below.trod laidOut (by kernel_rfl) (k22 (by kernel_rfl)) D b N)
 obtain⟨E,F,rfl⟩:=open_form (hval 0 23 i rfl rfl) w;obtain⟨G,rfl,-,-,R⟩:=open_int underlying5 (hval 1 5 k rfl rfl) y;obtain⟨d,rfl,O,-,-⟩:=Go.ChangeMaps.open_string underlying9 (hval 2 9 l rfl rfl) z;obtain⟨S,n,c,C,rfl,T⟩:=open_ops (hval 3 24 o rfl rfl) D;have P:d.size<=140737488351232:=by have f:=sized_string hz (j:=2) (t:=9) (bytes:=d.data.toList) rfl (by rw[O];rfl);rw[k2s] at f;have:d.data.size=d.size:=rfl;unfold reachBytes at f;omega
 obtain⟨b1,b2⟩:=bounds_u8 R;obtain⟨mode,rfl⟩:∃m:Nat,G=m:=⟨G.toNat,by omega⟩;have I:=plain_list W hL;exact(Str.StreamScript W (bg_of I.1) I.2 E F mode d S n c C T P).mono fin
def ssArgs:Array Value:=#[fm 0 0,.int .u8 0,.string .empty,.slice none 0 0]
theorem ss_lifted(os:Os)(started:os.Started)(H:Type)(enc:TypeId × Value->H)(F:Stop.Interp):ReturnsInHanded {} Tryz.checked os 3 .any ((OpenSpec.ofChange Rows.streamScriptSpec).preRow enc qa Tryz.f3 Rows.streamScriptRow.domain qb Rows.streamScriptRow.laid) (((OpenSpec.ofChange Rows.streamScriptSpec).at F).post enc qa Tryz.f3 qb qc qb qb):=by
 refine returnsInHanded_of_row (C:=Tryz.checked) (s:=OpenSpec.ofChange Rows.streamScriptSpec) own started (by kernel_rfl) func3
  (witness_row_at (enc:=enc) (C:=Tryz.checked) qb (laidWorld os) ssArgs rfl (by kernel_rfl) (by kernel_rfl) (by kernel_rfl)
   (OpenSpec.preRow_of_B rfl 8 (by kernel_rfl) (by kernel_rfl) (laid_met os _))) ?_
 intro W base args b c before a d _ _ e f _ _;exact ss_contract H enc W base args b c before a d e f
theorem ss_said:Rows.StreamScriptSaid:=OpenClaim.holds_of_cond 3 Tryz.f3 rfl rfl rfl rfl rfl rfl rfl ⟨rfl,rfl,rfl,rfl,rfl⟩ rfl rfl rfl rfl rfl (by kernel_rfl) func3 ss_closed
  (k22 (by kernel_rfl)) (by unfold Func.isWrapper;first|(rw[if_pos (by decide +kernel)];kernel_rfl)|(rw[if_neg (by decide +kernel)];exact⟨rfl,rfl⟩))
  (fun os started H enc _ F=>by rw[OpenClaim.pre_eq_preRow];exact ss_lifted os started H enc F)
theorem ss_plain (f : FuncId) (fn : Func) (hf : Tryz.pinned.checked.prog.funcNamed "numeral/numerallaw24.StreamScript" = some f) (hfn : Tryz.pinned.checked.prog.funcs[f]? = some fn) :
  qc=Tryz.pinned.checked.prog.looks []/\∀(j:Nat) t,fn.params[j]?=some t->Tryz.pinned.checked.prog.wantsStandIn t=qb:=by
 obtain rfl : f = 3 := Option.some.inj ((show Tryz.prog.funcNamed "numeral/numerallaw24.StreamScript" = some 3 by kernel_rfl).symm.trans hf) |>.symm;obtain rfl:fn=Tryz.f3:=(Option.some.inj (func3.symm.trans hfn)).symm;refine⟨by kernel_rfl,fun j t ht=>?_⟩;rw[Tryz.params3] at ht;have hm:t∈[23,5,9,24]:=by simpa using Array.mem_of_getElem? ht
 have hall:([23,5,9,24].all fun u=>!Tryz.prog.wantsStandIn u)=qc:=by kernel_rfl
 exact(show Tryz.prog.wantsStandIn t=qb by simpa using k1W.1 hall t hm)
end Sfn
section
open Go
set_option maxHeartbeats 16000000 in
theorem streamScript_card:Rows.StreamScriptCardSaid:=Claim7.holds_tied_plain_at .later [] _ _ _ _ Sfn.ss_said (fun _ h=>by cases h) (by as_aux_lemma=>kernel_rfl) (fun _ h=>by cases h) streamScript_row_tie rfl ⟨rfl,rfl⟩ (by as_aux_lemma=>kernel_rfl) rfl Sfn.ss_plain (by as_aux_lemma=>kernel_rfl)
#print axioms streamScript_card
end
end Go.Proofs.YthopehoklmgphaaGreatDoor
