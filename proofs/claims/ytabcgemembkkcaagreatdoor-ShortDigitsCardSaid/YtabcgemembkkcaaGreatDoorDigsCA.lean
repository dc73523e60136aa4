/- The law ShortDigits: of any form, float and mode the program and the document tell the same fewest digits, or why there are none; what was handed in stays. The library's variables are tied to the program's text. -/
import Derived.Test.YtabcgemembkkcaaGreatDoorDigsBX
import Derived.Test.YtabcgemembkkcaaGreatDoorDigsBZ
set_option linter.all false
set_option maxRecDepth 100000
open Go.Proofs.Tryz
open Go.Proofs.Tryz renaming prog->qa
open Bool renaming false->qb,true->qc
namespace Go.Proofs.YtabcgemembkkcaaGreatDoor
namespace Bfn
open Go Go.ChangeShapes Go.WideShapes Go.ChangeAt Go.RowKit Go.Deep R5
theorem b2_contract(H:Type)(enc:TypeId × Value->H)(W:World)(base:Nat)(args:Array Value)(ds gs:List (DataW H))(before:List MemPlace)
  (hval:∀(j:Nat) t v,Tryz.f3.params[j]?=some t->args[j]?=some v->Value.okWide qa W .any base t v)
  (hW:DataW.Whole enc qa Tryz.f3.params.toList Rows.shortDigitsSpec.vars qb W args.toList ds gs before)
  (hz:(DataW.weightsEach qa (Tryz.f3.params.toList++(OpenSpec.ofChange Rows.shortDigitsSpec).bare.plain.varTypes qa) (ds++gs)).all (·<=reachBytes)=qc) (hL:laidMetH qa Rows.shortDigitsRow.laid W) :
  Calls qa 3 args W fun e W'=>∃v,e=.returned v/\Rows.shortDigitsSpec.post enc qa Tryz.f3 qb qc qb qb W args v W':=by
 have a:=hW;obtain⟨p,q,w,G,rfl,K,L⟩:=hW;have d:DataW.TrodAll enc qa W 0 (fun _=>qc) qc Tryz.f3.params.toList args.toList ds p:=w;rw[Tryz.params3] at d hval hz;obtain⟨f,g,i,M,N,O,k,l,p2,rfl,rfl,rfl,n,o,r⟩:=trodAll_three d;obtain⟨rfl,rfl⟩:=trodVars_none G;have y:∀x∈k,x.block<W.heap.size:=fun x hx=>by simpa using a.lt x (by simp [hx])
 have z:∀x∈l,x.block<W.heap.size:=fun x hx=>by simpa using a.lt x (by simp [hx])
 have C:∀x∈p2,x.block<W.heap.size:=fun x hx=>by simpa using a.lt x (by simp [hx])
 have fin:∀(e:Ending) (W':World),(e=.returned (.bool qc)/\Below W.heap.size W W')->∃v,e=.returned v/\Rows.shortDigitsSpec.post enc qa Tryz.f3 qb qc qb qb W #[f,g,i] v W':=by
  rintro e W' ⟨rfl,c⟩;refine⟨_,rfl,_,_,_,[],k++(l++p2),[],a,?_,?_,rfl,c.frame _,fun h=>by cases h⟩
  ·exact trodAll_mk1 (shut_bool underlying4 _)
  ·exact trodAll_mk3 (Below.trod laidOut (by kernel_rfl) (k1h (by kernel_rfl)) n c y) (Below.trod laidOut (by kernel_rfl) (k1h (by kernel_rfl)) o c z) (Below.trod laidOut (by kernel_rfl) (k1h (by kernel_rfl)) r c C)
 obtain⟨E,F,rfl⟩:=open_form (hval 0 23 f rfl rfl) n;obtain⟨s,rfl,-,-,I⟩:=open_int underlying24 (hval 1 24 g rfl rfl) o;obtain⟨u,rfl,-,-,J⟩:=open_int underlying5 (hval 2 5 i rfl rfl) r;obtain⟨P,Q⟩:=bounds_u64 I;obtain⟨R,S⟩:=bounds_u8 J;obtain⟨b,rfl⟩:∃b:Nat,s=b:=⟨s.toNat,by omega⟩;obtain⟨mode,rfl⟩:∃m:Nat,u=m:=⟨u.toNat,by omega⟩;have D:=std_of (plain_list W hL);exact(Sho.ShortDigits E F b mode W (by omega) (by omega) D).mono fin
def b2Args:Array Value:=#[fm 0 0,.int .u64 0,.int .u8 0]
theorem b2_lifted(os:Os)(started:os.Started)(H:Type)(enc:TypeId × Value->H)(F:Stop.Interp):ReturnsInHanded {} Tryz.checked os 3 .any ((OpenSpec.ofChange Rows.shortDigitsSpec).preRow enc qa Tryz.f3 Rows.shortDigitsRow.domain qb Rows.shortDigitsRow.laid) (((OpenSpec.ofChange Rows.shortDigitsSpec).at F).post enc qa Tryz.f3 qb qc qb qb):=by
 refine returnsInHanded_of_row (C:=Tryz.checked) (s:=OpenSpec.ofChange Rows.shortDigitsSpec) own started (by kernel_rfl) func3
  (witness_row_at (enc:=enc) (C:=Tryz.checked) qb (laidWorld os) b2Args rfl (by kernel_rfl) (by kernel_rfl) (by kernel_rfl)
   (OpenSpec.preRow_of_B rfl 8 (by kernel_rfl) (by kernel_rfl) (laid_met os _))) ?_
 intro W base args b c before a d _ _ e f _ _;exact b2_contract H enc W base args b c before a d e f
theorem b2_said:Rows.ShortDigitsSaid:=OpenClaim.holds_of_cond 3 Tryz.f3 rfl rfl rfl rfl rfl rfl rfl ⟨rfl,rfl,rfl,rfl,rfl⟩ rfl rfl rfl rfl rfl (by kernel_rfl) func3 b2_closed
  (k1h (by kernel_rfl)) (by unfold Func.isWrapper;first|(rw[k0p (by decide +kernel)];kernel_rfl)|(rw[k0r (by decide +kernel)];exact⟨rfl,rfl⟩))
  (fun os started H enc _ F=>by rw[OpenClaim.pre_eq_preRow];exact b2_lifted os started H enc F)
theorem b2_plain (f : FuncId) (fn : Func) (hf : Tryz.pinned.checked.prog.funcNamed "numeral/numerallaw18.ShortDigits" = some f) (hfn : Tryz.pinned.checked.prog.funcs[f]? = some fn) :
  qb=Tryz.pinned.checked.prog.looks []/\∀(j:Nat) t,fn.params[j]?=some t->Tryz.pinned.checked.prog.wantsStandIn t=qb:=by
 obtain rfl : f = 3 := Option.some.inj ((show Tryz.prog.funcNamed "numeral/numerallaw18.ShortDigits" = some 3 by kernel_rfl).symm.trans hf) |>.symm;obtain rfl:fn=Tryz.f3:=(Option.some.inj (func3.symm.trans hfn)).symm;refine⟨by kernel_rfl,fun j t ht=>?_⟩;rw[Tryz.params3] at ht;have hm:t∈[23,24,5]:=by simpa using Array.mem_of_getElem? ht
 have hall:([23,24,5].all fun u=>!Tryz.prog.wantsStandIn u)=qc:=by kernel_rfl
 exact(show Tryz.prog.wantsStandIn t=qb by simpa using k29.1 hall t hm)
end Bfn
section
open Go
set_option maxHeartbeats 16000000 in
theorem shortDigits_card:Rows.ShortDigitsCardSaid:=Claim7.holds_tied_plain_at .later [] _ _ _ _ Bfn.b2_said (fun _ h=>by cases h) (by as_aux_lemma=>kernel_rfl) (fun _ h=>by cases h) shortDigits_row_tie rfl ⟨rfl,rfl⟩ (by as_aux_lemma=>kernel_rfl) rfl Bfn.b2_plain (by as_aux_lemma=>kernel_rfl)
#print axioms shortDigits_card
end
end Go.Proofs.YtabcgemembkkcaaGreatDoor
