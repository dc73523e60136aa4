/- Lemmas. -/
import Derived.Test.YtokgagenofjmgaaGreatDoorPartBR
set_option linter.all false
namespace Go.Proofs.YtokgagenofjmgaaGreatDoor
variable{ops:Array Oper}{i l:Nat}{P:Program}{C:World->Prop}{a:Act}{Q':Exit->Act->World->Prop}{w:World}
namespace Str
open Go Go.RowKit R5 Scn Hx Rdx
def q5s(ops:Array Oper):Bool:=ops.all fun o=>match o.op with|.defer _=>false|_=>true
theorem q61(h:q5s ops=true){o:Oper}(ho:ops[i]?=some o):∀c,o.op≠.defer c:=by intro c e;obtain⟨a,rfl⟩:=k0a.1 ho;have:=(Array.all_eq_true.1 h) i a;rw[e] at this;cases this
theorem q5b(hd:q5s ops=true){K:Act->Prop}{K':Act->World->Prop}(hC:C w)(h:∀a w',C w'->K a->K' a w')
  (hh:qOp P ops C i K a):wpOpIn (Fence.wide.inRound l) 0 P ops Q' i K' a w:=by
 unfold qOp at hh;unfold wpOpIn;split
 ·rename_i ho;simp only[ho] at hh;exact h _ _ hC hh
 ·rename_i o ho;simp only[ho] at hh;split
  ·rename_i hw;simp only[hw,if_true] at hh;exact q4R (q61 hd ho) (Oper.wp_of_quiet hC h hh)
  ·rename_i hw;simp only[hw] at hh;exact⟨fun _ _=>trivial,h _ _ hC hh⟩
theorem q2d{md:Region.Mode}(hd:q5s ops=true){Q:Act->Prop}(hQ:∀a w,C w->Q a->Q' .normal a w):∀(fuel:Nat) (listed:Array Bool) (a:Act) (w:World),C w ->wpAnyQ P md ops C Q fuel listed a->wpAnyIn (Fence.wide.inRound l) 0 P md ops Q' fuel listed a w
 | 0,_,_,_,hw,h=>⟨h.1,hQ _ _ hw h.2⟩
 | fuel+1,_,_,_,hw,h=>⟨fun h0=>hQ _ _ hw (h.1 h0),fun i hi=>q5b hd hw (fun a' w' hw'=>q2d hd hQ fuel _ a' w' hw') (h.2 i hi)⟩
theorem q0V{id:Nat}{Q:Exit->Act->World->Prop}{ops:List Oper}(hm:P.follows .mixedOrders=true)(hB:Region.lexB .any ops.toArray=true)(hd:q5s ops.toArray=true)
  (h:wpQuiet P ops.toArray (fun w'=>∃n,w'=w.drewN n) (fun a'=>∀w',(∃n,w'=w.drewN n)->Q .normal a' w') ops a):(Code.region id ops.toArray true).wpIn (Fence.wide.inRound l) 0 P Q a w:=by
 simp only[Region.lexB,k0B] at hB;refine wpIn_region_any hm (q2d (C:=fun w'=>∃n,w'=w.drewN n) (Q:=fun a'=>∀w',(∃n,w'=w.drewN n)->Q .normal a' w') hd (fun _ w' hw' h=>h w' hw') _ _ _ _ ⟨1,rfl⟩ ?_);have:=wpAnyQ_lex (C:=fun w'=>∃n,w'=w.drewN n) (md:=.any) hB.1 ops 0 (Array.replicate ops.toArray.size false) a (by simp) (by simpa using hB.2) h
 simpa using this
end Str
end Go.Proofs.YtokgagenofjmgaaGreatDoor
