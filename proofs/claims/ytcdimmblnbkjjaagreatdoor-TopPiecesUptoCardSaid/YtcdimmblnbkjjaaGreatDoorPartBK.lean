/- Lemmas. -/
import Derived.Test.YtcdimmblnbkjjaaGreatDoorPartBJ
import Derived.TacticsInMore
set_option linter.all false
namespace Go.Proofs.YtcdimmblnbkjjaaGreatDoor.Str
open Go Go.RowKit R5 Scn Hx Rdx
theorem q2Z(f:FuncId):Fence.wide.fn f=True:=rfl
theorem q1t:Fence.wide.depth=none:=rfl
theorem q1s:Fence.wide.round=none:=rfl
def RT(t:TypeId):Prop:=t=80\/t=87\/t=5
structure Kw(g:Nat)(W W':World):Prop where
 os:W'.os=W.os
 tape:W'.tape=W.tape
 output:W'.output=W.output
 size:W.heap.size<=W'.heap.size
 block:∀k,k<W.heap.size->W'.heap[k]?=W.heap[k]?\/(g<=k/\∃(cs:Array Value) (t:TypeId),W.heap[k]?=some (Obj.cells cs t (0,0))/\RT t)
theorem Kw.trans{g:Nat}{A B C:World}(h:Kw g A B)(k:Kw g B C):Kw g A C:=
 ⟨k.os.trans h.os,k.tape.trans h.tape,k.output.trans h.output,Nat.le_trans h.size k.size,fun i hi=>by
  rcases h.block i hi with e|e
  ·rcases k.block i (Nat.lt_of_lt_of_le hi h.size) with e'|⟨hg,cs,t,ht,hT⟩
   ·exact .inl (e'.trans e)
   ·exact .inr ⟨hg,cs,t,by rw[<- e];exact ht,hT⟩
  ·exact .inr e⟩
theorem Kw.below{g:Nat}{A B:World}(h:Below A.heap.size A B):Kw g A B:=⟨h.os,h.tape,h.output,h.size,fun k hk=>.inl (h.block k hk)⟩
theorem Kw.grown{g q:Nat}{A B:World}{t:TypeId}{cs:List Value}(h:A.grownBy B (some q))(hq:g<=q)(hb:Blk A q t cs)(ht:RT t):Kw g A B:=
 ⟨h.os,h.tape,h.output,h.size,fun k hk=>by
  by_cases e:k=q
  ·subst e;exact .inr ⟨hq,_,t,hb,ht⟩
  ·exact .inl (h.block k hk (fun e'=>e (by injection e')))⟩
theorem Kw.low{g:Nat}{A B:World}(h:Kw g A B)(hg:g<=A.heap.size):Below g A B:=by
 refine⟨h.os,h.tape,h.output,h.size,fun k hk=>?_⟩;rcases h.block k (Nat.lt_of_lt_of_le hk hg) with e|⟨e,-⟩
 ·exact e
 ·omega
theorem Kw.blk{g q:Nat}{A B:World}{t:TypeId}{cs:List Value}(h:Kw g A B)(hb:Blk A q t cs)(ht:¬RT t):Blk B q t cs:=by
 rcases h.block q hb.lt with e|⟨-,cs',t',e,hT⟩
 ·exact e.trans hb
 ·have e2:=hb.symm.trans e
  injection e2 with e2
  injection e2 with _ e2
  exact absurd (e2 ▸ hT) ht
def KT(t:TypeId):Prop:=RT t\/t=50\/t=9\/t=76
structure Kb(n0:Nat)(W W':World):Prop where
 low:Below n0 W W'
 size:W.heap.size<=W'.heap.size
 block:∀(k:Nat) (cs:Array Value) (t:TypeId),W.heap[k]?=some (Obj.cells cs t (0,0))->KT t->W'.heap[k]?=W.heap[k]?
theorem Kb.trans{n0:Nat}{A B C:World}(h:Kb n0 A B)(k:Kb n0 B C):Kb n0 A C:=
 ⟨h.low.trans k.low,Nat.le_trans h.size k.size,fun i cs t hi ht=>(k.block i cs t ((h.block i cs t hi ht).trans hi) ht).trans (h.block i cs t hi ht)⟩
theorem Kb.blk{n0 q:Nat}{A B:World}{t:TypeId}{cs:List Value}(h:Kb n0 A B)(hb:Blk A q t cs)(ht:KT t):Blk B q t cs:=(h.block q _ t hb ht).trans hb
end Go.Proofs.YtcdimmblnbkjjaaGreatDoor.Str
