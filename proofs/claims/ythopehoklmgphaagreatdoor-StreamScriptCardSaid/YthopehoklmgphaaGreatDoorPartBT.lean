/- Lemmas. -/
import Derived.Test.YthopehoklmgphaaGreatDoorPartBS
import Derived.TacticsInMore
set_option linter.all false
namespace Go.Proofs.YthopehoklmgphaaGreatDoor
variable{g q n0:Nat}{B C:World}{t:TypeId}{cs:List Value}
namespace Str
open Go Go.RowKit R5 Scn Hx Rdx
theorem q3P(f:FuncId):Fence.wide.fn f=True:=rfl
theorem q24:Fence.wide.depth=none:=rfl
theorem q23:Fence.wide.round=none:=rfl
def RT(t:TypeId):Prop:=t=35\/t=58\/t=5
structure Kw(g:Nat)(W W':World):Prop where
 os:W'.os=W.os
 tape:W'.tape=W.tape
 output:W'.output=W.output
 size:W.heap.size<=W'.heap.size
 block:∀k,k<W.heap.size->W'.heap[k]?=W.heap[k]?\/(g<=k/\∃(cs:Array Value) (t:TypeId),W.heap[k]?=some (Obj.cells cs t (0,0))/\RT t)
theorem Kw.refl(g:Nat)(W:World):Kw g W W:=⟨rfl,rfl,rfl,lr,fun _ _=>.inl rfl⟩
theorem Kw.trans{A:World}(h:Kw g A B)(k:Kw g B C):Kw g A C:=⟨k.os.trans h.os,k.tape.trans h.tape,k.output.trans h.output,k06 h.size k.size,fun i hi=>by
  rcases h.block i hi with e|e
  ·rcases k.block i (k01 hi h.size) with e'|⟨hg,cs,t,ht,hT⟩
   ·exact .inl (e'.trans e)
   ·exact .inr ⟨hg,cs,t,by rw[<- e];exact ht,hT⟩
  ·exact .inr e⟩
theorem Kw.below{A:World}(h:Below A.heap.size A B):Kw g A B:=⟨h.os,h.tape,h.output,h.size,fun k hk=>.inl (h.block k hk)⟩
theorem Kw.grown{A:World}(h:A.grownBy B (some q))(hq:g<=q)(hb:Blk A q t cs)(ht:RT t):Kw g A B:=⟨h.os,h.tape,h.output,h.size,fun k hk=>by
  by_cases e:k=q
  ·subst e;exact .inr ⟨hq,_,t,hb,ht⟩
  ·exact .inl (h.block k hk (fun e'=>e (by injection e')))⟩
theorem Kw.low{A:World}(h:Kw g A B)(hg:g<=A.heap.size):Below g A B:=by
 refine⟨h.os,h.tape,h.output,h.size,fun k hk=>?_⟩;rcases h.block k (k01 hk hg) with e|⟨e,-⟩
 ·exact e
 ·omega
theorem Kw.blk{A:World}(h:Kw g A B)(hb:Blk A q t cs)(ht:¬RT t):Blk B q t cs:=by
 rcases h.block q hb.lt with e|⟨-,c,d,e,b⟩
 ·exact e.trans hb
 ·have a:=hb.symm.trans e;injection a with a;injection a with _ a;exact absurd (a ▸ b) ht
def KT(t:TypeId):Prop:=RT t\/t=26\/t=9\/t=70
structure Kb(n0:Nat)(W W':World):Prop where
 low:Below n0 W W'
 size:W.heap.size<=W'.heap.size
 block:∀(k:Nat) (cs:Array Value) (t:TypeId),W.heap[k]?=some (Obj.cells cs t (0,0))->KT t->W'.heap[k]?=W.heap[k]?
theorem Kb.trans{A:World}(h:Kb n0 A B)(k:Kb n0 B C):Kb n0 A C:=⟨h.low.trans k.low,k06 h.size k.size,fun i cs t hi ht=>(k.block i cs t ((h.block i cs t hi ht).trans hi) ht).trans (h.block i cs t hi ht)⟩
theorem Kb.blk{A:World}(h:Kb n0 A B)(hb:Blk A q t cs)(ht:KT t):Blk B q t cs:=(h.block q _ t hb ht).trans hb
end Str
end Go.Proofs.YthopehoklmgphaaGreatDoor
