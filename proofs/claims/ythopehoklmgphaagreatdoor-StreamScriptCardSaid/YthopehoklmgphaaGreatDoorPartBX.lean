/- Lemmas. -/
import Derived.Test.YthopehoklmgphaaGreatDoorPartBV
import Derived.OwnWalkIn
import Derived.RangeFuncCalls
set_option linter.all false
namespace Go.Proofs.YthopehoklmgphaaGreatDoor
variable{P:Program}{o:Oper}{a:Act}{w:World}{l:Nat}{Q:Exit->Act->World->Prop}{ops:Array Oper}{rest:List Oper}
namespace Str
open Go Go.RowKit R5 Scn Hx Rdx
theorem q7w{K:Act->World->Prop}(hd:∀c,o.op≠.defer c)(h:o.wp P a w K Q):o.wpIn (Fence.wide.inRound l) 0 P a w K Q:=by
 refine⟨fun _ _=>trivial,?_⟩;rw[show Oper.semAt (Fence.wide.inRound l).round a.eval o=execOp a.eval o from Oper.semAt_some l _ _ hd];unfold Oper.wp at h;revert h;generalize (execOp a.eval o).run P w=r;intro h;unfold Oper.upon at h;split at h
 ·exact h
 ·exact h
 ·exact h
 ·refine⟨(fun h=>by cases h),CallsIn.inRound l ((callsIn_wide.2 h).mono ?_)⟩;intro e b h;cases e<;>exact h
 ·exact⟨(fun h=>by cases h),fun c cs _=>let ⟨v,b,r,s⟩:=h c cs;⟨v,b,r,stepsIn_wide.2 s⟩⟩
 ·exact h
 ·exact h.elim
theorem q2N(hg:o.guard=none)(hd:∀c,o.op≠.defer c)
  (h:o.wp P a w (wpListIn (Fence.wide.inRound l) 0 P ops Q rest) Q):wpListIn (Fence.wide.inRound l) 0 P ops Q (o::rest) a w:=by
 simp only[wpListIn,Region.wanted,hg,if_true];exact q7w hd h
theorem q32(hgd:o.guard=none)(ty:TypeId)(x y:Operand)(ho:o.op=.store ty x y)
  (g:Nat) (cells:List Value) (hx:a.eval x=.pointer (some ⟨g,0,none⟩)) (hy:a.eval y=.agg cells.toArray)
  (t:TypeId) (old:List Value) (hg:Blk w g t old) (hi:(P.info? ty).map (·.size)=some cells.length)
  (hold:old.length=cells.length) (h1:cells.all (·.oneCell')=true)
  (h:∀w',Blk w' g t cells->w.grownBy w' (some g)->wpListIn (Fence.wide.inRound l) 0 P ops Q rest (a.put o.dst undef) w'):wpListIn (Fence.wide.inRound l) 0 P ops Q (o::rest) a w:=
 q2N hgd (by rw[ho];intro c e;cases e) (q16 ty x y ho g cells hx hy t old hg hi hold h1 h)
theorem q3j(hgd:o.guard=none)(ty:TypeId)(x:Operand)(ho:o.op=.load ty x)
  (g:Nat) (hx:a.eval x=.pointer (some ⟨g,0,none⟩)) (t:TypeId) (cs:List Value) (d:TypeDesc) (hg:Blk w g t cs)
  (hu:P.underlying ty=some d) (hd:(match d with|.struct _|.array _ _=>true|_=>false)=true) (hi:(P.info? ty).map (·.size)=some cs.length)
  (h:wpListIn (Fence.wide.inRound l) 0 P ops Q rest (a.put o.dst (.agg cs.toArray)) w):wpListIn (Fence.wide.inRound l) 0 P ops Q (o::rest) a w:=
 q2N hgd (by rw[ho];intro c e;cases e) (wp_load_row ty x ho g hx t cs.toArray (0,0) d hg hu hd (by simpa using hi) h)
end Str
end Go.Proofs.YthopehoklmgphaaGreatDoor
