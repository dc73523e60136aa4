/- Lemmas. -/
import Derived.Test.YtokgagenofjmgaaGreatDoorPartBO
import Derived.OwnWalkIn
import Derived.RangeFuncCalls
set_option linter.all false
open Go renaming World->qa,Value->qb
namespace Go.Proofs.YtokgagenofjmgaaGreatDoor
variable{P:Program}{o:Oper}{a:Act}{w:qa}{l:Nat}{K:Act->qa->Prop}{Q:Exit->Act->qa->Prop}{ops:Array Oper}{rest:List Oper}
namespace Str
open Go Go.RowKit R5 Scn Hx Rdx
theorem q4R(hd:∀c,o.op≠.defer c)(h:o.wp P a w K Q):o.wpIn (Fence.wide.inRound l) 0 P a w K Q:=by
 refine⟨fun _ _=>trivial,?_⟩;rw[show Oper.semAt (Fence.wide.inRound l).round a.eval o=execOp a.eval o from Oper.semAt_some l _ _ hd];unfold Oper.wp at h;revert h;generalize (execOp a.eval o).run P w=r;intro h;unfold Oper.upon at h;split at h
 ·exact h
 ·exact h
 ·exact h
 ·refine⟨(fun h=>by cases h),CallsIn.inRound l ((callsIn_wide.2 h).mono ?_)⟩;intro e b h;cases e<;>exact h
 ·exact⟨(fun h=>by cases h),fun c cs _=>let ⟨v,b,r,s⟩:=h c cs;⟨v,b,r,stepsIn_wide.2 s⟩⟩
 ·exact h
 ·exact h.elim
theorem q30(hg:o.guard=none)(hd:∀c,o.op≠.defer c)
  (h:o.wp P a w (wpListIn (Fence.wide.inRound l) 0 P ops Q rest) Q):wpListIn (Fence.wide.inRound l) 0 P ops Q (o::rest) a w:=by
 simp only[wpListIn,Region.wanted,hg,if_true];exact q4R hd h
theorem q0D(hgd:o.guard=none)(ty:TypeId)(x y:Operand)(ho:o.op=.store ty x y)
  (g:Nat) (cells:List qb) (hx:a.eval x=.pointer (some ⟨g,0,none⟩)) (hy:a.eval y=.agg cells.toArray)
  (t:TypeId) (old:List qb) (hg:Blk w g t old) (hi:(P.info? ty).map (·.size)=some cells.length)
  (hold:old.length=cells.length) (h1:cells.all (·.oneCell')=true)
  (h:∀w',Blk w' g t cells->w.grownBy w' (some g)->wpListIn (Fence.wide.inRound l) 0 P ops Q rest (a.put o.dst undef) w'):wpListIn (Fence.wide.inRound l) 0 P ops Q (o::rest) a w:=
 q30 hgd (by rw[ho];intro c e;cases e) (q0Y ty x y ho g cells hx hy t old hg hi hold h1 h)
theorem q2c(hgd:o.guard=none)(ty:TypeId)(x:Operand)(ho:o.op=.load ty x)
  (g:Nat) (hx:a.eval x=.pointer (some ⟨g,0,none⟩)) (t:TypeId) (cs:List qb) (d:TypeDesc) (hg:Blk w g t cs)
  (hu:P.underlying ty=some d) (hd:(match d with|.struct _|.array _ _=>true|_=>false)=true) (hi:(P.info? ty).map (·.size)=some cs.length)
  (h:wpListIn (Fence.wide.inRound l) 0 P ops Q rest (a.put o.dst (.agg cs.toArray)) w):wpListIn (Fence.wide.inRound l) 0 P ops Q (o::rest) a w:=
 q30 hgd (by rw[ho];intro c e;cases e) (wp_load_row ty x ho g hx t cs.toArray (0,0) d hg hu hd (by simpa using hi) h)
theorem q6k(h:o.wp P a w K Q):o.wpIn Fence.wide 0 P a w K Q:=by
 refine⟨fun _ _=>trivial,?_⟩;rw[show Oper.semAt Fence.wide.round a.eval o=execOp a.eval o from rfl];unfold Oper.wp at h;revert h;generalize (execOp a.eval o).run P w=r;intro h;unfold Oper.upon at h;split at h
 ·exact h
 ·exact h
 ·exact h
 ·refine⟨(fun h=>by cases h),(callsIn_wide.2 h).mono ?_⟩;intro e b h;cases e<;>exact h
 ·exact⟨(fun h=>by cases h),fun c cs _=>let ⟨v,b,r,s⟩:=h c cs;⟨v,b,r,stepsIn_wide.2 s⟩⟩
 ·exact h
 ·exact h.elim
theorem q2m(hg:o.guard=none)
  (h:o.wp P a w (wpListIn Fence.wide 0 P ops Q rest) Q):wpListIn Fence.wide 0 P ops Q (o::rest) a w:=by
 simp only[wpListIn,Region.wanted,hg,if_true];exact q6k h
theorem q3w(hgd:o.guard=none)(ty:TypeId)(x y:Operand)(ho:o.op=.store ty x y)
  (g:Nat) (cells:List qb) (hx:a.eval x=.pointer (some ⟨g,0,none⟩)) (hy:a.eval y=.agg cells.toArray)
  (t:TypeId) (old:List qb) (hg:Blk w g t old) (hi:(P.info? ty).map (·.size)=some cells.length)
  (hold:old.length=cells.length) (h1:cells.all (·.oneCell')=true)
  (h:∀w',Blk w' g t cells->w.grownBy w' (some g)->wpListIn Fence.wide 0 P ops Q rest (a.put o.dst undef) w'):wpListIn Fence.wide 0 P ops Q (o::rest) a w:=
 q2m hgd (q0Y ty x y ho g cells hx hy t old hg hi hold h1 h)
theorem q3Q(hgd:o.guard=none)(ty:TypeId)(x:Operand)(ho:o.op=.load ty x)
  (g:Nat) (hx:a.eval x=.pointer (some ⟨g,0,none⟩)) (t:TypeId) (cs:List qb) (d:TypeDesc) (hg:Blk w g t cs)
  (hu:P.underlying ty=some d) (hd:(match d with|.struct _|.array _ _=>true|_=>false)=true) (hi:(P.info? ty).map (·.size)=some cs.length)
  (h:wpListIn Fence.wide 0 P ops Q rest (a.put o.dst (.agg cs.toArray)) w):wpListIn Fence.wide 0 P ops Q (o::rest) a w:=
 q2m hgd (wp_load_row ty x ho g hx t cs.toArray (0,0) d hg hu hd (by simpa using hi) h)
theorem q3P(hgd:o.guard=none)(ty:TypeId)(x:Operand)(ho:o.op=.load ty x)
  (b off:Nat) (hx:a.eval x=.pointer (some ⟨b,off,none⟩)) (cs:List qb) (d:TypeDesc) (hc:w.rangeAt b off cs)
  (hu:P.underlying ty=some d) (hd:d.isRow=true) (hi:(P.info? ty).map (·.size)=some cs.length)
  (h:wpListIn Fence.wide 0 P ops Q rest (a.put o.dst (.agg cs.toArray)) w):wpListIn Fence.wide 0 P ops Q (o::rest) a w:=
 q2m hgd (wp_load_mid ty x ho b off hx cs d hc hu hd hi h)
end Str
end Go.Proofs.YtokgagenofjmgaaGreatDoor
