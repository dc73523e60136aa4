/- Lemmas. -/
import Derived.Test.YtcdimmblnbkjjaaGreatDoorPartBL
import Derived.OwnWalkIn
import Derived.RangeFuncCalls
set_option linter.all false
namespace Go.Proofs.YtcdimmblnbkjjaaGreatDoor.Str
open Go Go.RowKit R5 Scn Hx Rdx
theorem q5K{P:Program}{o:Oper}{a:Act}{w:World}{l:Nat}{K:Act->World->Prop}{Q:Exit->Act->World->Prop}(hd:∀c,o.op≠.defer c)(h:o.wp P a w K Q):o.wpIn (Fence.wide.inRound l) 0 P a w K Q:=by
 refine⟨fun _ _=>trivial,?_⟩;rw[show Oper.semAt (Fence.wide.inRound l).round a.eval o=execOp a.eval o from Oper.semAt_some l _ _ hd];unfold Oper.wp at h
 revert h
 generalize (execOp a.eval o).run P w=r;intro h;unfold Oper.upon at h;split at h
 ·exact h
 ·exact h
 ·exact h
 ·refine⟨(fun h=>by cases h),CallsIn.inRound l ((callsIn_wide.2 h).mono ?_)⟩;intro e w' h;cases e<;>exact h
 ·exact⟨(fun h=>by cases h),fun c cs _=>let ⟨v,w',r,s⟩:=h c cs;⟨v,w',r,stepsIn_wide.2 s⟩⟩
 ·exact h
 ·exact h.elim
theorem q22{P:Program}{ops:Array Oper}{rest:List Oper}{o:Oper}{a:Act}{w:World}{l:Nat}{Q:Exit->Act->World->Prop}(hg:o.guard=none)(hd:∀c,o.op≠.defer c)
  (h:o.wp P a w (wpListIn (Fence.wide.inRound l) 0 P ops Q rest) Q):wpListIn (Fence.wide.inRound l) 0 P ops Q (o::rest) a w:=by
 simp only[wpListIn,Region.wanted,hg,if_true];exact q5K hd h
theorem q1g{P:Program}{ops:Array Oper}{rest:List Oper}{o:Oper}{a:Act}{w:World}{l:Nat}{Q:Exit->Act->World->Prop}(hgd:o.guard=none)(ty:TypeId)(x y:Operand)(ho:o.op=.store ty x y)
  (g:Nat) (cells:List Value) (hx:a.eval x=.pointer (some ⟨g,0,none⟩)) (hy:a.eval y=.agg cells.toArray)
  (t:TypeId) (old:List Value) (hg:Blk w g t old) (hi:(P.info? ty).map (·.size)=some cells.length)
  (hold:old.length=cells.length) (h1:cells.all (·.oneCell')=true)
  (h:∀w',Blk w' g t cells->w.grownBy w' (some g)->wpListIn (Fence.wide.inRound l) 0 P ops Q rest (a.put o.dst undef) w'):wpListIn (Fence.wide.inRound l) 0 P ops Q (o::rest) a w:=
 q22 hgd (by rw[ho];intro c e;cases e) (q0O ty x y ho g cells hx hy t old hg hi hold h1 h)
theorem q1q{P:Program}{ops:Array Oper}{rest:List Oper}{o:Oper}{a:Act}{w:World}{l:Nat}{Q:Exit->Act->World->Prop}(hgd:o.guard=none)(ty:TypeId)(x:Operand)(ho:o.op=.load ty x)
  (g:Nat) (hx:a.eval x=.pointer (some ⟨g,0,none⟩)) (t:TypeId) (cs:List Value) (d:TypeDesc) (hg:Blk w g t cs)
  (hu:P.underlying ty=some d) (hd:(match d with|.struct _|.array _ _=>true|_=>false)=true) (hi:(P.info? ty).map (·.size)=some cs.length)
  (h:wpListIn (Fence.wide.inRound l) 0 P ops Q rest (a.put o.dst (.agg cs.toArray)) w):wpListIn (Fence.wide.inRound l) 0 P ops Q (o::rest) a w:=
 q22 hgd (by rw[ho];intro c e;cases e) (wp_load_row ty x ho g hx t cs.toArray (0,0) d hg hu hd (by simpa using hi) h)
theorem q4K{P:Program}{o:Oper}{a:Act}{w:World}{K:Act->World->Prop}{Q:Exit->Act->World->Prop}(h:o.wp P a w K Q):o.wpIn Fence.wide 0 P a w K Q:=by
 refine⟨fun _ _=>trivial,?_⟩;rw[show Oper.semAt Fence.wide.round a.eval o=execOp a.eval o from rfl];unfold Oper.wp at h
 revert h
 generalize (execOp a.eval o).run P w=r;intro h;unfold Oper.upon at h;split at h
 ·exact h
 ·exact h
 ·exact h
 ·refine⟨(fun h=>by cases h),(callsIn_wide.2 h).mono ?_⟩;intro e w' h;cases e<;>exact h
 ·exact⟨(fun h=>by cases h),fun c cs _=>let ⟨v,w',r,s⟩:=h c cs;⟨v,w',r,stepsIn_wide.2 s⟩⟩
 ·exact h
 ·exact h.elim
theorem q1v{P:Program}{ops:Array Oper}{rest:List Oper}{o:Oper}{a:Act}{w:World}{Q:Exit->Act->World->Prop}(hg:o.guard=none)
  (h:o.wp P a w (wpListIn Fence.wide 0 P ops Q rest) Q):wpListIn Fence.wide 0 P ops Q (o::rest) a w:=by
 simp only[wpListIn,Region.wanted,hg,if_true];exact q4K h
theorem q2t{P:Program}{ops:Array Oper}{rest:List Oper}{o:Oper}{a:Act}{w:World}{Q:Exit->Act->World->Prop}(hgd:o.guard=none)(ty:TypeId)(x y:Operand)(ho:o.op=.store ty x y)
  (g:Nat) (cells:List Value) (hx:a.eval x=.pointer (some ⟨g,0,none⟩)) (hy:a.eval y=.agg cells.toArray)
  (t:TypeId) (old:List Value) (hg:Blk w g t old) (hi:(P.info? ty).map (·.size)=some cells.length)
  (hold:old.length=cells.length) (h1:cells.all (·.oneCell')=true)
  (h:∀w',Blk w' g t cells->w.grownBy w' (some g)->wpListIn Fence.wide 0 P ops Q rest (a.put o.dst undef) w'):wpListIn Fence.wide 0 P ops Q (o::rest) a w:=
 q1v hgd (q0O ty x y ho g cells hx hy t old hg hi hold h1 h)
theorem q2M{P:Program}{ops:Array Oper}{rest:List Oper}{o:Oper}{a:Act}{w:World}{Q:Exit->Act->World->Prop}(hgd:o.guard=none)(ty:TypeId)(x:Operand)(ho:o.op=.load ty x)
  (g:Nat) (hx:a.eval x=.pointer (some ⟨g,0,none⟩)) (t:TypeId) (cs:List Value) (d:TypeDesc) (hg:Blk w g t cs)
  (hu:P.underlying ty=some d) (hd:(match d with|.struct _|.array _ _=>true|_=>false)=true) (hi:(P.info? ty).map (·.size)=some cs.length)
  (h:wpListIn Fence.wide 0 P ops Q rest (a.put o.dst (.agg cs.toArray)) w):wpListIn Fence.wide 0 P ops Q (o::rest) a w:=
 q1v hgd (wp_load_row ty x ho g hx t cs.toArray (0,0) d hg hu hd (by simpa using hi) h)
theorem q2L{P:Program}{ops:Array Oper}{rest:List Oper}{o:Oper}{a:Act}{w:World}{Q:Exit->Act->World->Prop}(hgd:o.guard=none)(ty:TypeId)(x:Operand)(ho:o.op=.load ty x)
  (b off:Nat) (hx:a.eval x=.pointer (some ⟨b,off,none⟩)) (cs:List Value) (d:TypeDesc) (hc:w.rangeAt b off cs)
  (hu:P.underlying ty=some d) (hd:d.isRow=true) (hi:(P.info? ty).map (·.size)=some cs.length)
  (h:wpListIn Fence.wide 0 P ops Q rest (a.put o.dst (.agg cs.toArray)) w):wpListIn Fence.wide 0 P ops Q (o::rest) a w:=
 q1v hgd (wp_load_mid ty x ho b off hx cs d hc hu hd hi h)
end Go.Proofs.YtcdimmblnbkjjaaGreatDoor.Str
