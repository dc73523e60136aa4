/- Lemmas. -/
import Derived.Test.YthopehoklmgphaaGreatDoorPartAG
import Derived.Deep.MidRow
set_option linter.all false
namespace Go.Proofs.YthopehoklmgphaaGreatDoor
variable{w:World}{lo n k q c:Nat}{e:TypeId}{xs:List Value}
namespace Str
open Go Go.RowKit
theorem q42{w':World}{v:Value}(h:w.ownsRow lo e k v n xs)
  (hq:∀q cur,v.ownBlock=some q->w.heap[q]?=some (.cells cur e (0,0))->∃cur',w'.heap[q]?=some (.cells cur' e (0,0))/\cur'.size=cur.size):∃ys,w'.ownsRow lo e k v n ys:=by
 rcases h.2 with ⟨rfl,rfl⟩|⟨q,cap,cur,rfl,d,f,a,g,b,j⟩
 ·exact⟨[],by simp,.inl ⟨rfl,rfl⟩⟩
 ·obtain⟨cur',i,c⟩:=hq q cur rfl f;refine⟨cur'.toList.take (n*k),?_,.inr ⟨q,cap,cur',rfl,d,i,a,g,c.trans b,rfl⟩⟩;rw[k0l,k2s,c,b];exact k0K (k0r _ a)
theorem q9m{i:Nat}{cur:Array Value}(h:w.heap[q]?=some (.cells cur e (0,0)))(u:Value):∃cur',(w.setCell ⟨q,i,none⟩ u).heap[q]?=some (.cells cur' e (0,0))/\cur'.size=cur.size:=⟨cur.setIfInBounds i u,by simp [World.setCell,k1S,h],by simp⟩
theorem q3W:∀(vs:List Value) (o:Nat) (w:World) (cur:Array Value),w.heap[q]?=some (.cells cur e (0,0)) ->w.grownBy (w.setCells q o vs) (some q)/\∃cur',(w.setCells q o vs).heap[q]?=some (.cells cur' e (0,0))/\cur'.size=cur.size
 | [],o,w,cur,h=>⟨World.grownBy.refl _ _,cur,h,rfl⟩
 | v::r,o,w,cur,h=>by obtain⟨c1,h1,h2⟩:=q9m (i:=o) h v;obtain⟨k1,c2,k2,k3⟩:=q3W r (o+1) (w.setCell ⟨q,o,none⟩ v) c1 h1;exact⟨q00 (q09 (World.grownBy.refl w (some q)) (p:=⟨q,o,none⟩) (.inl rfl) v) k1,c2,k2,k3.trans h2⟩
theorem q5P(h:w.ownsRow lo e k (.slice (some ⟨q,0,none⟩) n c) n xs)(i:Nat)(hi:i<n):w.there q (i*k) k:=by
 rcases h.2 with ⟨h,-⟩|⟨l,cap,d,a,m,b,o,p,g,r⟩
 ·cases h
 ·injection a with a _ _;injection a with a;injection a with a;subst a;intro j s;have f:i*k+j<d.size:=by rw[g];have:(i+1)*k<=cap*k:=k0r _ (by omega);rw[k0U] at this;omega
  refine⟨?_,?_⟩
  ·simp only[World.cell?,b];simp [f]
  ·simp only[World.frozen?,b];simp
theorem q5d(h:w.ownsRow lo e k (.slice (some ⟨q,0,none⟩) n c) n xs)(o:Nat)(vs:List Value):(∃ys,(w.setCells q o vs).ownsRow lo e k (.slice (some ⟨q,0,none⟩) n c) n ys)/\w.grownBy (w.setCells q o vs) (some q):=by
 rcases h.2 with ⟨h,-⟩|⟨g,cap,b,a,i,d,-⟩
 ·cases h
 ·injection a with a _ _;injection a with a;injection a with a;subst a;obtain⟨f,j⟩:=q3W vs o w b d;exact⟨q42 h fun q b hq hc=>by cases hq;exact(q3W vs o w b hc).2,f⟩
end Str
end Go.Proofs.YthopehoklmgphaaGreatDoor
