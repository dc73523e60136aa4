/- Lemmas. -/
import Derived.Test.YtabcgemembkkcaaGreatDoorDigsBF
import Derived.Laws.AppendOwnNone
set_option linter.all false
namespace Go.Proofs.YtabcgemembkkcaaGreatDoor
section
open Go Go.RowKit
theorem q1A{P:Program}{w:World}{ops:Array Oper}{rest:List Oper}{o:Oper}{a:Act}{Q:Exit->Act->World->Prop}(hgd:o.guard=none)(s x:Operand)(t:TypeId)
  (ho:o.op=.call {callee:=.builtin .append,args:=#[s,x],argTypes:=#[t,t]})
  (base base2:Nat) (e:TypeId) (i:TypeInfo) (z:Value) (bytes:Nat) (ht:P.underlying t=some (.slice e)) (hi:P.info? e=some i) (hz:i.zero=some z)
  (hsize:i.size=1) (hby:i.bytes=bytes) (hzs:z.cells.size=1)
  (v:Value) (n:Nat) (xs:List Value) (hs:a.eval s=v) (hown:w.ownsRow base e 1 v n xs)
  (v2:Value) (m:Nat) (news:List Value) (hx:a.eval x=v2) (hown2:w.ownsRow base2 e 1 v2 m news) (h1:∀u∈news,u.oneCell'=true)
  (h63:n+m<=maxLen) (hbytes:(n+m)*bytes<=140737488355328) (hbase:base<=w.heap.size)
  (h:∀v' w',w'.ownsRow base e 1 v' (n+m) (xs++news)->w.grownBy w' v.ownBlock->wpList P ops Q rest (a.put o.dst v') w'):wpList P ops Q (o::rest) a w:=by
 obtain⟨b,c⟩:=hown2;rcases c with ⟨rfl,rfl⟩|⟨g,cap,q,rfl,y,k,c,C,r,d⟩
 ·have l:news=[]:=k1G (by simpa using b);subst l;exact wpList_append_own_none hgd s x t ho base e i 1 ht hi _ n xs hs hown hx (h _ _ (by simpa using hown) (World.grownBy.refl _ _))
 ·refine wpList_append_own w hgd s x t ho base e i z 1 bytes ht hi hz hsize hby hzs (by decide) v n xs hs hown ⟨g,0,none⟩ m cap news hx b (fun j u hj=>?_) h1 h63 hbytes hbase (fun v' w' h2 h3 _=>h v' w' h2 h3);have f:j<m*1:=by have:=(List.getElem?_eq_some_iff.1 hj).1;omega
  rw[<- d,k1d,k0p f] at hj;have p:Addr.add ⟨g,0,none⟩ j=⟨g,j,none⟩:=by cases j with|zero=>rfl|succ j=>simp [Addr.add]
  rw[p,<- hj];simp only[World.cell?,k];simp
end
namespace Scn
open Go Go.RowKit
theorem qbw.len{b:Nat}{L:List Nat}{u:St}{w:World}{v:Value}{w':World}(h:w'.ownsRow w.heap.size 5 1 v L.length (u8s L)):∃A cap,v=.slice A L.length cap:=q4f h
def qdf(b:Nat)(L:List Nat)(k:Nat)(u:St)(w:World)(e:Ending)(w':World):Prop:=
 ∃v,e=.returned (.tuple #[v,.int .i64 (k:Int)])/\w'.ownsRow w.heap.size 5 1 v L.length (u8s L)/\ScAt w' b u/\w.grownBy w' (some b)/\L.length<=131072/\k<=65536/\∀d∈L,d<16
end Scn
end Go.Proofs.YtabcgemembkkcaaGreatDoor
