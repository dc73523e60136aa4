/- Lemmas. -/
import Derived.Test.YthopehoklmgphaaGreatDoorPartBT
import Derived.RangeFuncBox
set_option linter.all false
open Go renaming World->qa,Value->qc
open Option renaming some->qb
namespace Go.Proofs.YthopehoklmgphaaGreatDoor
variable{M N:Nat->Prop}{C w:qa}{q n k g mode a:Nat}{t:TypeId}{cs:List qc}{o:Obj}{T:Option Addr}{tk:Option (List Nat × Nat)}{E F:Int}{seps:ByteArray}
namespace Str
open Go Go.RowKit R5 Scn Hx Rdx
structure Kq(M:Nat->Prop)(W W':qa):Prop where
 os:W'.os=W.os
 tape:W'.tape=W.tape
 output:W'.output=W.output
 size:W.heap.size<=W'.heap.size
 block:∀k,k<W.heap.size->W'.heap[k]?=W.heap[k]?\/(M k/\∃(cs:Array qc) (t:TypeId),W.heap[k]?=qb (Obj.cells cs t (0,0))/\RT t)
theorem Kq.trans{A B:qa}(h:Kq M A B)(k:Kq M B C):Kq M A C:=⟨k.os.trans h.os,k.tape.trans h.tape,k.output.trans h.output,k06 h.size k.size,fun i hi=>by
  rcases h.block i hi with e|e
  ·rcases k.block i (k01 hi h.size) with e'|⟨hg,cs,t,ht,hT⟩
   ·exact .inl (e'.trans e)
   ·exact .inr ⟨hg,cs,t,by rw[<- e];exact ht,hT⟩
  ·exact .inr e⟩
theorem Kq.below{A B:qa}(h:Below A.heap.size A B):Kq M A B:=⟨h.os,h.tape,h.output,h.size,fun k hk=>.inl (h.block k hk)⟩
theorem Kq.grown{A B:qa}(h:A.grownBy B (qb q))(hq:M q)(hb:Blk A q t cs)(ht:RT t):Kq M A B:=⟨h.os,h.tape,h.output,h.size,fun k hk=>by
  by_cases e:k=q
  ·subst e;exact .inr ⟨hq,_,t,hb,ht⟩
  ·exact .inl (h.block k hk (fun e'=>e (by injection e')))⟩
theorem Kq.low{A B:qa}(h:Kq M A B)(hM:∀k,M k->n<=k)(hn:n<=A.heap.size):Below n A B:=by
 refine⟨h.os,h.tape,h.output,h.size,fun k hk=>?_⟩;rcases h.block k (k01 hk hn) with e|⟨e,-⟩
 ·exact e
 ·have:=hM k e;omega
theorem Kq.keep{A B:qa}(h:Kq M A B)(hk:k<A.heap.size)(hM:¬M k):B.heap[k]?=A.heap[k]?:=by
 rcases h.block k hk with e|⟨e,-⟩
 ·exact e
 ·exact absurd e hM
theorem Kq.mono{A B:qa}(h:Kq M A B)(hM:∀k,M k->N k):Kq N A B:=⟨h.os,h.tape,h.output,h.size,fun k hk=>(h.block k hk).imp id fun⟨a,b⟩=>⟨hM k a,b⟩⟩
theorem Kq.blk{A B:qa}(h:Kq M A B)(hb:Blk A q t cs)(ht:¬RT t):Blk B q t cs:=by
 rcases h.block q hb.lt with e|⟨-,c,d,e,b⟩
 ·exact e.trans hb
 ·have a:=hb.symm.trans e;injection a with a;injection a with _ a;exact absurd (a ▸ b) ht
theorem Kq.row{base:Nat}{A B:qa}{e:TypeId}{v:qc}{xs:List qc}(h:Kq M A B)(hr:A.ownsRow base e k v n xs)(he:¬RT e):B.ownsRow base e k v n xs:=by
 refine⟨hr.1,hr.2.imp id ?_⟩;rintro⟨q,cap,c,d,f,b,g⟩;refine⟨q,cap,c,d,f,?_,g⟩;rcases h.block q (k09.1 b).1 with a|⟨-,j,t,a,i⟩
 ·exact a.trans b
 ·rw[b] at a;injection a with a;injection a with _ a;exact absurd (a ▸ i) he
theorem Kq.non{A B:qa}(h:Kq M A B)(hk:A.heap[k]?=qb o)(ho:o.isCells=false):B.heap[k]?=qb o:=by
 rcases h.block k (k09.1 hk).1 with e|⟨-,a,t,e,-⟩
 ·exact e.trans hk
 ·rw[hk] at e;cases e;cases ho
theorem Kq.far{A B:qa}(h:Kq M A B)(hb:Below A.heap.size B C):Kq M A C:=⟨hb.os.trans h.os,hb.tape.trans h.tape,hb.output.trans h.output,k06 h.size hb.size,fun k hk=>by rw[hb.block k hk];exact h.block k hk⟩
def TkQ(w:qa)(M:Nat->Prop)(T:Option Addr):Option (List Nat × Nat)->Prop
 | none=>T=none
 | some (L,first)=>∃b v,T=qb ⟨b,0,none⟩/\M b/\Blk w b 58 [v,.int .i64 (first:Int)]/\w.ownsRow 0 5 1 v L.length (u8s L)/\(∀q,v.ownBlock=qb q->M q)/\0<L.length/\∀x∈L,x<256
theorem TkQ.at_(h:TkQ w M T tk):q9S w 0 T tk:=by
 match tk,h with
 | none,h=>exact h
 | some (L,f),⟨b,v,h1,_,h3,h4,_,h5,h6⟩=>exact⟨b,v,h1,k0d _,h3,h4,h5,h6⟩
theorem TkQ.blocks{A B:qa}(h:TkQ A M T tk)(hN:∀k,k<A.heap.size->M k->N k)
  (hb:∀(k:Nat) (cs:Array qc) (t:TypeId),M k->RT t->A.heap[k]?=qb (.cells cs t (0,0))->B.heap[k]?=qb (.cells cs t (0,0))):TkQ B N T tk:=by
 match tk,h with
 | none,h=>exact h
 | some (L,f),⟨b,v,h1,h2,h3,h4,h7,h5,h6⟩ =>refine⟨b,v,h1,hN _ h3.lt h2,hb _ _ _ h2 (.inr (.inl rfl)) h3,⟨h4.1,h4.2.imp id ?_⟩,fun q hq=>hN q (h4.lt q hq).2 (h7 q hq),h5,h6⟩;rintro⟨q,cap,c,a,d,e,g⟩;exact⟨q,cap,c,a,d,hb _ _ _ (h7 q (by rw[a];rfl)) (.inr (.inr rfl)) e,g⟩
structure RdQ(w:qa)(M:Nat->Prop)(g:Nat)(E F:Int)(mode:Nat)(seps:ByteArray)(a:Nat)(tk:Option Tk):Prop where
 blk:∃T,Blk w g 35 (q3q E F mode seps a T false true)/\TkQ w M T tk
 own:M g
 ok:∀t,tk=qb t->qe1 seps a t
theorem RdQ.blocks{A B:qa}{tk:Option Tk}(h:RdQ A M g E F mode seps a tk)(hN:∀k,k<A.heap.size->M k->N k)
  (hb:∀(k:Nat) (cs:Array qc) (t:TypeId),M k->RT t->A.heap[k]?=qb (.cells cs t (0,0))->B.heap[k]?=qb (.cells cs t (0,0))):RdQ B N g E F mode seps a tk:=by
 obtain⟨⟨T,b,d⟩,c,e⟩:=h;exact⟨⟨T,hb _ _ _ c (.inl rfl) b,d.blocks hN hb⟩,hN _ b.lt c,e⟩
theorem RdQ.mono{A:qa}{tk:Option Tk}(h:RdQ A M g E F mode seps a tk)(hN:∀k,k<A.heap.size->M k->N k):RdQ A N g E F mode seps a tk:=h.blocks hN fun _ _ _ _ _ h=>h
theorem RdQ.below{A B:qa}{tk:Option Tk}(h:RdQ A M g E F mode seps a tk)(hb:Below A.heap.size A B):RdQ B M g E F mode seps a tk:=h.blocks (fun _ _ h=>h) fun k _ _ _ _ hk=>(hb.block k (k09.1 hk).1).trans hk
theorem RdQ.keep{A B:qa}{tk:Option Tk}(h:RdQ A N g E F mode seps a tk)(hk:Kq M A B)(hd:∀k,k<A.heap.size->N k->¬M k):RdQ B N g E F mode seps a tk:=h.blocks (fun _ _ h=>h) fun k _ _ hN _ e=>(hk.keep (k09.1 e).1 (hd k (k09.1 e).1 hN)).trans e
theorem RdQ.put{A:qa}{l:Nat}{tk:Option Tk}(o':Obj)(h:RdQ A M g E F mode seps a tk)(hl:A.heap[l]?=qb o)(ho:o.isCells=false):RdQ (A.putObj l o') M g E F mode seps a tk:=h.blocks (fun _ _ h=>h) fun k cs t _ _ hk=>(World.putObj_heap_other (by rintro rfl;rw[hl] at hk;cases hk;cases ho)).trans hk
theorem q3z{P:Program}{o:Oper}{a:Act}{K:Act->qa->Prop}{Q:Exit->Act->qa->Prop}(s x:Operand)(t:TypeId)
  (ho:o.op=.call {callee:=.builtin .append,args:=#[s,x],argTypes:=#[t,t]})
  (base:Nat) (e:TypeId) (i:TypeInfo) (z:qc) (size bytes:Nat) (ht:P.underlying t=qb (.slice e)) (hi:P.info? e=qb i) (hz:i.zero=qb z)
  (hsize:i.size=size) (hby:i.bytes=bytes) (hzs:z.cells.size=size) (hsz:0<size)
  (v:qc) (n:Nat) (xs:List qc) (hs:a.eval s=v) (hown:w.ownsRow base e size v n xs)
  (ad:Addr) (m c:Nat) (news:List qc) (hx:a.eval x=.slice (qb ad) m c) (hl:news.length=m*size) (hnews:∀j u,news[j]?=qb u->w.cell? (ad.add j)=qb u) (h1:∀u∈news,u.oneCell'=true)
  (h63:n+m<=maxLen) (hbytes:(n+m)*bytes<=140737488355328) (hbase:base<=w.heap.size)
  (h:∀v' w',w'.ownsRow base e size v' (n+m) (xs++news)->w.grownBy w' v.ownBlock->(v'.ownBlock=v.ownBlock\/v'.ownBlock=qb w.heap.size)->K (a.put o.dst v') w'):o.wp P a w K Q:=by
 obtain⟨v',w',b,d,f,-,g⟩:=run_append_own_at (P:=P) w base t o.type e i z size bytes ht hi hz hsize hby hzs hsz v n xs hown ad m c news hl hnews h1 h63 hbytes hbase;unfold Oper.wp execOp;simp only[ho,resolve,invoke,builtin,Sem.run_bind,Sem.run_pure,Result.andThen_ok,List.map_toArray,List.map_cons,List.map_nil,hs,hx,b];exact h v' w' d f g
end Str
end Go.Proofs.YthopehoklmgphaaGreatDoor
