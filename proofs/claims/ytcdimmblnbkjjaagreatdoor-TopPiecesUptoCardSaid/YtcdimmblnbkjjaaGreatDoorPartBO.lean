/- Lemmas. -/
import Derived.Test.YtcdimmblnbkjjaaGreatDoorPartBM
import Derived.Test.YtcdimmblnbkjjaaGreatDoorPartBN
set_option linter.all false
namespace Go.Proofs.YtcdimmblnbkjjaaGreatDoor.Str
open Go Go.RowKit R5 Scn Hx Rdx
theorem Kw.row{g base n k:Nat}{A B:World}{e:TypeId}{v:Value}{xs:List Value}(h:Kw g A B)(hr:A.ownsRow base e k v n xs)(he:¬RT e):B.ownsRow base e k v n xs:=by
 refine⟨hr.1,hr.2.imp id ?_⟩;rintro⟨q,cap,cur,h1,h2,h3,h4⟩;refine⟨q,cap,cur,h1,h2,?_,h4⟩;rcases h.block q (Array.getElem?_eq_some_iff.1 h3).1 with e1|⟨-,cs,t,e1,ht⟩
 ·exact e1.trans h3
 ·rw[h3] at e1
  injection e1 with e1
  injection e1 with _ e1
  exact absurd (e1 ▸ ht) he
theorem Kw.non{g k:Nat}{A B:World}{o:Obj}(h:Kw g A B)(hk:A.heap[k]?=some o)(ho:o.isCells=false):B.heap[k]?=some o:=by
 rcases h.block k (Array.getElem?_eq_some_iff.1 hk).1 with e|⟨-,cs,t,e,-⟩
 ·exact e.trans hk
 ·rw[hk] at e;cases e
  cases ho
theorem Kw.far{g:Nat}{A B C:World}(h:Kw g A B)(hb:Below A.heap.size B C):Kw g A C:=
 ⟨hb.os.trans h.os,hb.tape.trans h.tape,hb.output.trans h.output,Nat.le_trans h.size hb.size,fun k hk=>by
  rw[hb.block k hk];exact h.block k hk⟩
theorem Kw.low2{g m:Nat}{A B:World}(h:Kw g A B)(hm:m<=g)(hA:m<=A.heap.size):Below m A B:=⟨h.os,h.tape,h.output,h.size,fun k hk=>by
 rcases h.block k (Nat.lt_of_lt_of_le hk hA) with e|⟨e,-⟩
 ·exact e
 ·omega⟩
theorem q2s{n:Nat}{A:World}{l:Nat}{o:Obj}(o':Obj)(h:A.heap[l]?=some o)(hn:n<=l):Below n A (A.putObj l o'):=
 ⟨rfl,rfl,rfl,by simp,fun k hk=>World.putObj_heap_other (by omega)⟩
theorem Kb.put{n:Nat}{A:World}{l:Nat}{o:Obj}(o':Obj)(h:A.heap[l]?=some o)(ho:o.isCells=false)(hn:n<=l):Kb n A (A.putObj l o'):=
 ⟨q2s o' h hn,by simp,fun k cs t hk _=>World.putObj_heap_other (by rintro rfl;rw[h] at hk;cases hk;cases ho)⟩
theorem q5N{A B:World}{g:Nat}{T:Option Addr}{tk:Option Tk}(h:q7C A g T tk)(hb:∀(k:Nat) (cs:Array Value) (t:TypeId),RT t->A.heap[k]?=some (.cells cs t (0,0))->B.heap[k]?=some (.cells cs t (0,0))):q7C B g T tk:=by
 match tk,h with
 | none,h=>exact h
 | some (L,f),⟨b,v,h1,h2,h3,h4,h5,h6⟩ =>
  refine⟨b,v,h1,h2,hb _ _ _ (.inr (.inl rfl)) h3,⟨h4.1,h4.2.imp id ?_⟩,h5,h6⟩;rintro⟨q,cap,cur,e1,e2,e3,e4⟩;exact⟨q,cap,cur,e1,e2,hb _ _ _ (.inr (.inr rfl)) e3,e4⟩
theorem Rdr.blocks{A B:World}{g mode a:Nat}{E F:Int}{seps:ByteArray}{tk:Option Tk}(h:Rdr A g E F mode seps a tk)(hb:∀(k:Nat) (cs:Array Value) (t:TypeId),RT t->A.heap[k]?=some (.cells cs t (0,0))->B.heap[k]?=some (.cells cs t (0,0))):Rdr B g E F mode seps a tk:=by
 obtain⟨⟨T,h1,h2⟩,h3⟩:=h;exact⟨⟨T,hb _ _ _ (.inl rfl) h1,q5N h2 hb⟩,h3⟩
theorem q5c{A B:World}(h:Below A.heap.size A B)(k:Nat)(cs:Array Value)(t:TypeId)(hk:A.heap[k]?=some (.cells cs t (0,0))):B.heap[k]?=some (.cells cs t (0,0)):=(h.block k (Array.getElem?_eq_some_iff.1 hk).1).trans hk
theorem Rdr.below{A B:World}{g mode a:Nat}{E F:Int}{seps:ByteArray}{tk:Option Tk}(h:Rdr A g E F mode seps a tk)(hb:Below A.heap.size A B):Rdr B g E F mode seps a tk:=h.blocks (fun k cs t _=>q5c hb k cs t)
theorem q6N{A:World}{l:Nat}{o:Obj}(o':Obj)(h:A.heap[l]?=some o)(ho:o.isCells=false)(k:Nat)(cs:Array Value)(t:TypeId)(hk:A.heap[k]?=some (.cells cs t (0,0))):(A.putObj l o').heap[k]?=some (.cells cs t (0,0)):=
 (World.putObj_heap_other (by rintro rfl;rw[h] at hk;cases hk;cases ho)).trans hk
theorem Rdr.put{A:World}{l g mode a:Nat}{E F:Int}{seps:ByteArray}{tk:Option Tk}{o:Obj}(o':Obj)(h:Rdr A g E F mode seps a tk)(hl:A.heap[l]?=some o)(ho:o.isCells=false):Rdr (A.putObj l o') g E F mode seps a tk:=h.blocks (fun k cs t _=>q6N o' hl ho k cs t)
theorem Rdr.grown{A B:World}{g mode a base n k:Nat}{E F:Int}{seps:ByteArray}{tk:Option Tk}{e:TypeId}{v:Value}{xs:List Value}(h:Rdr A g E F mode seps a tk)(hr:A.ownsRow base e k v n xs)(he:¬RT e)(hg:A.grownBy B v.ownBlock):Rdr B g E F mode seps a tk:=
 h.blocks fun i cs t ht hi=>(hg.block i (Array.getElem?_eq_some_iff.1 hi).1 (by
  intro ev;rcases hr.2 with ⟨rfl,-⟩|⟨q,cap,cur,rfl,-,hq,-⟩
  ·cases ev
  ·simp only[Value.ownBlock,Option.some.injEq] at ev;subst ev;rw[hi] at hq
   injection hq with hq
   injection hq with _ hq
   exact he (hq ▸ ht))).trans hi
theorem q0W.blk{A B:World}{g:Nat}{t:TypeId}{cs:List Value}(h:q0W A B)(hb:Blk A g t cs):Blk B g t cs:=h.2 _ _ hb rfl
theorem q0W.row{A B:World}{base n k:Nat}{e:TypeId}{v:Value}{xs:List Value}(h:q0W A B)(hr:A.ownsRow base e k v n xs):B.ownsRow base e k v n xs:=by
 refine⟨hr.1,hr.2.imp id ?_⟩;rintro⟨q,cap,cur,h1,h2,h3,h4⟩;exact⟨q,cap,cur,h1,h2,h.2 _ _ h3 rfl,h4⟩
theorem q9A{A:World}{l base n k:Nat}{o:Obj}(o':Obj){e:TypeId}{v:Value}{xs:List Value}(hr:A.ownsRow base e k v n xs)(hl:A.heap[l]?=some o)(ho:o.isCells=false):(A.putObj l o').ownsRow base e k v n xs:=(q0W.put o' hl ho).row hr
structure Kz(n:Nat)(A B:World):Prop where
 os:B.os=A.os
 tape:B.tape=A.tape
 output:B.output=A.output
 size:A.heap.size<=B.heap.size
 block:∀k,k<A.heap.size->B.heap[k]?=A.heap[k]?\/(n<=k/\∃o,A.heap[k]?=some o/\∀cs t,o=Obj.cells cs t (0,0)->RT t)
theorem Kz.kw{n g:Nat}{A B:World}(h:Kw g A B)(hn:n<=g):Kz n A B:=
 ⟨h.os,h.tape,h.output,h.size,fun k hk=>(h.block k hk).imp id fun⟨a,cs,t,e,ht⟩=>⟨Nat.le_trans hn a,_,e,fun cs' t' e'=>by cases e';exact ht⟩⟩
theorem Kz.far{n:Nat}{A B:World}{row:Option Nat}(h:A.grownBy B row)(hr:∀r,row=some r->n<=r/\∃o:Obj,A.heap[r]?=some o/\o.isCells=false):Kz n A B:=
 ⟨h.os,h.tape,h.output,h.size,fun k hk=>by
  by_cases e:row=some k
  ·obtain⟨h1,o,h2,h3⟩:=hr k e;exact .inr ⟨h1,o,h2,fun cs t e=>by rw[e] at h3;cases h3⟩
  ·exact .inl (h.block k hk (fun e'=>e e'.symm))⟩
theorem Kz.blk{n q:Nat}{A B:World}{t:TypeId}{cs:List Value}(h:Kz n A B)(hb:Blk A q t cs)(ht:¬RT t):Blk B q t cs:=by
 rcases h.block q hb.lt with e|⟨-,o,e,hT⟩
 ·exact e.trans hb
 ·have e2:=hb.symm.trans e
  injection e2 with e2
  exact absurd (hT _ _ e2.symm) ht
theorem Kz.row{n m base k:Nat}{A B:World}{e:TypeId}{v:Value}{xs:List Value}(h:Kz n A B)(hr:A.ownsRow base e k v m xs)(he:¬RT e):B.ownsRow base e k v m xs:=by
 refine⟨hr.1,hr.2.imp id ?_⟩;rintro⟨q,cap,cur,h1,h2,h3,h4⟩;refine⟨q,cap,cur,h1,h2,?_,h4⟩;rcases h.block q (Array.getElem?_eq_some_iff.1 h3).1 with e1|⟨-,o,e1,ht⟩
 ·exact e1.trans h3
 ·rw[h3] at e1
  injection e1 with e1
  exact absurd (ht _ _ e1.symm) he
theorem Kz.low{n m:Nat}{A B:World}(h:Kz n A B)(hm:m<=n)(hA:m<=A.heap.size):Below m A B:=⟨h.os,h.tape,h.output,h.size,fun k hk=>by
 rcases h.block k (Nat.lt_of_lt_of_le hk hA) with e|⟨e,-⟩
 ·exact e
 ·omega⟩
def q0m(E F:Int)(mode:Nat)(ts:List Tk):List Value:=ts.flatMap fun t=>q1e E F mode t.1 t.2
theorem q3h(E F:Int)(mode:Nat)(ts:List Tk)(t:Tk):q0m E F mode (ts++[t])=q0m E F mode ts++q1e E F mode t.1 t.2:=by simp [q0m]
theorem q1z(E F:Int)(mode:Nat)(ts us:List Tk):q0m E F mode (ts++us)=q0m E F mode ts++q0m E F mode us:=by simp [q0m]
theorem q1x(seps:ByteArray):∀(xs:List Nat) (a:Nat) (tok:Option Tk),(q12 seps a tok xs).2.length<=xs.length
 | [],a,tok=>by simp [q12]
 | c::cs,a,tok=>by
  have ih:=q1x seps cs (a+1) (q1n seps a tok c).1;have h1:(q1n seps a tok c).2.length<=1:=by
   unfold q1n;split
   ·cases tok<;>simp
   ·split<;>simp
  simp only[q12,List.length_append,List.length_cons];omega
theorem q0E(s:ByteArray):(q0b s).length=s.size:=by simp [q0b]
theorem q2b{B:Nat}{A C:World}(h:Below A.heap.size A C):KeepsFrom B A C:=⟨h.size,fun k o _ hk _=>(h.block k (Array.getElem?_eq_some_iff.1 hk).1).trans hk⟩
theorem q41{n:Nat}{A C:World}(hn:n<=A.heap.size)(h:Below A.heap.size A C):Kb n A C:=⟨h.mono hn,h.size,fun k cs t hk _=>h.block k (Array.getElem?_eq_some_iff.1 hk).1⟩
theorem q5t:¬KT 42/\¬KT 49:=by unfold KT RT;decide
theorem q4n{A B:World}{base n k:Nat}{e:TypeId}{v:Value}{xs:List Value}(h:A.ownsRow base e k v n xs)(hb:Below A.heap.size A B):B.ownsRow base e k v n xs:=by
 refine⟨h.1,h.2.imp id ?_⟩;rintro⟨q,cap,cur,h1,h2,h3,h4⟩;exact⟨q,cap,cur,h1,h2,(hb.block q (Array.getElem?_eq_some_iff.1 h3).1).trans h3,h4⟩
theorem q6L{A B:World}{lo n k m Bx:Nat}{t e:TypeId}{v v':Value}{xs ys:List Value}{tmp:Obj}(hlo:lo<=A.heap.size)(hB:lo<=Bx)(hb:Blk A Bx t [v])(hr:A.ownsRow lo e k v n xs)(hte:t≠e)
  (hr':B.ownsRow lo e k v' m ys) (hg:(A.alloc tmp).grownBy B v.ownBlock) :
  Blk B Bx t [v]/\Blk (B.setCell ⟨Bx,0,none⟩ v') Bx t [v']/\(B.setCell ⟨Bx,0,none⟩ v').ownsRow lo e k v' m ys/\KeepsOthers A (B.setCell ⟨Bx,0,none⟩ v')/\Below lo A (B.setCell ⟨Bx,0,none⟩ v') /\
   ∀(i:Nat) (cs:Array Value) (u:TypeId),A.heap[i]?=some (.cells cs u (0,0))->u≠t->u≠e->(B.setCell ⟨Bx,0,none⟩ v').heap[i]?=A.heap[i]?:=by
 obtain⟨h1,h2,h3,h4,h5⟩:=Boxed.appended (v':=v') (show Boxed A Bx t v from hb) hte hr hlo hB hr' hg;refine⟨h1,h2,h3,h4,h5,fun i cs u hi ht he=>?_⟩;have a0:=(Array.getElem?_eq_some_iff.1 hi).1;rw[Below.heap_setCell]
 ·rw[hg.block i (by simp;omega),Below.heap_alloc _ _ _ a0];intro ev;rcases hr.2 with ⟨rfl,-⟩|⟨q,cap,cur,rfl,-,hq,-⟩
  ·cases ev
  ·simp only[Value.ownBlock,Option.some.injEq] at ev;subst ev;rw[hi] at hq
   injection hq with hq
   injection hq with _ hq
   exact he hq
 ·rintro rfl;have e2:=hi.symm.trans hb
  injection e2 with e2
  injection e2 with _ e2
  exact ht e2
theorem q1N(E F:Int)(mode:Nat)(L:List Nat)(f:Nat):(q1e E F mode L f).length=5:=by
 unfold q1e;split<;>rfl
theorem q62(E F:Int)(mode:Nat)(L:List Nat)(f:Nat):∃a b c:Int,q1e E F mode L f=[.int .u64 a,.int .u8 b,.int .i64 c,.int .i64 (f:Int),.int .i64 (L.length:Int)]:=by
 unfold q1e;split
 ·exact⟨_,_,_,rfl⟩
 ·exact⟨_,_,_,rfl⟩
theorem q61(E F:Int)(mode:Nat)(ts:List Tk):(q0m E F mode ts).length=ts.length*5:=by
 induction ts with
 | nil=>rfl
 | cons t ts ih =>
  show(q1e E F mode t.1 t.2++q0m E F mode ts).length=_;rw[List.length_append,q1N,ih,List.length_cons];omega
theorem q4w(E F:Int)(mode:Nat):∀(ts:List Tk) (i j:Nat) (h:i<ts.length),j<5->(q0m E F mode ts)[i*5+j]?=(q1e E F mode ts[i].1 ts[i].2)[j]?
 | t::ts,0,j,h,hj=>by
  show(q1e E F mode t.1 t.2++q0m E F mode ts)[0*5+j]?=_;rw[Nat.zero_mul,Nat.zero_add,List.getElem?_append_left (by rw[q1N];exact hj)]
  rfl
 | t::ts,i+1,j,h,hj=>by
  show(q1e E F mode t.1 t.2++q0m E F mode ts)[(i+1)*5+j]?=_;rw[List.getElem?_append_right (by rw[q1N];omega),q1N,show(i+1)*5+j-5=i*5+j by omega];exact q4w E F mode ts i j (by simpa using h) hj
theorem q53{w:World}{base n:Nat}{v:Value}{E F:Int}{mode:Nat}{ts:List Tk}(h:w.ownsRow base 49 5 v n (q0m E F mode ts)):n=ts.length:=by
 have:=h.1;rw[q61] at this;omega
theorem q2j{A B:World}{q o:Nat}{cs:List Value}(h:Below A.heap.size A B)(hq:q<A.heap.size)(hr:A.rangeAt q o cs):B.rangeAt q o cs:=fun j v hj=>(h.cell (p:=⟨q,o+j,none⟩) hq).trans (hr j v hj)
theorem q2T{w:World}{base n:Nat}{v:Value}{E F:Int}{mode:Nat}{ts:List Tk}(h:w.ownsRow base 49 5 v n (q0m E F mode ts))(hn:0<n):
  ∃q cap,v=.slice (some ⟨q,0,none⟩) n cap/\base<=q/\q<w.heap.size/\n<=cap/\∀i (hi:i<ts.length),w.rangeAt q (i*5) (q1e E F mode ts[i].1 ts[i].2):=by
 have hc:=q53 h;rcases h.2 with ⟨-,h0⟩|⟨q,cap,cur,h1,h2,h3,h4,h5,h6,h7⟩
 ·omega
 refine⟨q,cap,h1,h2,(Array.getElem?_eq_some_iff.1 h3).1,h4,fun i hi j u hu=>?_⟩;have hj:j<5:=by
  have:=(List.getElem?_eq_some_iff.1 hu).1
  rwa [q1N] at this
 have e:=q4w E F mode ts i j hi hj;rw[<- h7,List.getElem?_take,if_pos (by omega),hu] at e;simp only[World.cell?,h3]
 simpa using e
theorem q3g{w:World}{base n:Nat}{v:Value}{E F:Int}{mode:Nat}{ts:List Tk}(h:w.ownsRow base 49 5 v n (q0m E F mode ts)):∃A c,v=.slice A n c:=by
 rcases h.2 with ⟨rfl,rfl⟩|⟨q,cap,cur,h1,-⟩
 ·exact⟨_,_,rfl⟩
 ·exact⟨_,_,h1⟩
end Go.Proofs.YtcdimmblnbkjjaaGreatDoor.Str
