/- Lemmas. -/
import Derived.Test.YthopehoklmgphaaGreatDoorPartBW
import Derived.Test.YthopehoklmgphaaGreatDoorPartBX
set_option linter.all false
open Go renaming World->qa,Value->qb,World.putObj_heap_other->qc
open Option renaming some->qd,none->qe
namespace Go.Proofs.YthopehoklmgphaaGreatDoor
variable{g base n k m l mode a q:Nat}{e t:TypeId}{v:qb}{xs cs:List qb}{o:Obj}{C w:qa}{E F:Int}{seps:ByteArray}
namespace Str
open Go Go.RowKit R5 Scn Hx Rdx
theorem Kw.row{A B:qa}(h:Kw g A B)(hr:A.ownsRow base e k v n xs)(he:¬RT e):B.ownsRow base e k v n xs:=by
 refine⟨hr.1,hr.2.imp id ?_⟩;rintro⟨q,cap,c,d,f,b,i⟩;refine⟨q,cap,c,d,f,?_,i⟩;rcases h.block q (k09.1 b).1 with a|⟨-,l,t,a,j⟩
 ·exact a.trans b
 ·rw[b] at a;injection a with a;injection a with _ a;exact absurd (a ▸ j) he
theorem Kw.non{A B:qa}(h:Kw g A B)(hk:A.heap[k]?=qd o)(ho:o.isCells=false):B.heap[k]?=qd o:=by
 rcases h.block k (k09.1 hk).1 with e|⟨-,a,t,e,-⟩
 ·exact e.trans hk
 ·rw[hk] at e;cases e;cases ho
theorem Kw.far{A B:qa}(h:Kw g A B)(hb:Below A.heap.size B C):Kw g A C:=⟨hb.os.trans h.os,hb.tape.trans h.tape,hb.output.trans h.output,k06 h.size hb.size,fun k hk=>by rw[hb.block k hk];exact h.block k hk⟩
theorem Kw.low2{A B:qa}(h:Kw g A B)(hm:m<=g)(hA:m<=A.heap.size):Below m A B:=⟨h.os,h.tape,h.output,h.size,fun k hk=>by
 rcases h.block k (k01 hk hA) with e|⟨e,-⟩
 ·exact e
 ·omega⟩
theorem Kw.mono{g':Nat}{A B:qa}(h:Kw g A B)(hg:g'<=g):Kw g' A B:=⟨h.os,h.tape,h.output,h.size,fun k hk=>(h.block k hk).imp id fun⟨a,b⟩=>⟨k06 hg a,b⟩⟩
theorem q4t{A:qa}(o':Obj)(h:A.heap[l]?=qd o)(hn:n<=l):Below n A (A.putObj l o'):=⟨rfl,rfl,rfl,by simp,fun k hk=>qc (by omega)⟩
theorem Kb.put{A:qa}(o':Obj)(h:A.heap[l]?=qd o)(ho:o.isCells=false)(hn:n<=l):Kb n A (A.putObj l o'):=⟨q4t o' h hn,by simp,fun k cs t hk _=>qc (by rintro rfl;rw[h] at hk;cases hk;cases ho)⟩
theorem q7A{A B:qa}{T:Option Addr}{tk:Option Tk}(h:q9S A g T tk)(hb:∀(k:Nat) (cs:Array qb) (t:TypeId),RT t->A.heap[k]?=qd (.cells cs t (0,0))->B.heap[k]?=qd (.cells cs t (0,0))):q9S B g T tk:=by
 match tk,h with
 | none,h=>exact h
 | some (L,f),⟨b,v,h1,h2,h3,h4,h5,h6⟩ =>refine⟨b,v,h1,h2,hb _ _ _ (.inr (.inl rfl)) h3,⟨h4.1,h4.2.imp id ?_⟩,h5,h6⟩;rintro⟨q,cap,a,c,d,e,i⟩;exact⟨q,cap,a,c,d,hb _ _ _ (.inr (.inr rfl)) e,i⟩
theorem Rdr.blocks{A B:qa}{tk:Option Tk}(h:Rdr A g E F mode seps a tk)(hb:∀(k:Nat) (cs:Array qb) (t:TypeId),RT t->A.heap[k]?=qd (.cells cs t (0,0))->B.heap[k]?=qd (.cells cs t (0,0))):Rdr B g E F mode seps a tk:=by obtain⟨⟨T,b,c⟩,d⟩:=h;exact⟨⟨T,hb _ _ _ (.inl rfl) b,q7A c hb⟩,d⟩
theorem q6J{A B:qa}(h:Below A.heap.size A B)(k:Nat)(cs:Array qb)(t:TypeId)(hk:A.heap[k]?=qd (.cells cs t (0,0))):B.heap[k]?=qd (.cells cs t (0,0)):=(h.block k (k09.1 hk).1).trans hk
theorem Rdr.below{A B:qa}{tk:Option Tk}(h:Rdr A g E F mode seps a tk)(hb:Below A.heap.size A B):Rdr B g E F mode seps a tk:=h.blocks (fun k cs t _=>q6J hb k cs t)
theorem q8M{A:qa}(o':Obj)(h:A.heap[l]?=qd o)(ho:o.isCells=false)(k:Nat)(cs:Array qb)(t:TypeId)(hk:A.heap[k]?=qd (.cells cs t (0,0))):(A.putObj l o').heap[k]?=qd (.cells cs t (0,0)):=(qc (by rintro rfl;rw[h] at hk;cases hk;cases ho)).trans hk
theorem Rdr.put{A:qa}{tk:Option Tk}(o':Obj)(h:Rdr A g E F mode seps a tk)(hl:A.heap[l]?=qd o)(ho:o.isCells=false):Rdr (A.putObj l o') g E F mode seps a tk:=h.blocks (fun k cs t _=>q8M o' hl ho k cs t)
theorem Rdr.grown{A B:qa}{tk:Option Tk}(h:Rdr A g E F mode seps a tk)(hr:A.ownsRow base e k v n xs)(he:¬RT e)(hg:A.grownBy B v.ownBlock):Rdr B g E F mode seps a tk:=h.blocks fun i cs t ht hi=>(hg.block i (k09.1 hi).1 (by
  intro ev;rcases hr.2 with ⟨rfl,-⟩|⟨q,cap,cur,rfl,-,hq,-⟩
  ·cases ev
  ·simp only[Value.ownBlock,Option.some.injEq] at ev;subst ev;rw[hi] at hq;injection hq with hq;injection hq with _ hq;exact he (hq ▸ ht))).trans hi
theorem q1r.blk{A B:qa}(h:q1r A B)(hb:Blk A g t cs):Blk B g t cs:=h.2 _ _ hb rfl
theorem q1r.row{A B:qa}(h:q1r A B)(hr:A.ownsRow base e k v n xs):B.ownsRow base e k v n xs:=by refine⟨hr.1,hr.2.imp id ?_⟩;rintro⟨q,cap,a,b,c,d,f⟩;exact⟨q,cap,a,b,c,h.2 _ _ d rfl,f⟩
theorem qc3{A:qa}(o':Obj)(hr:A.ownsRow base e k v n xs)(hl:A.heap[l]?=qd o)(ho:o.isCells=false):(A.putObj l o').ownsRow base e k v n xs:=(q1r.put o' hl ho).row hr
structure Kz(n:Nat)(A B:qa):Prop where
 os:B.os=A.os
 tape:B.tape=A.tape
 output:B.output=A.output
 size:A.heap.size<=B.heap.size
 block:∀k,k<A.heap.size->B.heap[k]?=A.heap[k]?\/(n<=k/\∃o,A.heap[k]?=qd o/\∀cs t,o=Obj.cells cs t (0,0)->RT t)
theorem Kz.far{A B:qa}{row:Option Nat}(h:A.grownBy B row)(hr:∀r,row=qd r->n<=r/\∃o:Obj,A.heap[r]?=qd o/\o.isCells=false):Kz n A B:=⟨h.os,h.tape,h.output,h.size,fun k hk=>by
  by_cases e:row=qd k
  ·obtain⟨h1,o,h2,h3⟩:=hr k e;exact .inr ⟨h1,o,h2,fun cs t e=>by rw[e] at h3;cases h3⟩
  ·exact .inl (h.block k hk (fun e'=>e e'.symm))⟩
theorem Kz.blk{A B:qa}(h:Kz n A B)(hb:Blk A q t cs)(ht:¬RT t):Blk B q t cs:=by
 rcases h.block q hb.lt with e|⟨-,o,e,b⟩
 ·exact e.trans hb
 ·have a:=hb.symm.trans e;injection a with a;exact absurd (b _ _ a.symm) ht
theorem Kz.row{A B:qa}(h:Kz n A B)(hr:A.ownsRow base e k v m xs)(he:¬RT e):B.ownsRow base e k v m xs:=by
 refine⟨hr.1,hr.2.imp id ?_⟩;rintro⟨q,cap,c,d,f,b,g⟩;refine⟨q,cap,c,d,f,?_,g⟩;rcases h.block q (k09.1 b).1 with a|⟨-,o,a,i⟩
 ·exact a.trans b
 ·rw[b] at a;injection a with a;exact absurd (i _ _ a.symm) he
theorem Kz.low{A B:qa}(h:Kz n A B)(hm:m<=n)(hA:m<=A.heap.size):Below m A B:=⟨h.os,h.tape,h.output,h.size,fun k hk=>by
 rcases h.block k (k01 hk hA) with e|⟨e,-⟩
 ·exact e
 ·omega⟩
theorem Kz.non{A B:qa}(h:Kz n A B)(hn:k<n)(hk:A.heap[k]?=qd o):B.heap[k]?=qd o:=by
 rcases h.block k (k09.1 hk).1 with e|⟨e,-⟩
 ·exact e.trans hk
 ·omega
def q0v(E F:Int)(mode:Nat)(ts:List Tk):List qb:=ts.flatMap fun t=>q1i E F mode t.1 t.2
theorem q2W(E F:Int)(mode:Nat)(ts:List Tk)(t:Tk):q0v E F mode (ts++[t])=q0v E F mode ts++q1i E F mode t.1 t.2:=by simp [q0v]
theorem q5c(seps:ByteArray):∀(xs:List Nat) (a:Nat) (tok:Option Tk),(q10 seps a tok xs).2.length<=xs.length
 | [],a,tok=>by simp [q10]
 | c::cs,a,tok=>by
  have ih:=q5c seps cs (a+1) (q1e seps a tok c).1;have h1:(q1e seps a tok c).2.length<=1:=by
   unfold q1e;split
   ·cases tok<;>simp
   ·split<;>simp
  simp only[q10,k0p,k19];omega
theorem q11(s:ByteArray):(q0f s).length=s.size:=by simp [q0f]
theorem q6v{B:Nat}{A:qa}(h:Below A.heap.size A C):KeepsFrom B A C:=⟨h.size,fun k o _ hk _=>(h.block k (k09.1 hk).1).trans hk⟩
theorem qaO{A:qa}(hn:n<=A.heap.size)(h:Below A.heap.size A C):Kb n A C:=⟨h.mono hn,h.size,fun k cs t hk _=>h.block k (k09.1 hk).1⟩
theorem qbp:¬KT 42/\¬KT 48:=by unfold KT RT;decide
theorem q41{A B:qa}(h:A.ownsRow base e k v n xs)(hb:Below A.heap.size A B):B.ownsRow base e k v n xs:=by refine⟨h.1,h.2.imp id ?_⟩;rintro⟨q,cap,b,c,d,a,f⟩;exact⟨q,cap,b,c,d,(hb.block q (k09.1 a).1).trans a,f⟩
theorem qc5{A B:qa}{lo Bx:Nat}{v':qb}{ys:List qb}{tmp:Obj}(hlo:lo<=A.heap.size)(hB:lo<=Bx)(hb:Blk A Bx t [v])(hr:A.ownsRow lo e k v n xs)(hte:t≠e)
  (hr':B.ownsRow lo e k v' m ys) (hg:(A.alloc tmp).grownBy B v.ownBlock) :
  Blk B Bx t [v]/\Blk (B.setCell ⟨Bx,0,qe⟩ v') Bx t [v']/\(B.setCell ⟨Bx,0,qe⟩ v').ownsRow lo e k v' m ys/\KeepsOthers A (B.setCell ⟨Bx,0,qe⟩ v')/\Below lo A (B.setCell ⟨Bx,0,qe⟩ v') /\∀(i:Nat) (cs:Array qb) (u:TypeId),A.heap[i]?=qd (.cells cs u (0,0))->u≠t->u≠e->(B.setCell ⟨Bx,0,qe⟩ v').heap[i]?=A.heap[i]?:=by
 obtain⟨f,g,h,j,l⟩:=Boxed.appended (v':=v') (show Boxed A Bx t v from hb) hte hr hlo hB hr' hg;refine⟨f,g,h,j,l,fun i cs u hi ht he=>?_⟩;have d:=(k09.1 hi).1;rw[Below.heap_setCell]
 ·rw[hg.block i (by simp;omega),Below.heap_alloc _ _ _ d];intro c;rcases hr.2 with ⟨rfl,-⟩|⟨q,cap,o,rfl,-,a,-⟩
  ·cases c
  ·simp only[Value.ownBlock,Option.some.injEq] at c;subst c;rw[hi] at a;injection a with a;injection a with _ a;exact he a
 ·rintro rfl;have b:=hi.symm.trans hb;injection b with b;injection b with _ b;exact ht b
theorem q2B(E F:Int)(mode:Nat)(L:List Nat)(f:Nat):(q1i E F mode L f).length=5:=by unfold q1i;split<;>rfl
theorem q4T(E F:Int)(mode:Nat)(L:List Nat)(f:Nat):∃a b c:Int,q1i E F mode L f=[.int .u64 a,.int .u8 b,.int .i64 c,.int .i64 (f:Int),.int .i64 (L.length:Int)]:=by
 unfold q1i;split
 ·exact⟨_,_,_,rfl⟩
 ·exact⟨_,_,_,rfl⟩
theorem q7W(E F:Int)(mode:Nat)(ts:List Tk):(q0v E F mode ts).length=ts.length*5:=by
 induction ts with
 | nil=>rfl
 | cons t ts ih =>show(q1i E F mode t.1 t.2++q0v E F mode ts).length=_;rw[k0p,q2B,ih,k19];omega
theorem q5Y(E F:Int)(mode:Nat):∀(ts:List Tk) (i j:Nat) (h:i<ts.length),j<5->(q0v E F mode ts)[i*5+j]?=(q1i E F mode ts[i].1 ts[i].2)[j]?
 | t::ts,0,j,h,hj=>by show(q1i E F mode t.1 t.2++q0v E F mode ts)[0*5+j]?=_;rw[k1K,k13,List.getElem?_append_left (by rw[q2B];exact hj)];rfl
 | t::ts,i+1,j,h,hj=>by show(q1i E F mode t.1 t.2++q0v E F mode ts)[(i+1)*5+j]?=_;rw[k2C (by rw[q2B];omega),q2B,show(i+1)*5+j-5=i*5+j by omega];exact q5Y E F mode ts i j (by simpa using h) hj
theorem q6w{ts:List Tk}(h:w.ownsRow base 48 5 v n (q0v E F mode ts)):n=ts.length:=by have:=h.1;rw[q7W] at this;omega
theorem q2f{A B:qa}{o:Nat}(h:Below A.heap.size A B)(hq:q<A.heap.size)(hr:A.rangeAt q o cs):B.rangeAt q o cs:=fun j v hj=>(h.cell (p:=⟨q,o+j,qe⟩) hq).trans (hr j v hj)
theorem q7d{ts:List Tk}(h:w.ownsRow base 48 5 v n (q0v E F mode ts))(hn:0<n):∃q cap,v=.slice (qd ⟨q,0,qe⟩) n cap/\base<=q/\q<w.heap.size/\n<=cap/\∀i (hi:i<ts.length),w.rangeAt q (i*5) (q1i E F mode ts[i].1 ts[i].2):=by
 have l:=q6w h;rcases h.2 with ⟨-,m⟩|⟨q,cap,k,b,c,a,d,o,p,f⟩
 ·omega
 refine⟨q,cap,b,c,(k09.1 a).1,d,fun i hi j u hu=>?_⟩;have g:j<5:=by
  have:=(k1R.1 hu).1
  rwa [q2B] at this
 have e:=q5Y E F mode ts i j hi g;rw[<- f,k15,if_pos (by omega),hu] at e;simp only[World.cell?,a]
 simpa using e
theorem q4d{ts:List Tk}(h:w.ownsRow base 48 5 v n (q0v E F mode ts)):∃A c,v=.slice A n c:=by
 rcases h.2 with ⟨rfl,rfl⟩|⟨q,cap,b,a,-⟩
 ·exact⟨_,_,rfl⟩
 ·exact⟨_,_,a⟩
end Str
end Go.Proofs.YthopehoklmgphaaGreatDoor
