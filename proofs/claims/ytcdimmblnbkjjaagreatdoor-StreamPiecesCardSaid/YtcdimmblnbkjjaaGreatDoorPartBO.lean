/- Lemmas. -/
import Derived.Test.YtcdimmblnbkjjaaGreatDoorPartBM
import Derived.Test.YtcdimmblnbkjjaaGreatDoorPartBN
set_option linter.all false
set_option maxRecDepth 100000
namespace Go.Proofs.YtcdimmblnbkjjaaGreatDoor.Str
open Go Go.RowKit R5 Scn Hx Rdx
theorem Kw.row{g base n k:Nat}{A B:World}{e:TypeId}{v:Value}{xs:List Value}(h:Kw g A B)(hr:A.ownsRow base e k v n xs)(he:¬RT e):B.ownsRow base e k v n xs:=by
 refine⟨hr.1,hr.2.imp id ?_⟩;rintro⟨q,cap,cur,h1,h2,h3,h4⟩;refine⟨q,cap,cur,h1,h2,?_,h4⟩;rcases h.block q (Array.getElem?_eq_some_iff.1 h3).1 with e1|⟨-,cs,t,e1,ht⟩
 ·exact e1.trans h3
 ·rw[h3] at e1
  injection e1 with e1
  injection e1 with _ e1
  exact absurd (e1 ▸ ht) he
theorem Kw.non{g k:Nat}{A B:World}{o:Obj}(h:Kw g A B)(hk:A.heap[k]?=some o)(ho:o.isCells=false):B.heap[k]?=some o:=by
 rcases h.block k (Array.getElem?_eq_some_iff.1 hk).1 with e|⟨-,cs,t,e,-⟩
 ·exact e.trans hk
 ·rw[hk] at e;cases e
  cases ho
theorem Kw.far{g:Nat}{A B C:World}(h:Kw g A B)(hb:Below A.heap.size B C):Kw g A C:=
 ⟨hb.os.trans h.os,hb.tape.trans h.tape,hb.output.trans h.output,Nat.le_trans h.size hb.size,fun k hk=>by
  rw[hb.block k hk];exact h.block k hk⟩
theorem Kw.low2{g m:Nat}{A B:World}(h:Kw g A B)(hm:m<=g)(hA:m<=A.heap.size):Below m A B:=⟨h.os,h.tape,h.output,h.size,fun k hk=>by
 rcases h.block k (Nat.lt_of_lt_of_le hk hA) with e|⟨e,-⟩
 ·exact e
 ·omega⟩
theorem q1v{n:Nat}{A:World}{l:Nat}{o:Obj}(o':Obj)(h:A.heap[l]?=some o)(hn:n<=l):Below n A (A.putObj l o'):=
 ⟨rfl,rfl,rfl,by simp,fun k hk=>World.putObj_heap_other (by omega)⟩
theorem Kb.put{n:Nat}{A:World}{l:Nat}{o:Obj}(o':Obj)(h:A.heap[l]?=some o)(ho:o.isCells=false)(hn:n<=l):Kb n A (A.putObj l o'):=
 ⟨q1v o' h hn,by simp,fun k cs t hk _=>World.putObj_heap_other (by rintro rfl;rw[h] at hk;cases hk;cases ho)⟩
theorem q5W{A B:World}{g:Nat}{T:Option Addr}{tk:Option Tk}(h:q7R A g T tk)(hb:∀(k:Nat) (cs:Array Value) (t:TypeId),RT t->A.heap[k]?=some (.cells cs t (0,0))->B.heap[k]?=some (.cells cs t (0,0))):q7R B g T tk:=by
 match tk,h with
 | none,h=>exact h
 | some (L,f),⟨b,v,h1,h2,h3,h4,h5,h6⟩ =>
  refine⟨b,v,h1,h2,hb _ _ _ (.inr (.inl rfl)) h3,⟨h4.1,h4.2.imp id ?_⟩,h5,h6⟩;rintro⟨q,cap,cur,e1,e2,e3,e4⟩;exact⟨q,cap,cur,e1,e2,hb _ _ _ (.inr (.inr rfl)) e3,e4⟩
theorem Rdr.blocks{A B:World}{g mode a:Nat}{E F:Int}{seps:ByteArray}{tk:Option Tk}(h:Rdr A g E F mode seps a tk)(hb:∀(k:Nat) (cs:Array Value) (t:TypeId),RT t->A.heap[k]?=some (.cells cs t (0,0))->B.heap[k]?=some (.cells cs t (0,0))):Rdr B g E F mode seps a tk:=by
 obtain⟨⟨T,h1,h2⟩,h3⟩:=h;exact⟨⟨T,hb _ _ _ (.inl rfl) h1,q5W h2 hb⟩,h3⟩
theorem q5k{A B:World}(h:Below A.heap.size A B)(k:Nat)(cs:Array Value)(t:TypeId)(hk:A.heap[k]?=some (.cells cs t (0,0))):B.heap[k]?=some (.cells cs t (0,0)):=(h.block k (Array.getElem?_eq_some_iff.1 hk).1).trans hk
theorem Rdr.below{A B:World}{g mode a:Nat}{E F:Int}{seps:ByteArray}{tk:Option Tk}(h:Rdr A g E F mode seps a tk)(hb:Below A.heap.size A B):Rdr B g E F mode seps a tk:=h.blocks (fun k cs t _=>q5k hb k cs t)
theorem q6Z{A:World}{l:Nat}{o:Obj}(o':Obj)(h:A.heap[l]?=some o)(ho:o.isCells=false)(k:Nat)(cs:Array Value)(t:TypeId)(hk:A.heap[k]?=some (.cells cs t (0,0))):(A.putObj l o').heap[k]?=some (.cells cs t (0,0)):=
 (World.putObj_heap_other (by rintro rfl;rw[h] at hk;cases hk;cases ho)).trans hk
theorem Rdr.put{A:World}{l g mode a:Nat}{E F:Int}{seps:ByteArray}{tk:Option Tk}{o:Obj}(o':Obj)(h:Rdr A g E F mode seps a tk)(hl:A.heap[l]?=some o)(ho:o.isCells=false):Rdr (A.putObj l o') g E F mode seps a tk:=h.blocks (fun k cs t _=>q6Z o' hl ho k cs t)
theorem Rdr.grown{A B:World}{g mode a base n k:Nat}{E F:Int}{seps:ByteArray}{tk:Option Tk}{e:TypeId}{v:Value}{xs:List Value}(h:Rdr A g E F mode seps a tk)(hr:A.ownsRow base e k v n xs)(he:¬RT e)(hg:A.grownBy B v.ownBlock):Rdr B g E F mode seps a tk:=
 h.blocks fun i cs t ht hi=>(hg.block i (Array.getElem?_eq_some_iff.1 hi).1 (by
  intro ev;rcases hr.2 with ⟨rfl,-⟩|⟨q,cap,cur,rfl,-,hq,-⟩
  ·cases ev
  ·simp only[Value.ownBlock,Option.some.injEq] at ev;subst ev;rw[hi] at hq
   injection hq with hq
   injection hq with _ hq
   exact he (hq ▸ ht))).trans hi
theorem q10.blk{A B:World}{g:Nat}{t:TypeId}{cs:List Value}(h:q10 A B)(hb:Blk A g t cs):Blk B g t cs:=h.2 _ _ hb rfl
theorem q10.row{A B:World}{base n k:Nat}{e:TypeId}{v:Value}{xs:List Value}(h:q10 A B)(hr:A.ownsRow base e k v n xs):B.ownsRow base e k v n xs:=by
 refine⟨hr.1,hr.2.imp id ?_⟩;rintro⟨q,cap,cur,h1,h2,h3,h4⟩;exact⟨q,cap,cur,h1,h2,h.2 _ _ h3 rfl,h4⟩
theorem q9O{A:World}{l base n k:Nat}{o:Obj}(o':Obj){e:TypeId}{v:Value}{xs:List Value}(hr:A.ownsRow base e k v n xs)(hl:A.heap[l]?=some o)(ho:o.isCells=false):(A.putObj l o').ownsRow base e k v n xs:=(q10.put o' hl ho).row hr
structure Kz(n:Nat)(A B:World):Prop where
 os:B.os=A.os
 tape:B.tape=A.tape
 output:B.output=A.output
 size:A.heap.size<=B.heap.size
 block:∀k,k<A.heap.size->B.heap[k]?=A.heap[k]?\/(n<=k/\∃o,A.heap[k]?=some o/\∀cs t,o=Obj.cells cs t (0,0)->RT t)
theorem Kz.kw{n g:Nat}{A B:World}(h:Kw g A B)(hn:n<=g):Kz n A B:=
 ⟨h.os,h.tape,h.output,h.size,fun k hk=>(h.block k hk).imp id fun⟨a,cs,t,e,ht⟩=>⟨Nat.le_trans hn a,_,e,fun cs' t' e'=>by cases e';exact ht⟩⟩
theorem Kz.far{n:Nat}{A B:World}{row:Option Nat}(h:A.grownBy B row)(hr:∀r,row=some r->n<=r/\∃o:Obj,A.heap[r]?=some o/\o.isCells=false):Kz n A B:=
 ⟨h.os,h.tape,h.output,h.size,fun k hk=>by
  by_cases e:row=some k
  ·obtain⟨h1,o,h2,h3⟩:=hr k e;exact .inr ⟨h1,o,h2,fun cs t e=>by rw[e] at h3;cases h3⟩
  ·exact .inl (h.block k hk (fun e'=>e e'.symm))⟩
theorem Kz.blk{n q:Nat}{A B:World}{t:TypeId}{cs:List Value}(h:Kz n A B)(hb:Blk A q t cs)(ht:¬RT t):Blk B q t cs:=by
 rcases h.block q hb.lt with e|⟨-,o,e,hT⟩
 ·exact e.trans hb
 ·have e2:=hb.symm.trans e
  injection e2 with e2
  exact absurd (hT _ _ e2.symm) ht
theorem Kz.row{n m base k:Nat}{A B:World}{e:TypeId}{v:Value}{xs:List Value}(h:Kz n A B)(hr:A.ownsRow base e k v m xs)(he:¬RT e):B.ownsRow base e k v m xs:=by
 refine⟨hr.1,hr.2.imp id ?_⟩;rintro⟨q,cap,cur,h1,h2,h3,h4⟩;refine⟨q,cap,cur,h1,h2,?_,h4⟩;rcases h.block q (Array.getElem?_eq_some_iff.1 h3).1 with e1|⟨-,o,e1,ht⟩
 ·exact e1.trans h3
 ·rw[h3] at e1
  injection e1 with e1
  exact absurd (ht _ _ e1.symm) he
theorem Kz.low{n m:Nat}{A B:World}(h:Kz n A B)(hm:m<=n)(hA:m<=A.heap.size):Below m A B:=⟨h.os,h.tape,h.output,h.size,fun k hk=>by
 rcases h.block k (Nat.lt_of_lt_of_le hk hA) with e|⟨e,-⟩
 ·exact e
 ·omega⟩
theorem Kz.non{n k:Nat}{A B:World}{o:Obj}(h:Kz n A B)(hn:k<n)(hk:A.heap[k]?=some o):B.heap[k]?=some o:=by
 rcases h.block k (Array.getElem?_eq_some_iff.1 hk).1 with e|⟨e,-⟩
 ·exact e.trans hk
 ·omega
def q0l(E F:Int)(mode:Nat)(ts:List Tk):List Value:=ts.flatMap fun t=>q12 E F mode t.1 t.2
theorem q3j(E F:Int)(mode:Nat)(ts:List Tk)(t:Tk):q0l E F mode (ts++[t])=q0l E F mode ts++q12 E F mode t.1 t.2:=by simp [q0l]
theorem q2q(E F:Int)(mode:Nat)(ts us:List Tk):q0l E F mode (ts++us)=q0l E F mode ts++q0l E F mode us:=by simp [q0l]
theorem q2m(seps:ByteArray):∀(xs:List Nat) (a:Nat) (tok:Option Tk),(q11 seps a tok xs).2.length<=xs.length
 | [],a,tok=>by simp [q11]
 | c::cs,a,tok=>by
  have ih:=q2m seps cs (a+1) (q0X seps a tok c).1;have h1:(q0X seps a tok c).2.length<=1:=by
   unfold q0X;split
   ·cases tok<;>simp
   ·split<;>simp
  simp only[q11,List.length_append,List.length_cons];omega
theorem q0w(s:ByteArray):(q0a s).length=s.size:=by simp [q0a]
theorem q2e{B:Nat}{A C:World}(h:Below A.heap.size A C):KeepsFrom B A C:=⟨h.size,fun k o _ hk _=>(h.block k (Array.getElem?_eq_some_iff.1 hk).1).trans hk⟩
theorem q43{n:Nat}{A C:World}(hn:n<=A.heap.size)(h:Below A.heap.size A C):Kb n A C:=⟨h.mono hn,h.size,fun k cs t hk _=>h.block k (Array.getElem?_eq_some_iff.1 hk).1⟩
theorem q5A:¬KT 42/\¬KT 49:=by unfold KT RT;decide
theorem q0K{A B:World}{base n k:Nat}{e:TypeId}{v:Value}{xs:List Value}(h:A.ownsRow base e k v n xs)(hb:Below A.heap.size A B):B.ownsRow base e k v n xs:=by
 refine⟨h.1,h.2.imp id ?_⟩;rintro⟨q,cap,cur,h1,h2,h3,h4⟩;exact⟨q,cap,cur,h1,h2,(hb.block q (Array.getElem?_eq_some_iff.1 h3).1).trans h3,h4⟩
theorem q6X{A B:World}{lo n k m Bx:Nat}{t e:TypeId}{v v':Value}{xs ys:List Value}{tmp:Obj}(hlo:lo<=A.heap.size)(hB:lo<=Bx)(hb:Blk A Bx t [v])(hr:A.ownsRow lo e k v n xs)(hte:t≠e)
  (hr':B.ownsRow lo e k v' m ys) (hg:(A.alloc tmp).grownBy B v.ownBlock) :
  Blk B Bx t [v]/\Blk (B.setCell ⟨Bx,0,none⟩ v') Bx t [v']/\(B.setCell ⟨Bx,0,none⟩ v').ownsRow lo e k v' m ys/\KeepsOthers A (B.setCell ⟨Bx,0,none⟩ v')/\Below lo A (B.setCell ⟨Bx,0,none⟩ v') /\
   ∀(i:Nat) (cs:Array Value) (u:TypeId),A.heap[i]?=some (.cells cs u (0,0))->u≠t->u≠e->(B.setCell ⟨Bx,0,none⟩ v').heap[i]?=A.heap[i]?:=by
 obtain⟨h1,h2,h3,h4,h5⟩:=Boxed.appended (v':=v') (show Boxed A Bx t v from hb) hte hr hlo hB hr' hg;refine⟨h1,h2,h3,h4,h5,fun i cs u hi ht he=>?_⟩;have a0:=(Array.getElem?_eq_some_iff.1 hi).1;rw[Below.heap_setCell]
 ·rw[hg.block i (by simp;omega),Below.heap_alloc _ _ _ a0];intro ev;rcases hr.2 with ⟨rfl,-⟩|⟨q,cap,cur,rfl,-,hq,-⟩
  ·cases ev
  ·simp only[Value.ownBlock,Option.some.injEq] at ev;subst ev;rw[hi] at hq
   injection hq with hq
   injection hq with _ hq
   exact he hq
 ·rintro rfl;have e2:=hi.symm.trans hb
  injection e2 with e2
  injection e2 with _ e2
  exact ht e2
theorem q1R(E F:Int)(mode:Nat)(L:List Nat)(f:Nat):(q12 E F mode L f).length=5:=by
 unfold q12;split<;>rfl
theorem q6a(E F:Int)(mode:Nat)(L:List Nat)(f:Nat):∃a b c:Int,q12 E F mode L f=[.int .u64 a,.int .u8 b,.int .i64 c,.int .i64 (f:Int),.int .i64 (L.length:Int)]:=by
 unfold q12;split
 ·exact⟨_,_,_,rfl⟩
 ·exact⟨_,_,_,rfl⟩
theorem q69(E F:Int)(mode:Nat)(ts:List Tk):(q0l E F mode ts).length=ts.length*5:=by
 induction ts with
 | nil=>rfl
 | cons t ts ih =>
  show(q12 E F mode t.1 t.2++q0l E F mode ts).length=_;rw[List.length_append,q1R,ih,List.length_cons];omega
theorem q4B(E F:Int)(mode:Nat):∀(ts:List Tk) (i j:Nat) (h:i<ts.length),j<5->(q0l E F mode ts)[i*5+j]?=(q12 E F mode ts[i].1 ts[i].2)[j]?
 | t::ts,0,j,h,hj=>by
  show(q12 E F mode t.1 t.2++q0l E F mode ts)[0*5+j]?=_;rw[Nat.zero_mul,Nat.zero_add,List.getElem?_append_left (by rw[q1R];exact hj)]
  rfl
 | t::ts,i+1,j,h,hj=>by
  show(q12 E F mode t.1 t.2++q0l E F mode ts)[(i+1)*5+j]?=_;rw[List.getElem?_append_right (by rw[q1R];omega),q1R,show(i+1)*5+j-5=i*5+j by omega];exact q4B E F mode ts i j (by simpa using h) hj
theorem q1C{w:World}{base n:Nat}{v:Value}{E F:Int}{mode:Nat}{ts:List Tk}(h:w.ownsRow base 49 5 v n (q0l E F mode ts)):n=ts.length:=by
 have:=h.1;rw[q69] at this;omega
theorem q1A{A B:World}{q o:Nat}{cs:List Value}(h:Below A.heap.size A B)(hq:q<A.heap.size)(hr:A.rangeAt q o cs):B.rangeAt q o cs:=fun j v hj=>(h.cell (p:=⟨q,o+j,none⟩) hq).trans (hr j v hj)
theorem q2X{w:World}{base n:Nat}{v:Value}{E F:Int}{mode:Nat}{ts:List Tk}(h:w.ownsRow base 49 5 v n (q0l E F mode ts))(hn:0<n):
  ∃q cap,v=.slice (some ⟨q,0,none⟩) n cap/\base<=q/\q<w.heap.size/\n<=cap/\∀i (hi:i<ts.length),w.rangeAt q (i*5) (q12 E F mode ts[i].1 ts[i].2):=by
 have hc:=q1C h;rcases h.2 with ⟨-,h0⟩|⟨q,cap,cur,h1,h2,h3,h4,h5,h6,h7⟩
 ·omega
 refine⟨q,cap,h1,h2,(Array.getElem?_eq_some_iff.1 h3).1,h4,fun i hi j u hu=>?_⟩;have hj:j<5:=by
  have:=(List.getElem?_eq_some_iff.1 hu).1
  rwa [q1R] at this
 have e:=q4B E F mode ts i j hi hj;rw[<- h7,List.getElem?_take,if_pos (by omega),hu] at e;simp only[World.cell?,h3]
 simpa using e
theorem q1Q{w:World}{base n:Nat}{v:Value}{E F:Int}{mode:Nat}{ts:List Tk}(h:w.ownsRow base 49 5 v n (q0l E F mode ts)):∃A c,v=.slice A n c:=by
 rcases h.2 with ⟨rfl,rfl⟩|⟨q,cap,cur,h1,-⟩
 ·exact⟨_,_,rfl⟩
 ·exact⟨_,_,h1⟩
set_option maxHeartbeats 2000000 in
theorem qcf(lo1 lo2 n:Nat)(va vb:Value)(E F:Int)(mode:Nat)(ts:List Tk)(w:World)(hn:n<=1099511627776)
  (ha:w.ownsRow lo1 49 5 va n (q0l E F mode ts)) (hb:w.ownsRow lo2 49 5 vb n (q0l E F mode ts)) :
  Calls Tryz.prog 13 #[va,vb] w fun e w'=>e=.returned (.bool true)/\Below w.heap.size w w':=by
 have hc:=q1C ha;by_cases h0:n=0
 ·subst h0;obtain⟨A,c,rfl⟩:=q1Q ha;obtain⟨A',c',rfl⟩:=q1Q hb;clear ha hb hc;go_enter Tryz.func13,Tryz.ntmps13
  go_wp2;go_loopw [5] (fun i wr=>i=.int .i64 0/\Below w.heap.size w wr) (fun i _=>0)
  case atStart=>exact⟨rfl,Below.refl _ _⟩
  case round =>
   obtain⟨rfl,hB⟩:=hrel;go_wp2;go_ret
   exact⟨rfl,hB⟩
 obtain⟨q,cap,rfl,-,b7,b8,hq⟩:=q2X ha (by omega);obtain⟨q',cap',rfl,-,a5,a7,a8⟩:=q2X hb (by omega);have HQ:=vv (And.intro hq a8);have c0:(n:Int)<=1099511627776:=by omega
 clear ha hb hq a8;go_enter Tryz.func13,Tryz.ntmps13
 go_wp2;go_loopw [5] (fun i wr=>∃k:Nat,k<=n/\i=.int .i64 (k:Int)/\Below w.heap.size w wr) (fun i _=>n-(intOf i).toNat)
 case atStart=>exact⟨0,Nat.zero_le _,rfl,Below.refl _ _⟩
 case round =>
  obtain⟨k,hk,rfl,hB⟩:=hrel;by_cases hkn:k<n
  ·have a9:k<ts.length:=by omega
   obtain⟨x0,x1,x2,a6⟩:=q6a E F mode ts[k].1 ts[k].2;obtain⟨x3,b5⟩:∃x:Int,x=(ts[k].2:Int):=⟨_,rfl⟩;obtain⟨x4,b6⟩:∃x:Int,x=(ts[k].1.length:Int):=⟨_,rfl⟩;rw[<- b5,<- b6] at a6;have r1:=HQ.o.1 k a9;have r2:=HQ.o.2 k a9;rw[a6] at r1 r2;have HB:=vv hB;clear hB;have ra:=q1A HB.o b7 r1;have rb:=q1A HB.o a5 r2;have a0:wr.cell? ⟨q,k*5,none⟩=some (.int .u64 x0):=ra 0 _ rfl;have a1:wr.cell? ⟨q,k*5+1,none⟩=some (.int .u8 x1):=ra 1 _ rfl;have a2:wr.cell? ⟨q,k*5+2,none⟩=some (.int .i64 x2):=ra 2 _ rfl;have a3:wr.cell? ⟨q,k*5+3,none⟩=some (.int .i64 x3):=ra 3 _ rfl;have a4:wr.cell? ⟨q,k*5+4,none⟩=some (.int .i64 x4):=ra 4 _ rfl;have b0:wr.cell? ⟨q',k*5,none⟩=some (.int .u64 x0):=rb 0 _ rfl;have b1:wr.cell? ⟨q',k*5+1,none⟩=some (.int .u8 x1):=rb 1 _ rfl;have b2:wr.cell? ⟨q',k*5+2,none⟩=some (.int .i64 x2):=rb 2 _ rfl;have b3:wr.cell? ⟨q',k*5+3,none⟩=some (.int .i64 x3):=rb 3 _ rfl;have b4:wr.cell? ⟨q',k*5+4,none⟩=some (.int .i64 x4):=rb 4 _ rfl;clear ra rb r1 r2 b5 b6 a6;go_wp2_with fail
   go_quiet (fail)
   clear a0 a1 a2 a3 a4 b0 b1 b2 b3 b4;have b9:Hid (Below w.heap.size w (wr.drewN nq)):=vv ⟨HB.o.os,HB.o.tape,HB.o.output,HB.o.size,HB.o.block⟩;go_wp2;go_roundw
   case rel=>exact⟨k+1,by omega,by go_num,b9.o⟩
   case measure=>simp [intOf];omega
  ·obtain rfl:k=n:=by omega
   go_wp2;go_ret
   exact⟨rfl,hB⟩
end Go.Proofs.YtcdimmblnbkjjaaGreatDoor.Str
