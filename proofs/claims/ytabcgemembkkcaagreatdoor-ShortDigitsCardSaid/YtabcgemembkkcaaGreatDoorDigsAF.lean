/- Lemmas. -/
import Derived.Handy
import Derived.Lib.Hide
import Derived.Deep.OwnRows
import Derived.Deep.Draws
import Derived.Test.YtabcgemembkkcaaGreatDoorDigsAA
set_option linter.all false
open Go renaming World->qa,IntKind.wrap_u64->qb,Addr->qd,Value->qf
open Option renaming some->qc,none->qe
namespace Go.Proofs.YtabcgemembkkcaaGreatDoor
variable{B n c k g i:Nat}{w w' a:qa}{A:Option qd}{xs U:List Nat}{t:TypeId}{p:qd}{α:Type}
section
open Go Go.RowKit
structure Rd(w:qa)(A:Option qd)(n c:Nat)(xs:List Nat):Prop where
 len:xs.length=n
 le:n<=c
 sm:n<=35184372088832
 lim:Lim xs
 cell:0<n->∃b off,A=qc ⟨b,off,qe⟩/\b<w.heap.size/\∀j,j<n->w.cell? ⟨b,off+j,qe⟩=qc (.int .u32 ((nth xs j:Nat):Int))
theorem Rd.below(h:Rd w A n c xs)(hb:Below B w w')(hB:B=w.heap.size):Rd w' A n c xs:=⟨h.len,h.le,h.sm,h.lim,fun hn=>by obtain⟨b,off,e,hlt,hc⟩:=h.cell hn;exact⟨b,off,e,k03 hlt hb.size,fun j hj=>(hb.cell (p:=⟨b,off+j,qe⟩) (by rw[hB];exact hlt)).trans (hc j hj)⟩⟩
theorem Rd.nth_lt(h:Rd w A n c xs)(i:Nat):nth xs i<4294967296:=q2h h.lim i
theorem Rd.take(h:Rd w A n c xs)(hk:k<=n):Rd w A k c (xs.take k):=⟨by rw[k0v,h.len];omega,k07 hk h.le,k07 hk h.sm,q0C h.lim _,fun hp=>by obtain⟨b,off,e,hb,hc⟩:=h.cell (by omega);exact⟨b,off,e,hb,fun j hj=>by rw[hc j (by omega),q4k xs k j hj]⟩⟩
theorem Rd.nil(w:qa):Rd w qe 0 0 []:=⟨rfl,Nat.le_refl _,k0x _,q0L,fun h=>absurd h (by omega)⟩
def Nt(w:qa)(v:qf)(n:Nat):Prop:=∃A m c,v=.slice A m c/\Rd w A m c (toL n)
theorem Nt.below{v:qf}(h:Nt w v n)(hb:Below B w w')(hB:B=w.heap.size):Nt w' v n:=by obtain⟨A,m,c,e,a⟩:=h;exact⟨A,m,c,e,a.below hb hB⟩
def Own(w:qa)(g:Nat)(t:TypeId)(U:List Nat):Prop:=w.rowIs g t U.length (fun j=>.int .u32 ((nth U j:Nat):Int))/\Lim U
theorem Own.lt(h:Own w g t U):g<w.heap.size:=h.1.lt
theorem Own.cell(h:Own w g t U)(hi:i<U.length):w.cell? ⟨g,i,qe⟩=qc (.int .u32 ((nth U i:Nat):Int)):=h.1.cell hi
theorem Own.frozen(h:Own w g t U)(i:Nat):w.frozen? ⟨g,i,qe⟩=false:=h.1.frozen i
theorem Own.nth_lt(h:Own w g t U)(i:Nat):nth U i<4294967296:=q2h h.2 i
theorem Own.set(h:Own w g t U){x:Nat}{z:Int}(hi:i<U.length)(hx:x<4294967296)(hz:z=(x:Int)):Own (w.setCell ⟨g,i,qe⟩ (.int .u32 z)) g t (U.set i x):=by
 subst hz;refine⟨?_,q8E h.2 i hx⟩;rw[k0c];refine(h.1.set i _).congr fun j _=>?_
 rw[q0H U i x j hi];split<;>rfl
theorem Own.alloc(h:Own w g t U)(o:Obj):Own (w.alloc o) g t U:=⟨h.1.alloc o,h.2⟩
theorem Own.drew(h:Own w g t U):Own w.drew g t U:=h
theorem Own.setOther(h:Own w g t U){a:qd}(ha:g≠a.block)(v:qf):Own (w.setCell a v) g t U:=⟨h.1.setOther ha v,h.2⟩
theorem Own.below(h:Own w g t U)(hb:Below B w w')(hg:g<B):Own w' g t U:=⟨h.1.of_block (hb.block g hg),h.2⟩
theorem Own.made(w:qa)(n:Nat)(t:TypeId):Own (w.alloc (.cells (madeCells #[.int .u32 0] n) t)) w.heap.size t (List.replicate n 0):=by refine⟨?_,q12 n⟩;rw[k0H];exact(World.rowIs_made w _ n t).congr fun i _=>by rw[q10];rfl
theorem Own.rd(h:Own w g t U)(hn:n=U.length)(hc:n<=c)(hs:n<=35184372088832):Rd w (qc ⟨g,0,qe⟩) n c U:=⟨hn.symm,hc,hs,h.2,fun _=>⟨g,0,rfl,h.lt,fun j hj=>by rw[k10];exact h.cell (by omega)⟩⟩
def q0k(U:List Nat):List qf:=U.map fun(x:Nat)=>Value.int .u32 (x:Int)
theorem q2b(U:List Nat)(h:i<U.length):(q0k U)[i]?=qc (.int .u32 ((nth U i:Nat):Int)):=by unfold q0k nth;rw[k1S,k0b,k0n h];rfl
theorem q1B(U:List Nat):∀v∈q0k U,v.oneCell'=true:=by intro v a;unfold q0k at a;obtain⟨x,_,rfl⟩:=k3g.1 a;rfl
theorem Own.of_heap(h:w.heap[g]?=qc (.cells (q0k U).toArray t (0,0)))(hl:Lim U):Own w g t U:=⟨⟨_,h,by simp [q0k],fun i hi=>by rw[k1J];exact q2b U hi⟩,hl⟩
theorem Own.heap(h:Own w g t U):w.heap[g]?=qc (.cells (q0k U).toArray t (0,0)):=by
 obtain⟨c,a,d,b⟩:=h.1;rw[a];congr 2;apply Array.ext_getElem?;intro i;by_cases hi:i<U.length
 ·rw[b i hi,k1J,q2b U hi]
 ·rw[k2X (by omega),k1J,k15 (by simp [q0k];omega)]
theorem Own.lit(U:List Nat)(hl:Lim U){c:Array qf}(hc:c=(q0k U).toArray):Own (w.alloc (.cells c t)) w.heap.size t U:=by subst hc;exact Own.of_heap (heap_alloc_new w _) hl
theorem qa0(x y:Nat)(hx:x<4294967296)(hy:y<4294967296):bits .or .u64 ((y:Int)*4294967296) (x:Int)=((x+4294967296*y:Nat):Int):=by
 have e:=u64_or_nat (4294967296*y) x (by omega) (by omega);have a:=k1p (i:=32) (b:=x) hx y;have c:((4294967296*y:Nat):Int)=(y:Int)*4294967296:=by omega
 rw[c] at e;rw[e];have d:4294967296*y+x=4294967296*y ||| x:=a;rw[<- d,k0Z]
theorem q0X{k:IntKind}{a b:Int}(h:a=b):Ending.returned (.int k a)=.returned (.int k b):=by rw[h]
theorem q56{a b:Bool}(h:a=b):Ending.returned (.bool a)=.returned (.bool b):=by rw[h]
theorem q0n(h:Below B a w)(n:Nat):Below B a (w.drewN n):=⟨h.os,h.tape,h.output,h.size,h.block⟩
theorem Own.drewN(h:Own w g t U)(n:Nat):Own (w.drewN n) g t U:=h
theorem Rd.drewN(h:Rd w A n c xs)(k:Nat):Rd (w.drewN k) A n c xs:=⟨h.len,h.le,h.sm,h.lim,h.cell⟩
theorem Rd.copyPos(h:Rd w A n c xs){d:Option qd}{e:Option qd}(hd:d=e):0<(q0k xs).length->d=e/\∃ad,A=qc ad/\∀j v,(q0k xs)[j]?=qc v->w.cell? (ad.add j)=qc v:=by
 intro k;have l:(q0k xs).length=n:=by simp [q0k,h.len]
 obtain⟨b,off,rfl,m,g⟩:=h.cell (by omega);refine⟨hd,_,rfl,fun j v hj=>?_⟩;have f:j<xs.length:=by
  rcases k0A j xs.length with a|a
  ·exact a
  ·rw[k15 (by simp [q0k];omega)] at hj;cases hj
 rw[q2b xs f] at hj;cases hj;have i:=g j (by have:=h.len;omega);rw[<- i];unfold Addr.add;split
 ·rename_i h0;subst h0;simp
 ·rfl
theorem qdk(x y z:Nat)(hx:x<4294967296)(hy:y<=1)(hz:z<4294967296)(d q:Nat)(hd:d<4294967296)(hq:q<=1)(h:d+z+y=x+4294967296*q):IntKind.u64.wrap (IntKind.u64.wrap ((x:Int)-(y:Int))-(z:Int))/9223372036854775808=(q:Int)/\IntKind.u64.wrap (IntKind.u64.wrap ((x:Int)-(y:Int))-(z:Int))%4294967296=(d:Int):=by rw[qb,qb];omega
theorem qc0(x y:Nat)(hx:x<4294967296)(hy:y<=1)(d q:Nat)(hd:d<4294967296)(hq:q<=1)(h:d+y=x+4294967296*q):IntKind.u64.wrap ((x:Int)-(y:Int))/9223372036854775808=(q:Int)/\IntKind.u64.wrap ((x:Int)-(y:Int))%4294967296=(d:Int):=by rw[qb];omega
def Fr(B:Nat)(A:Option qd):Prop:=∀a,A=qc a->B<=a.block/\a.off=0
theorem Fr.mono{B':Nat}(h:Fr B' A)(hB:B<=B'):Fr B A:=fun a e=>⟨k07 hB (h a e).1,(h a e).2⟩
theorem Fr.none_(B:Nat):Fr B qe:=fun _ e=>by cases e
theorem Fr.at_{a:qd}(h:B<=a.block)(h0:a.off=0:=by rfl):Fr B (qc a):=fun _ e=>by cases e;exact⟨h,h0⟩
def q0g(N:Nat)(w:qa)(e:Ending)(w':qa):Prop:=∃A m c,e=.returned (.slice A m c)/\Rd w' A m c (toL N)/\Fr w.heap.size A/\Below w.heap.size w w'
theorem q3V{row:Option Nat}(h:a.grownBy w row)(n:Nat):a.grownBy (w.drewN n) row:=⟨h.os,h.tape,h.output,h.size,h.block⟩
theorem only_setCell(h:a.grownBy w (qc g))(hp:p.block=g\/a.heap.size<=p.block)(u:qf):a.grownBy (w.setCell p u) (qc g):=⟨h.os,h.tape,h.output,by simpa [World.setCell] using h.size,fun i hi hne=>(Below.heap_setCell w p u i (by
  rintro rfl;rcases hp with hp|hp
  ·exact hne (by rw[hp])
  ·omega)).trans (h.block i hi hne)⟩
theorem q1o(h:a.grownBy w (qc g))(hp:p.block<a.heap.size)(hne:p.block≠g):w.cell? p=a.cell? p:=World.cell?_of_block (h.block p.block hp (fun e=>hne (by injection e)))
theorem q0a{b c:qa}(h:Below B a b)(k:b.grownBy c (qc g))(hB:B<=b.heap.size)(hg:B<=g):Below B a c:=⟨k.os.trans h.os,k.tape.trans h.tape,k.output.trans h.output,k07 h.size k.size,fun i hi=>(k.block i (by omega) (fun e=>by injection e;omega)).trans (h.block i hi)⟩
theorem Rd.only(h:Rd w A n c xs)(hb:w.grownBy w' (qc g))(hne:∀a,A=qc a->a.block≠g):Rd w' A n c xs:=⟨h.len,h.le,h.sm,h.lim,fun hn=>by obtain⟨b,off,e,hlt,hc⟩:=h.cell hn;exact⟨b,off,e,k03 hlt hb.size,fun j hj=>(q1o hb (p:=⟨b,off+j,qe⟩) hlt (show b≠g from hne ⟨b,off,qe⟩ e)).trans (hc j hj)⟩⟩
theorem Rd.drop{b off:Nat}(h:Rd w (qc ⟨b,off,qe⟩) n c xs)(hk:k<=n):Rd w (qc ⟨b,off+k,qe⟩) (n-k) (c-k) (xs.drop k):=by have g:=h.le;refine⟨by rw[k0t,h.len],by omega,by have:=h.sm;omega,q13 h.lim _,fun hp=>?_⟩;obtain⟨i,f,e,a,d⟩:=h.cell (by omega);cases e;refine⟨b,off+k,rfl,a,fun j hj=>?_⟩;rw[q0I,k1M];exact d _ (by omega)
theorem Rd.drop0(h:Rd w A n c xs)(hk:k=c)(A':Option qd):Rd w A' (n-k) (c-k) (xs.drop k):=by have a:=h.le;have b:xs.length=n:=h.len;refine⟨by rw[k0t,h.len],by omega,by have:=h.sm;omega,q13 h.lim _,fun hp=>absurd hp (by omega)⟩
theorem Rd.lt(h:Rd w A n c xs):val xs<4294967296^n:=by rw[<- h.len];exact q0Y h.lim
theorem Rd.words{N:Nat}(h:Rd w A n c (toL N)):words N=n:=h.len
theorem _root_.Go.RowKit.Hid.o{p:Prop}(h:Hid p):p:=h
theorem vv{p:Prop}(h:p):Hid p:=h
theorem vn(h:Hid (Below a.heap.size a w))(k:Below w.heap.size w w'):Hid (Below a.heap.size a w'):=vv (h.out.trans (k.mono h.out.size))
theorem yx(a:α):∃x,x=a:=Exists.intro a rfl
theorem lr{a:Nat}:a<=a:=Nat.le_refl a
theorem sa(l:List α)(i:Nat)(a:α):l.toArray.setIfInBounds i a=(l.set i a).toArray:=List.setIfInBounds_toArray l i a
theorem sb(x a:α)(l:List α):(x::l).set 0 a=a::l:=rfl
theorem sc(x a:α)(l:List α)(n:Nat):(x::l).set (n+1) a=x::l.set n a:=rfl
end
end Go.Proofs.YtabcgemembkkcaaGreatDoor
