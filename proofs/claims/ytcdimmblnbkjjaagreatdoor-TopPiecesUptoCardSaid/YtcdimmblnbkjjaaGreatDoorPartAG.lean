/- Lemmas. -/
import Derived.WalkKit
import Derived.Handy
import Derived.Lib.Hide
import Derived.Deep.OwnRows
import Derived.Deep.Draws
import Derived.Laws.BitsAllLaws
import Derived.Test.YtcdimmblnbkjjaaGreatDoorPartAA
set_option linter.all false
namespace Go.Proofs.YtcdimmblnbkjjaaGreatDoor
open Go Go.RowKit
structure Rd(w:World)(A:Option Addr)(n c:Nat)(xs:List Nat):Prop where
 len:xs.length=n
 le:n<=c
 sm:n<=35184372088832
 lim:Lim xs
 cell:0<n->∃b off,A=some ⟨b,off,none⟩/\b<w.heap.size/\∀j,j<n->w.cell? ⟨b,off+j,none⟩=some (.int .u32 ((nth xs j:Nat):Int))
theorem Rd.below{B:Nat}{w w':World}{A:Option Addr}{n c:Nat}{xs:List Nat}(h:Rd w A n c xs)(hb:Below B w w')(hB:B=w.heap.size):Rd w' A n c xs:=
 ⟨h.len,h.le,h.sm,h.lim,fun hn=>by
  obtain⟨b,off,e,hlt,hc⟩:=h.cell hn;exact⟨b,off,e,Nat.lt_of_lt_of_le hlt hb.size,fun j hj=>(hb.cell (p:=⟨b,off+j,none⟩) (by rw[hB];exact hlt)).trans (hc j hj)⟩⟩
theorem Rd.nth_lt{w:World}{A:Option Addr}{n c:Nat}{xs:List Nat}(h:Rd w A n c xs)(i:Nat):nth xs i<4294967296:=q1D h.lim i
theorem Rd.take{w:World}{A:Option Addr}{n c:Nat}{xs:List Nat}(h:Rd w A n c xs){k:Nat}(hk:k<=n):Rd w A k c (xs.take k):=
 ⟨by rw[List.length_take,h.len];omega,Nat.le_trans hk h.le,Nat.le_trans hk h.sm,q0t h.lim _,fun hp=>by
  obtain⟨b,off,e,hb,hc⟩:=h.cell (by omega);exact⟨b,off,e,hb,fun j hj=>by rw[hc j (by omega),q3X xs k j hj]⟩⟩
theorem Rd.nil(w:World):Rd w none 0 0 []:=⟨rfl,Nat.le_refl _,Nat.zero_le _,q11,fun h=>absurd h (by omega)⟩
def Nt(w:World)(v:Value)(n:Nat):Prop:=∃A m c,v=.slice A m c/\Rd w A m c (toL n)
def Own(w:World)(g:Nat)(t:TypeId)(U:List Nat):Prop:=w.rowIs g t U.length (fun j=>.int .u32 ((nth U j:Nat):Int))/\Lim U
theorem Own.lt{w:World}{g:Nat}{t:TypeId}{U:List Nat}(h:Own w g t U):g<w.heap.size:=h.1.lt
theorem Own.cell{w:World}{g:Nat}{t:TypeId}{U:List Nat}(h:Own w g t U){i:Nat}(hi:i<U.length):w.cell? ⟨g,i,none⟩=some (.int .u32 ((nth U i:Nat):Int)):=h.1.cell hi
theorem Own.frozen{w:World}{g:Nat}{t:TypeId}{U:List Nat}(h:Own w g t U)(i:Nat):w.frozen? ⟨g,i,none⟩=false:=h.1.frozen i
theorem Own.nth_lt{w:World}{g:Nat}{t:TypeId}{U:List Nat}(h:Own w g t U)(i:Nat):nth U i<4294967296:=q1D h.2 i
theorem Own.set{w:World}{g:Nat}{t:TypeId}{U:List Nat}(h:Own w g t U){i x:Nat}{z:Int}(hi:i<U.length)(hx:x<4294967296)(hz:z=(x:Int)):Own (w.setCell ⟨g,i,none⟩ (.int .u32 z)) g t (U.set i x):=by
 subst hz;refine⟨?_,q7G h.2 i hx⟩;rw[List.length_set];refine(h.1.set i _).congr fun j _=>?_
 rw[q0M U i x j hi];split<;>rfl
theorem Own.alloc{w:World}{g:Nat}{t:TypeId}{U:List Nat}(h:Own w g t U)(o:Obj):Own (w.alloc o) g t U:=⟨h.1.alloc o,h.2⟩
theorem Own.drew{w:World}{g:Nat}{t:TypeId}{U:List Nat}(h:Own w g t U):Own w.drew g t U:=h
theorem Own.setOther{w:World}{g:Nat}{t:TypeId}{U:List Nat}(h:Own w g t U){a:Addr}(ha:g≠a.block)(v:Value):Own (w.setCell a v) g t U:=⟨h.1.setOther ha v,h.2⟩
theorem Own.below{B:Nat}{w w':World}{g:Nat}{t:TypeId}{U:List Nat}(h:Own w g t U)(hb:Below B w w')(hg:g<B):Own w' g t U:=⟨h.1.of_block (hb.block g hg),h.2⟩
theorem Own.made(w:World)(n:Nat)(t:TypeId):Own (w.alloc (.cells (madeCells #[.int .u32 0] n) t)) w.heap.size t (List.replicate n 0):=by
 refine⟨?_,q1C n⟩;rw[List.length_replicate];exact(World.rowIs_made w _ n t).congr fun i _=>by rw[q19];rfl
theorem Own.rd{w:World}{g:Nat}{t:TypeId}{U:List Nat}(h:Own w g t U){n c:Nat}(hn:n=U.length)(hc:n<=c)(hs:n<=35184372088832):Rd w (some ⟨g,0,none⟩) n c U:=
 ⟨hn.symm,hc,hs,h.2,fun _=>⟨g,0,rfl,h.lt,fun j hj=>by rw[Nat.zero_add];exact h.cell (by omega)⟩⟩
def q0w(U:List Nat):List Value:=U.map fun(x:Nat)=>Value.int .u32 (x:Int)
theorem q2i(U:List Nat){i:Nat}(h:i<U.length):(q0w U)[i]?=some (.int .u32 ((nth U i:Nat):Int)):=by
 unfold q0w nth;rw[List.getElem?_map,List.getD_eq_getElem?_getD,List.getElem?_eq_getElem h]
 rfl
theorem q3S(U:List Nat):∀v∈q0w U,v.oneCell'=true:=by
 intro v hv;unfold q0w at hv;obtain⟨x,_,rfl⟩:=List.mem_map.1 hv
 rfl
theorem Own.of_heap{w:World}{g:Nat}{t:TypeId}{U:List Nat}(h:w.heap[g]?=some (.cells (q0w U).toArray t (0,0)))(hl:Lim U):Own w g t U:=
 ⟨⟨_,h,by simp [q0w],fun i hi=>by rw[List.getElem?_toArray];exact q2i U hi⟩,hl⟩
theorem Own.heap{w:World}{g:Nat}{t:TypeId}{U:List Nat}(h:Own w g t U):w.heap[g]?=some (.cells (q0w U).toArray t (0,0)):=by
 obtain⟨c,hb,hn,hc⟩:=h.1;rw[hb];congr 2
 apply Array.ext_getElem?
 intro i;by_cases hi:i<U.length
 ·rw[hc i hi,List.getElem?_toArray,q2i U hi]
 ·rw[Array.getElem?_eq_none (by omega),List.getElem?_toArray,List.getElem?_eq_none (by simp [q0w];omega)]
theorem Own.lit{w:World}{t:TypeId}(U:List Nat)(hl:Lim U){c:Array Value}(hc:c=(q0w U).toArray):Own (w.alloc (.cells c t)) w.heap.size t U:=by
 subst hc;exact Own.of_heap (heap_alloc_new w _) hl
theorem qaR(x y:Nat)(hx:x<4294967296)(hy:y<4294967296):bits .or .u64 ((y:Int)*4294967296) (x:Int)=((x+4294967296*y:Nat):Int):=by
 have e:=u64_or_nat (4294967296*y) x (by omega) (by omega);have h2:=Nat.two_pow_add_eq_or_of_lt (i:=32) (b:=x) hx y;have e2:((4294967296*y:Nat):Int)=(y:Int)*4294967296:=by omega
 rw[e2] at e;rw[e];have h3:4294967296*y+x=4294967296*y ||| x:=h2;rw[<- h3,Nat.add_comm]
theorem q0A{k:IntKind}{a b:Int}(h:a=b):Ending.returned (.int k a)=.returned (.int k b):=by rw[h]
theorem q3y{a b:Bool}(h:a=b):Ending.returned (.bool a)=.returned (.bool b):=by rw[h]
theorem q0N{B:Nat}{a w:World}(h:Below B a w)(n:Nat):Below B a (w.drewN n):=⟨h.os,h.tape,h.output,h.size,h.block⟩
theorem Own.drewN{w:World}{g:Nat}{t:TypeId}{U:List Nat}(h:Own w g t U)(n:Nat):Own (w.drewN n) g t U:=h
theorem Rd.copyPos{w:World}{A:Option Addr}{n c:Nat}{xs:List Nat}(h:Rd w A n c xs){d:Option Addr}{e:Option Addr}(hd:d=e):
  0<(q0w xs).length->d=e/\∃ad,A=some ad/\∀j v,(q0w xs)[j]?=some v->w.cell? (ad.add j)=some v:=by
 intro hp;have hl:(q0w xs).length=n:=by simp [q0w,h.len]
 obtain⟨b,off,rfl,hb,hc⟩:=h.cell (by omega);refine⟨hd,_,rfl,fun j v hj=>?_⟩;have a0:j<xs.length:=by
  rcases Nat.lt_or_ge j xs.length with h1|h1
  ·exact h1
  ·rw[List.getElem?_eq_none (by simp [q0w];omega)] at hj;cases hj
 rw[q2i xs a0] at hj;cases hj
 have h2:=hc j (by have:=h.len;omega);rw[<- h2];unfold Addr.add;split
 ·rename_i h0;subst h0;simp
 ·rfl
theorem qbk(x y z:Nat)(hx:x<4294967296)(hy:y<=1)(hz:z<4294967296)(d q:Nat)(hd:d<4294967296)(hq:q<=1)(h:d+z+y=x+4294967296*q):
  IntKind.u64.wrap (IntKind.u64.wrap ((x:Int)-(y:Int))-(z:Int))/9223372036854775808=(q:Int)/\IntKind.u64.wrap (IntKind.u64.wrap ((x:Int)-(y:Int))-(z:Int))%4294967296=(d:Int):=by
 rw[IntKind.wrap_u64,IntKind.wrap_u64];omega
theorem qaw(x y:Nat)(hx:x<4294967296)(hy:y<=1)(d q:Nat)(hd:d<4294967296)(hq:q<=1)(h:d+y=x+4294967296*q):
  IntKind.u64.wrap ((x:Int)-(y:Int))/9223372036854775808=(q:Int)/\IntKind.u64.wrap ((x:Int)-(y:Int))%4294967296=(d:Int):=by
 rw[IntKind.wrap_u64];omega
def Fr(B:Nat)(A:Option Addr):Prop:=∀a,A=some a->B<=a.block/\a.off=0
theorem Fr.mono{B B':Nat}{A:Option Addr}(h:Fr B' A)(hB:B<=B'):Fr B A:=fun a e=>⟨Nat.le_trans hB (h a e).1,(h a e).2⟩
theorem Fr.none_(B:Nat):Fr B none:=fun _ e=>by cases e
theorem Fr.at_{B:Nat}{a:Addr}(h:B<=a.block)(h0:a.off=0:=by rfl):Fr B (some a):=fun _ e=>by cases e;exact⟨h,h0⟩
def q0e(N:Nat)(w:World)(e:Ending)(w':World):Prop:=∃A m c,e=.returned (.slice A m c)/\Rd w' A m c (toL N)/\Fr w.heap.size A/\Below w.heap.size w w'
theorem q3I{a w:World}{row:Option Nat}(h:a.grownBy w row)(n:Nat):a.grownBy (w.drewN n) row:=⟨h.os,h.tape,h.output,h.size,h.block⟩
theorem q4o{a w:World}{row:Option Nat}(h:a.grownBy w row):a.grownBy w.drew row:=⟨h.os,h.tape,h.output,h.size,h.block⟩
theorem q0n{a w:World}{row:Option Nat}(h:a.grownBy w row)(o:Obj):a.grownBy (w.alloc o) row:=
 ⟨h.os,h.tape,h.output,Nat.le_trans h.size (by simp),fun i hi hne=>(Below.heap_alloc w o i (Nat.lt_of_lt_of_le hi h.size)).trans (h.block i hi hne)⟩
theorem q07{a w:World}{g:Nat}(h:a.grownBy w (some g)){p:Addr}(hp:p.block=g\/a.heap.size<=p.block)(u:Value):a.grownBy (w.setCell p u) (some g):=
 ⟨h.os,h.tape,h.output,by simpa [World.setCell] using h.size,fun i hi hne=>(Below.heap_setCell w p u i (by
  rintro rfl;rcases hp with hp|hp
  ·exact hne (by rw[hp])
  ·omega)).trans (h.block i hi hne)⟩
theorem q0j{a w:World}(h:Below a.heap.size a w)(row:Option Nat):a.grownBy w row:=⟨h.os,h.tape,h.output,h.size,fun i hi _=>h.block i hi⟩
theorem q02{a b c:World}{row:Option Nat}(h:a.grownBy b row)(k:b.grownBy c row):a.grownBy c row:=
 ⟨k.os.trans h.os,k.tape.trans h.tape,k.output.trans h.output,Nat.le_trans h.size k.size,fun i hi hn=>(k.block i (Nat.lt_of_lt_of_le hi h.size) hn).trans (h.block i hi hn)⟩
theorem q0y{a w:World}{g:Nat}(h:a.grownBy w (some g)){p:Addr}(hp:p.block<a.heap.size)(hne:p.block≠g):w.cell? p=a.cell? p:=World.cell?_of_block (h.block p.block hp (fun e=>hne (by injection e)))
theorem q0a{B g:Nat}{a b c:World}(h:Below B a b)(k:b.grownBy c (some g))(hB:B<=b.heap.size)(hg:B<=g):Below B a c:=
 ⟨k.os.trans h.os,k.tape.trans h.tape,k.output.trans h.output,Nat.le_trans h.size k.size,fun i hi=>(k.block i (by omega) (fun e=>by injection e;omega)).trans (h.block i hi)⟩
theorem Rd.only{w w':World}{A:Option Addr}{n c g:Nat}{xs:List Nat}(h:Rd w A n c xs)(hb:w.grownBy w' (some g))(hne:∀a,A=some a->a.block≠g):Rd w' A n c xs:=
 ⟨h.len,h.le,h.sm,h.lim,fun hn=>by
  obtain⟨b,off,e,hlt,hc⟩:=h.cell hn;exact⟨b,off,e,Nat.lt_of_lt_of_le hlt hb.size,fun j hj=>(q0y hb (p:=⟨b,off+j,none⟩) hlt (show b≠g from hne ⟨b,off,none⟩ e)).trans (hc j hj)⟩⟩
theorem Rd.drop{w:World}{b off n c:Nat}{xs:List Nat}(h:Rd w (some ⟨b,off,none⟩) n c xs){k:Nat}(hk:k<=n):Rd w (some ⟨b,off+k,none⟩) (n-k) (c-k) (xs.drop k):=by
 have hl:=h.le;refine⟨by rw[List.length_drop,h.len],by omega,by have:=h.sm;omega,q0F h.lim _,fun hp=>?_⟩;obtain⟨b',off',e,hb,hc⟩:=h.cell (by omega);cases e
 refine⟨b,off+k,rfl,hb,fun j hj=>?_⟩;rw[q0s,Nat.add_assoc];exact hc _ (by omega)
theorem Rd.drop0{w:World}{A:Option Addr}{n c:Nat}{xs:List Nat}(h:Rd w A n c xs){k:Nat}(hk:k=c)(A':Option Addr):Rd w A' (n-k) (c-k) (xs.drop k):=by
 have hl:=h.le;have hn:xs.length=n:=h.len;refine⟨by rw[List.length_drop,h.len],by omega,by have:=h.sm;omega,q0F h.lim _,fun hp=>absurd hp (by omega)⟩
theorem Rd.lt{w:World}{A:Option Addr}{n c:Nat}{xs:List Nat}(h:Rd w A n c xs):val xs<4294967296^n:=by rw[<- h.len];exact q0G h.lim
theorem Rd.words{w:World}{A:Option Addr}{n c N:Nat}(h:Rd w A n c (toL N)):words N=n:=h.len
theorem _root_.Go.RowKit.Hid.o{p:Prop}(h:Hid p):p:=h
theorem vv{p:Prop}(h:p):Hid p:=h
theorem vn{a w w':World}(h:Hid (Below a.heap.size a w))(k:Below w.heap.size w w'):Hid (Below a.heap.size a w'):=vv (h.out.trans (k.mono h.out.size))
theorem yx{α:Type}(a:α):∃x,x=a:=Exists.intro a rfl
theorem lr{a:Nat}:a<=a:=Nat.le_refl a
theorem sa{α:Type}(l:List α)(i:Nat)(a:α):l.toArray.setIfInBounds i a=(l.set i a).toArray:=List.setIfInBounds_toArray l i a
theorem sb{α:Type}(x a:α)(l:List α):(x::l).set 0 a=a::l:=rfl
theorem sc{α:Type}(x a:α)(l:List α)(n:Nat):(x::l).set (n+1) a=x::l.set n a:=rfl
end Go.Proofs.YtcdimmblnbkjjaaGreatDoor
