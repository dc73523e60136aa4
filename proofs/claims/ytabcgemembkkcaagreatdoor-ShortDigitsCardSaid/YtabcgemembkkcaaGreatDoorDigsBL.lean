/- Lemmas. -/
import Derived.Test.YtabcgemembkkcaaGreatDoorDigsBI
import Derived.Lib.ItoaLen
import Derived.Lib.AppendIntMem
import Derived.Lib.RepeatB
import Derived.Test.YtabcgemembkkcaaGreatDoorDigsAN
set_option linter.all false
set_option maxHeartbeats 8000000
set_option maxRecDepth 100000
open Go.Proofs.Tryz
open Decidable renaming decide->qa
open Go.Proofs.Tryz renaming prog->qb
open Go renaming World->qc,wpList_append_own->qf,Value->qh,World.grownBy.refl->qi,Calls->qj,cell_one_new->qk,Lib.decDigits_one->ql
open Option renaming none->qd,some->qe
open Go.RowKit renaming Below->qg
namespace Go.Proofs.YtabcgemembkkcaaGreatDoor
variable{b N k g m c i G base n p s X k0:Nat}{w w':qc}{t e:TypeId}{U:List Nat}{xs:List qh}{v:qh}
namespace Bld
open Go Go.RowKit R5
end Bld
namespace Hx
open Go Go.RowKit R5 Scn Fms Exa
def hx(d:Nat):UInt8:=([48,49,50,51,52,53,54,55,56,57,97,98,99,100,101,102]:List UInt8).getD d 0
def hexL(N:Nat):Nat->List UInt8
 | 0=>[]
 | k+1=>hx (N/16^k%16)::hexL N k
def qbO(neg:Bool)(l:List UInt8)(x:Int):List UInt8:=(if neg then[45] else[])++([48,120]++l.take 1++(if 1<l.length then 46::l.drop 1 else[])++112::Lib.itoa x)
def oddN(M:Nat):Nat:=if M=0 then 0 else M/2^tz M
def qeq(M:Nat)(p:Int):Int:=if M=0 then 0 else p+(tz M:Int)
def qer(neg:Bool)(M:Nat):Bool:=if M=0 then false else neg
def qff(neg g:Bool)(N:Nat)(x:Int)(w:qc)(e:Ending)(w':qc):Prop:=
 ∃A m,e=.returned (.tuple #[q0q g A m m x,.bool neg,.int .i64 0])/\Rd w' A m m (toL N)/\Fr w.heap.size A/\qg w.heap.size w w'
def qey(E F b:Nat):List UInt8:=[48,120]++hexL b ((E+F+4)/4)
def up4(s:Nat):Nat:=(4-(s-1)%4)%4
def qdW(neg:Bool)(N:Nat)(x:Int):List UInt8:=
 if N=0 then qbO neg [48] 0 else qbO neg (hexL (N*2^up4 (bl N)) ((bl N+up4 (bl N)+3)/4)) (x+(bl N:Int)-1)
end Hx
namespace B
open AB
open Go Go.RowKit Scn Hx
def fgN(b N i:Nat):Nat:=(hx (N/b^i%b)).toNat
def q55(b N t:Nat):List Nat:=(List.range t).map (fgN b N)
theorem q3i(b N t:Nat):q55 b N (t+1)=q55 b N t++[fgN b N t]:=by unfold q55;rw[List.range_succ,k2O];rfl
theorem q99(b N t i:Nat)(h:i<t):nth (q55 b N t) i=fgN b N i:=by unfold nth q55;rw[k0b,k1S,List.getElem?_range h];rfl
def q3w(b N:Nat):Nat->List Nat
 | 0=>[]
 | k+1=>fgN b N k::q3w b N k
theorem q2G(b N:Nat):∀k,(q3w b N k).length=k
 | 0=>rfl
 | k+1=>by rw[q3w,k2o,q2G b N k]
theorem q6p(b N:Nat):∀(k i:Nat),i<k->nth (q3w b N k) i=fgN b N (k-1-i)
 | 0,i,h=>absurd h (by omega)
 | k+1,0,_=>rfl
 | k+1,i+1,h=>by show nth (q3w b N k) i=_;rw[q6p b N k i (by omega)];congr 1;omega
structure HasLen(b N k:Nat):Prop where
 lt:N<b^k
 ge:0<k->b^(k-1)<=N
theorem HasLen.uniq{l:Nat}(hb:2<=b)(h:HasLen b N k)(h':HasLen b N l):k=l:=by
 rcases k1K k l with e|e|e
 ·have a:=h'.ge (by omega);have c:b^k<=b^(l-1):=k00 (by omega) (by omega);have:=h.lt;omega
 ·exact e
 ·have a:=h.ge (by omega);have c:b^l<=b^(k-1):=k00 (by omega) (by omega);have:=h'.lt;omega
theorem qba(b N i:Nat)(hb:0<b)(h:N<b^i):fgN b N i=48:=by unfold fgN;rw[k0K h,Nat.zero_mod];rfl
theorem qdD(b N i:Nat):fgN b N i<256:=(hx _).toNat_lt
theorem q98(b N k K:Nat)(hb:2<=b)(h:N<b^k)(i:Nat)(hi:k<=i):fgN b N i=48:=qba b N i (by omega) (k03 h (k00 (by omega) hi))
structure BlkOk(b p:Nat):Prop where
 two:2<=b
 le:b<=16
 one:1<=p
 few:p<=9
 lo:∀q,q<p->b^q<=4294967295/b
 hi:4294967295/b<b^p
 top:b^p<4294967296
theorem qcM:BlkOk 10 9:=⟨by decide,by decide,by decide,by decide,by decide,by decide,by decide⟩
theorem qcf{xs:List Nat}(hO:Own w g t U)(hR:Rd w (qe ⟨g,0,qd⟩) m c xs)(hm:m<=U.length)(hi:i<m):nth U i=nth xs i:=by obtain⟨b,off,e,_,d⟩:=hR.cell (by omega);cases e;have a:=d i hi;have f:=hO.cell (i:=i) (by omega);rw[k10,f] at a;injection a with a;injection a with _ a;omega
theorem q9g(h:U.length<=i):nth U i=0:=by unfold nth;rw[k0b,k15 h];rfl
theorem q7E{xs:List Nat}(h:Rd w (qe ⟨G,0,qd⟩) m c xs)(hb:w'.heap[G]?=w.heap[G]?):Rd w' (qe ⟨G,0,qd⟩) m c xs:=⟨h.len,h.le,h.sm,h.lim,fun hn=>by
  obtain⟨b,off,e,hlt,hc⟩:=h.cell hn;cases e;refine⟨G,0,rfl,?_,fun j hj=>?_⟩
  ·rw[Array.getElem?_eq_getElem hlt] at hb;exact(k0P.1 hb).1
  ·have:=hc j hj;unfold World.cell? at this ⊢;rw[hb];exact this⟩
theorem q64(h:Own w G t U)(hb:w'.heap[G]?=w.heap[G]?):Own w' G t U:=⟨h.1.of_block hb,h.2⟩
theorem q3W{t:Nat}(hb:2<=b)(h:HasLen b N k)(ht:0<t->b^(t-1)<=N):t<=k:=by
 rcases k0A k t with e|e
 ·have a:=ht (by omega);have c:b^k<=b^(t-1):=k00 (by omega) (by omega);have:=h.lt;omega
 ·exact e
theorem q25{M:Nat}(h:(toL M).length=m)(hm:0<m):0<M:=by
 rcases k01 M with e|e
 ·subst e;have:(toL 0).length=0:=rfl;omega
 ·exact e
theorem q7I(h:q28 w g t U):w.heap[g]?=qe (.cells (u8s U).toArray t (0,0)):=by
 obtain⟨c,a,d,b⟩:=h;rw[a];congr 2;apply Array.ext_getElem?;intro i;by_cases hi:i<U.length
 ·rw[b i hi,k1J,q5e U hi]
 ·rw[k2X (by omega),k1J,k15 (by simp [u8s];omega)]
theorem own8_row(h:q28 w g t U)(hn:U.length=n)(hg:base<=g)(hm:n<=maxLen):w.ownsRow base t 1 (.slice (qe ⟨g,0,qd⟩) n n) n (u8s U):=⟨by simp [u8s,hn],.inr ⟨g,n,(u8s U).toArray,rfl,hg,q7I h,lr,hm,by simp [u8s,hn],by rw[List.toList_toArray];exact k0D (by simp [u8s,hn])⟩⟩
theorem q2w{cap:Nat}(h:w.ownsRow base e 1 (.slice (qe ⟨g,0,qd⟩) n cap) n (u8s U)){i:Nat}(hi:i<n):w.cell? ⟨g,i,qd⟩=qe (.int .u8 ((nth U i:Nat):Int))/\base<=g/\g<w.heap.size:=by
 have j:U.length=n:=by have:=h.1;simpa [u8s] using this
 rcases h.2 with ⟨h,_⟩|⟨m,k,l,c,d,a,o,p,q,f⟩
 ·cases h
 ·cases c;refine⟨?_,d,(k0P.1 a).1⟩;have b:=q5e U (i:=i) (by omega);rw[<- f,k0G,k1d,k0p hi] at b;simp only[World.cell?,a];rw[<- b];simp
theorem q2K(h:w.ownsRow base e 1 v n xs)(hn:0<n):∃g cap,v=.slice (qe ⟨g,0,qd⟩) n cap/\base<=g:=by
 rcases h.2 with ⟨_,d⟩|⟨g,cap,c,a,b,_⟩
 ·omega
 ·exact⟨g,cap,a,b⟩
theorem mk8'(n:Nat)(h:n<=35184372088832)(w:qc):(Instr.makeSlice 229 (.int .i64 (n:Int)) (.int .i64 (n:Int))).run qb w=.ok (.slice (qe ⟨w.heap.size,0,qd⟩) n n) (w.alloc (.cells (madeCells #[.int .u8 0] n) 5)):=run_make_row' (P:=qb) 229 5 (.int .u8 0) 1 underlying229 inf8' rfl .i64 .i64 n (by omega) (by omega) w
theorem qaG{K:Nat}{V:List Nat}(hl:V.length=K)(h:∀i,i<K->nth V i=fgN b N (K-1-i)):V=q3w b N K:=by
 apply List.ext_getElem?;intro i;by_cases hi:i<K
 ·have a:=h i hi;rw[<- q6p b N K i hi] at a;unfold nth at a;rw[k0b,k0b,k0n (by omega),k0n (by rw[q2G];omega)] at a;rw[k0n (by omega),k0n (by rw[q2G];omega)];exact k0z qe a
 ·rw[k15 (by omega),k15 (by rw[q2G];omega)]
def vlen(v:qh):Nat:=match v with|.slice _ n _=>n|_=>0
theorem vlen_row(h:w.ownsRow base e 1 v n xs):vlen v=n:=by
 rcases h.2 with ⟨rfl,a⟩|⟨g,cap,b,rfl,_⟩
 ·exact a.symm
 ·rfl
theorem q4f(h:w.ownsRow base e 1 v n xs):∃A cap,v=.slice A n cap:=by
 rcases h.2 with ⟨a,rfl⟩|⟨g,cap,c,b,_⟩
 ·exact⟨qd,0,a⟩
 ·exact⟨_,_,b⟩
theorem len_row(h:w.ownsRow base e 1 v n xs):∀W:qc,(Builtin.len_ #[229] 3 #[v]).run qb W=.ok (.int .i64 (n:Int)) W:=by obtain⟨A,c,rfl⟩:=q4f h;intro W;simp [Builtin.len_,go_sem,underlying229]
theorem row8_lt(h:w.ownsRow base e 1 v n xs):∀b,v.ownBlock=qe b->base<=b/\b<w.heap.size:=by
 intro b a;rcases h.2 with ⟨rfl,i⟩|⟨g,cap,f,rfl,c,d,_⟩
 ·simp [Value.ownBlock] at a
 ·simp [Value.ownBlock] at a;subst a;exact⟨c,(k0P.1 d).1⟩
theorem qdG(d:Nat)(h:d<16)(h':d<(⟨#[48,49,50,51,52,53,54,55,56,57,97,98,99,100,101,102,103,104,105,106,107,108,109,110,111,112,113,114,115,116,117,118,119,120,121,122]⟩:ByteArray).size):(⟨#[48,49,50,51,52,53,54,55,56,57,97,98,99,100,101,102,103,104,105,106,107,108,109,110,111,112,113,114,115,116,117,118,119,120,121,122]⟩:ByteArray)[d]=hx d:=by
 match d,h with
 | 0,_=>rfl
 | 1,_=>rfl
 | 2,_=>rfl
 | 3,_=>rfl
 | 4,_=>rfl
 | 5,_=>rfl
 | 6,_=>rfl
 | 7,_=>rfl
 | 8,_=>rfl
 | 9,_=>rfl
 | 10,_=>rfl
 | 11,_=>rfl
 | 12,_=>rfl
 | 13,_=>rfl
 | 14,_=>rfl
 | 15,_=>rfl
 | d+16,h=>exact absurd h (by omega)
theorem q4q{t:Nat}(hb:2<=b)(hX:X=b^p)(hs:s<p):(N/b^t)%X/b^s%b=N/b^(t+s)%b:=by
 obtain⟨r,rfl⟩:∃r,p=s+1+r:=⟨p-s-1,by omega⟩;rw[hX,k0e b t s,<- k0h];generalize N/b^t=M;rw[k0e,k0d,k0j,<- k1Q,<- k1Q M];have e:M%(b^s*(b*b^r))%(b^s*b)=M%(b^s*b):=by rw[<- k0j];exact Nat.mod_mul_right_mod M (b^s*b) (b^r)
 rw[e]
theorem q6o{t:Nat}(hb:2<=b)(hX:X=b^p)(hs:s<p)(h:0<N/b^t/X\/0<(N/b^t)%X/b^s):b^(t+s)<=N:=by
 have e:0<b^s:=k1g (by omega);have c:0<b^t:=k1g (by omega);have d:b^s<=N/b^t:=by
  rcases h with h|h
  ·have a:X<=N/b^t:=by
    rcases k0A (N/b^t) X with k|k
    ·rw[k0K k] at h;omega
    ·exact k
   have f:b^s<=X:=by rw[hX];exact k00 (by omega) (by omega)
   omega
  ·have a:b^s<=(N/b^t)%X:=by
    rcases k0A ((N/b^t)%X) (b^s) with k|k
    ·rw[k0K k] at h;omega
    ·exact k
   exact k07 a (Nat.mod_le _ _)
 rw[k0e,k0g];exact(k1v c).1 d
theorem q8h{t:Nat}(hb:2<=b)(hX:X=b^p)(hs:s<=p)(h:s=p\/(N/b^t/X=0/\(N/b^t)%X/b^s=0)):N/b^(t+s)=N/b^t/X:=by
 rw[k0e,<- k0h];rcases h with h|⟨d,a⟩
 ·rw[h,hX]
 ·generalize N/b^t=M at *
  have c:0<X:=by rw[hX];exact k1g (by omega)
  have e:M<X:=by
   rcases k0A M X with k|k
   ·exact k
   ·have:=k2d k c;omega
  rw[k0E e] at a;rw[d,a]
end B
namespace Bld
open Go Go.RowKit R5
end Bld
namespace Rpt
open Go Go.RowKit R5 Scn
abbrev qdZ:ByteArray:=⟨#[48]⟩
def nts(c:Nat):ByteArray:=⟨(List.replicate c 48).toArray⟩
abbrev K0:ByteArray:=⟨#[48,48,48,48,48,48,48,48,48,48,48,48,48,48,48,48,48,48,48,48,48,48,48,48,48,48,48,48,48,48,48,48,48,48,48,48,48,48,48,48,48,48,48,48,48,48,48,48,48,48,48,48,48,48,48,48,48,48,48,48,48,48,48,48]⟩
abbrev cs(q:Nat):List qh:=Lib.byteCells (List.replicate q 48)
end Rpt
namespace Hx
open Go Go.RowKit R5 Scn Fms Exa
end Hx
namespace B
open AB
open Go Go.RowKit Scn Hx
def qda(b N K:Nat)(w:qc)(e:Ending)(w':qc):Prop:=
 ∃v,e=.returned v/\w'.ownsRow w.heap.size 5 1 v K (u8s (q3w b N K))/\qg w.heap.size w w'
theorem q5X(A:Option Addr)(n c N b p k:Nat)(least:Int)(w:qc)(hB:BlkOk b p)(ha:Rd w A n c (toL N))(hn:n<=40)(hk:HasLen b N k)(hk1:k<=2000)(hl:least<=70000):qj qb 349 #[.slice A n c,.int .i64 (b:Int),.int .i64 least] w (qda b N (max least.toNat k) w):=by
 obtain⟨i0,hi,c3,c4,c5⟩:=info_parts inf8';have f1:=vv (copied A n c _ w ha);have a:=vv hB;have HK:=vv hk;have m8:(n:Int)<=40:=by omega
 have m9:(b:Int)<=16:=by have:=hB.le;omega
 have n0:(2:Int)<=(b:Int):=by have:=hB.two;omega
 have c6:(p:Int)<=9:=by have:=hB.few;omega
 obtain⟨Q,hQ⟩:=yx (4294967295/b);have f2:(4294967295:Int)/(b:Int)=(Q:Int):=by rw[hQ,k1n];rfl
 have f3:(Q:Int)<=4294967295:=by have:=k0q 4294967295 b;omega
 have HQ:=vv hQ;have k1:Hid (least<=70000):=vv hl;have HN:=vv hn;have f4:Hid (n=(toL N).length):=vv ha.len.symm;have a2:=vv hk1;clear hB ha hk hn hk1 hl hQ;go_enter func349,ntmps349;go_wp2_with fail;go_loopw [10,11] (fun x y wr=>∃q X:Nat,1<=q/\q<=p/\X=b^q/\x=.int .u32 (X:Int)/\y=.int .i64 (q:Int)/\wr=w) (fun _ y _=>(9-intOf y).toNat)
 case atStart=>exact⟨1,b,lr,a.o.one,(k1A b).symm,rfl,rfl,rfl⟩
 case round =>
  obtain⟨q,X,h1,k2,hX,rfl,rfl,c7⟩:=hrel;replace c7:=c7.symm;subst c7;have I:=vv hX;clear hX h1;rcases k0A q p with O|a3
  ·have f5:(X:Int)<=(Q:Int):=by have:=a.o.lo q O;rw[<- I.o,<- HQ.o] at this;omega
   obtain⟨Y,hY⟩:=yx (X*b);have n1:(Y:Int)<=4294967295:=by have h2:X*b<=4294967295:=(k1v (by have:=a.o.two;omega)).1 (by have:=a.o.lo q O;rw[<- I.o] at this;exact this);omega
   have m2:(X:Int)*(b:Int)=(Y:Int):=by rw[hY];simp
   have HY:Hid (Y=b^(q+1)):=vv (by rw[hY,I.o,k0d]);have n2:(q:Int)<=9:=by omega
   clear hY;go_wp2;go_roundw
   case measure=>simp [intOf];omega
   case rel=>exact⟨q+1,Y,by omega,O,HY.o,by first|rfl|go_num,by first|rfl|go_num,by first|trivial|rfl⟩
  ·obtain rfl:q=p:=by omega
   have f5:¬(X:Int)<=(Q:Int):=by have:=a.o.hi;rw[<- I.o,<- HQ.o] at this;omega
   have c8:(X:Int)<4294967296:=by have:=a.o.top;rw[<- I.o] at this;omega
   clear a3 k2 c8;go_wp2_with fail;refine f1.o.mono ?_;rintro e w1 ⟨rfl,f,f6⟩;obtain⟨G,hG⟩:=yx (w.heap.size);have HG:=vv hG;rw[<- hG] at f ⊢;have k3:=vv f;have k4:=vv f6;have k5:Hid (Rd w1 (qe ⟨G,0,qd⟩) n n (toL N)):=vv (f.rd (by rw[f4.o]) lr (by have:=HN.o;omega));clear hG f f6 f1 f5;go_wp2_with fail;go_loopw [0,12] (fun x y wr=>∃(t m:Nat) (U:List Nat),x=.slice (qe ⟨G,0,qd⟩) m n/\m<=n/\U.length=n/\Own wr G 54 U/\Rd wr (qe ⟨G,0,qd⟩) m n (toL (N/b^t))/\(0<t->b^(t-1)<=N)/\t<=k /\wr.ownsRow (G+1) 5 1 y t (u8s (q55 b N t))/\qg w.heap.size w wr) (fun _ y _=>3000-vlen y)
   case atStart=>exact⟨0,n,toL N,rfl,lr,f4.o.symm,k3.o,by rw[k0B,k1b];exact k5.o,fun h=>absurd h (by omega),k0x _,World.ownsRow_nil _ _ _ _,k4.o⟩
   case round =>
    obtain⟨t,m,U,rfl,f7,hU,f,hR,a3,f8,g,u⟩:=hrel;have HU:=vv hU;have HR:=vv hR;have a9:=vv f;have b4:=vv a3;have b0:=vv f8;have a1:=vv g;have f9:=vv (vlen_row g);have b5:=vv u;have a4:=vv f7;have n3:(m:Int)<=40:=by omega
    have b6:=hR.len;obtain⟨M,hM⟩:=yx (N/b^t);have T:=vv hM;rw[<- hM] at HR b6;clear hU hR f a3 f8 g u hM f7;rcases k01 m with b7|b7
    ·subst b7;have g0:M=0:=by have h0:toL M=[]:=k1L.1 b6;exact q2c.1 h0
     have c9:N<b^t:=by
      rw[T.o] at g0;rcases k0A N (b^t) with e|e
      ·exact e
      ·have:=k2d e (k1g (by have:=a.o.two;omega));omega
     obtain rfl:t=k:=HasLen.uniq a.o.two ⟨c9,b4.o⟩ HK.o;have k6:=vv c9;have g2:=a9.o.lt;clear g0 c9 b6 f2 f3 HR a9 a4 b4 b0;go_wp2_with fail;go_loopw [12] (fun y wx=>∃s:Nat,t<=s/\((s:Int)<=least\/s=t)/\wx.ownsRow (G+1) 5 1 y s (u8s (q55 b N s))/\G<wx.heap.size/\qg w.heap.size w wx) (fun y _=>80000-vlen y)
     case atStart=>exact⟨t,lr,.inr rfl,a1.o,g2,b5.o⟩
     case round =>
      obtain⟨s,g3,g4,g,g5,u⟩:=hrel;have d0:=vv g5;have n4:s<=70000:=by have:=k1.o;have:=a2.o;omega
      have v:=vv g;have l:=vv u;have d1:=vv g3;have k7:=vv g4;have C:=row8_lt g;have k8:=vv (vlen_row g);have n5:=len_row g;have k9:(s:Int)<=70000:=by omega
      clear g u g3 g4 g5 g2 a1 b5;by_cases hc:(s:Int)<least
      ·have g6:fgN b N s=48:=q98 b N t s a.o.two k6.o s d1.o;have l0:=vv g6;have l1:=l.o.size;have l2:=vv hc;clear g6;go_wp2_with (at_builtin;refine qf _ rfl _ _ 229 rfl (G+1) 5 i0 (.int .u8 0) 1 1 underlying229 hi c3 c4 c5 rfl (by decide) _ s (u8s (q55 b N s)) rfl (v.o.alloc _) ⟨wr.heap.size,0,qd⟩ 1 1 [.int .u8 48] rfl rfl (qk _ _ _) (by simp [Value.oneCell']) (by unfold maxLen;omega) (by omega) (by have:=d0.o;simp;omega) ?_);intro v' w5 F L _;replace F:w5.ownsRow (G+1) 5 1 v' (s+1) (u8s (q55 b N (s+1))):=by rw[q3i,q4a,l0.o];exact F
       have a0:=vv F;have e8:Hid (G<w5.heap.size):=vv (k03 (by have:=d0.o;simp;omega) L.size);have b1:=vv ((l.o.alloc l1 (.cells #[.int .u8 48] 5)).grown L (by simp;omega) (fun e he=>by have:=(C e he).1;have:=HG.o;omega));clear F L v l C;go_wp2;go_roundw
       case measure =>have e1:=vlen_row a0.o;have e2:=k8.o;omega
       case rel=>exact⟨s+1,by have:=d1.o;omega,.inl (by have:=l2.o;omega),a0.o,e8.o,b1.o⟩
      ·have hK:max least.toNat t=s:=by have:=d1.o;have:=k7.o;omega
       have l3:=vv hK;have n6:=mk8' s (by omega);clear hK;go_wp2_with fail;obtain⟨H,hH⟩:=yx (wr.heap.size);have HH:=vv hH;rw[<- hH] at C ⊢;have g7:G<H:=by rw[hH];exact d0.o
       have g8:=vv g7;have e9:=vv C;clear hH C g7;go_loopw [19] (fun i wx=>∃(j:Nat) (V:List Nat),i=.int .i64 (j:Int)/\j<=s/\V.length=s/\q28 wx H 5 V/\(∀p,p<j->nth V p=fgN b N (s-1-p))/\wx.ownsRow (G+1) 5 1 u12 s (u8s (q55 b N s))/\qg w.heap.size w wx) (fun i _=>s-(intOf i).toNat)
       case atStart =>refine⟨0,List.replicate s 0,rfl,k0x _,k0H,by rw[HH.o];exact q28.made _ _ _,fun p hp=>absurd hp (by omega),v.o.alloc _,l.o.alloc l.o.size _⟩
       case round =>
        obtain⟨j,V,rfl,hj,hV,f,hd,g,u⟩:=hrel;have HV:=vv hV;have g9:=vv f;have i1:=vv hd;have l4:=vv g;have i2:=vv u;have n7:(j:Int)<=70000:=by omega
        rcases k0A j s with b8|b8
        ·obtain⟨g1,c1,hu,n8⟩:=q2K g (by omega);subst hu;obtain⟨r,hr⟩:=yx (s-1-j);obtain⟨l5,n9,o0⟩:=q2w g (i:=r) (by omega);rw[q99 b N s _ (by omega)] at l5;have o1:=f.cell (i:=j) (by omega);have o2:=f.frozen j;have d2:=f.lt;have o3:(j:Int)<(s:Int):=by omega
         have b9:(0:Int)<=(j:Int):=by omega
         have o4:(s:Int)-1-(j:Int)=(r:Int):=by omega
         have o5:(r:Int)<(s:Int):=by omega
         have l6:=vv hr;have d3:=vv b8;clear hr f hd g u hj b8 hV v l;go_wp2;go_roundw
         case measure=>simp [intOf];omega
         case rel =>
          refine⟨j+1,V.set j (fgN b N r),by first|rfl|go_num,by have:=d3.o;omega,by rw[k0c];exact HV.o,g9.o.set (by rw[HV.o];exact d3.o) rfl,fun p hp=>?_,l4.o.kept (Go.Proofs.YtabcgemembkkcaaGreatDoor.only_setCell (qi _ _) (.inl rfl) _) (.inr fun e=>?_),i2.o.setCell (p:=⟨H,j,qd⟩) (by show _<=H;have:=g8.o;have:=HG.o;omega) _⟩
          ·by_cases hpj:p=j
           ·subst hpj;rw[q0H _ p _ p (by rw[HV.o];exact d3.o),k0p rfl,l6.o]
           ·rw[q0i _ _ hpj];exact i1.o p (by omega)
          ·have h1:=(e9.o g1 rfl).2;have h2:qe g1=qe H:=e;injection h2 with h2;omega
        ·obtain rfl:j=s:=by omega
         have i3:V=q3w b N j:=qaG HV.o i1.o;have l7:=vv i3;have o6:¬(j:Int)<(j:Int):=by omega
         clear i3 f hd g u hj b8 v l;go_wp2;go_ret;refine⟨_,rfl,?_,i2.o⟩;rw[l3.o,<- l7.o];exact own8_row g9.o HV.o (by have:=g8.o;have:=HG.o;omega) (by unfold maxLen;omega)
    ·have l8:=vv b7;have o7:(0:Int)<(m:Int):=by omega
     clear b7 b6 f2 f3;go_wp2_with fail;go_loopw [13,14] (fun r i wr'=>∃(j:Nat) (z:Int) (R:Nat) (V:List Nat),i=.int .i64 z/\z+1=j/\j<=m/\r=.int .u64 (R:Int)/\R<X/\R=(M/4294967296^j)%X/\V.length=n/\Own wr' G 54 V /\(∀i,i<j->nth V i=nth (toL M) i)/\(∀i,j<=i->nth (V.take m) i=(M/X)/4294967296^i%4294967296)/\wr'.ownsRow (G+1) 5 1 u12 t (u8s (q55 b N t))/\qg w.heap.size w wr') (fun _ i _=>(intOf i+1).toNat)
     case atStart =>
      have O:=HR.o.lt;rw[q04] at O;have l9:0<X:=by rw[I.o];exact k1g (by have:=a.o.two;omega)
      refine⟨m,_,0,U,rfl,by omega,lr,rfl,l9,by rw[k0K O];simp,HU.o,a9.o,fun i hi=>qcf a9.o HR.o (by rw[HU.o];exact a4.o) hi,fun i hi=>?_,a1.o,b5.o⟩;rw[q9g (by rw[k0v];omega),k0h,k0g,<- k0h,k0K (k03 O (k00 (by decide) hi))];simp
     case round =>
      obtain⟨j,z,R,V,rfl,hz,hj,rfl,d4,i4,i5,f,i6,i7,g,u⟩:=hrel;have i8:=vv i4;have W:=vv i5;have c0:=vv f;have i9:=vv i6;have d5:=vv i7;have d6:=vv g;have d7:=vv u;clear i4 i5 i6 i7 g u a1 b5 a9;rcases k01 j with b9|b9
      ·subst b9;obtain rfl:z = -1:=by omega
       clear hz hj f;have j0:=(c0.o.rd (n:=n) (c:=n) W.o.symm lr (by have:=HN.o;omega)).take a4.o;have hv:val (V.take m)=M/X:=by
        have O:=HR.o.lt;rw[q04] at O;have:=q1g (U:=V.take m) (Q:=M/X) fun i _=>d5.o i (k0x _)
        rw[this,k0v,W.o,k0Y a4.o];exact k0E (k0I (k0q _ _) O)
       have j1:=vv (trim _ _ _ _ _ j0);have j2:=vv hv;have j3:R=M%X:=by have:=i8.o;rwa [k0B,k1b] at this
       have j4:=vv j3;have m0:=vv d4;clear j0 hv j3 d4;go_wp2_with fail;refine j1.o.mono ?_;rintro e w2 ⟨P,rfl,rfl,S⟩;rw[j2.o] at S;have j5:=vv S;have m3:(P:Int)<=40:=by have:=S.le;omega
       have f0:(X:Int)<=4294967295:=by have:=a.o.top;rw[<- I.o] at this;omega
       have o8:(R:Int)<=4294967295:=by have:=m0.o;omega
       have j6:Hid (0<P↔0<M/X):=vv (by
        have:=S.len;constructor
        ·intro h;rcases k01 (M/X) with e|e
         ·rw[e] at this;have:(toL 0).length=0:=rfl;omega
         ·exact e
        ·intro h;rcases k01 P with e|e
         ·have h0:toL (M/X)=[]:=k1L.1 (by omega);have:=q2c.1 h0;omega
         ·exact e)
       clear S j1 j2 f0;go_wp2_with fail;go_loopw [12,16,17] (fun y r i wx=>∃s J:Nat,i=.int .i64 (s:Int)/\s<=q/\r=.int .u32 (J:Int)/\J=M%X/b^s/\wx.ownsRow (G+1) 5 1 y (t+s) (u8s (q55 b N (t+s)))/\(0<t+s->b^(t+s-1)<=N) /\Own wx G 54 V/\Rd wx (qe ⟨G,0,qd⟩) P n (toL (M/X))/\qg w.heap.size w wx) (fun _ _ i _=>(20-intOf i).toNat)
       case atStart=>exact⟨0,R,rfl,k0x _,rfl,by rw[k0B,k1b];exact j4.o,d6.o,b4.o,c0.o,j5.o,d7.o⟩
       case round =>
        obtain⟨s,J,rfl,hs,rfl,S,g,a3,f,j7,u⟩:=hrel;have a5:=vv S;have v:=vv g;have a8:=vv a3;have K:=vv f;have Z:=vv j7;have l:=vv u;have c2:=vv hs;have m4:(J:Int)<=4294967295:=by
         have h1:J<=R:=by rw[S,j4.o];exact k0q _ _
         omega
        have k9:(s:Int)<=9:=by omega
        have C:=(row8_lt g);clear S g a3 f j7 u d6 b4 c0 j5 d7;have b2:Hid (((s:Int)<(q:Int)/\(0:Int)<(P:Int))\/((s:Int)<(q:Int)/\¬(0:Int)<(P:Int)/\(0:Int)<(J:Int))\/((s:Int)<(q:Int)/\¬(0:Int)<(P:Int)/\¬(0:Int)<(J:Int))\/¬(s:Int)<(q:Int)):=vv (by omega);obtain⟨D,hD⟩:=yx (J%b);have o9:(J:Int)%(b:Int)=(D:Int):=by rw[hD,k1x]
        obtain⟨E,hE⟩:=yx (J/b);have p0:(J:Int)/(b:Int)=(E:Int):=by rw[hE,k1n]
        have m5:(E:Int)<=4294967295:=by have:=k0q J b;omega
        have j8:=vv hE;clear hE;have b3:D<16:=by have h1:=k0i J (y:=b) (by have:=a.o.two;omega);have h2:=a.o.le;omega
        have p1:(D:Int)<36:=by omega
        have HD:=vv hD;have p2:=fun h'=>qdG D b3 h'
        clear hD b3;rcases b2.o with ⟨h1,h2⟩|⟨h1,h2,h3⟩|⟨h1,h2,h3⟩|h1
        ·clear b2;have d8:=l.o.size;have d9:=vv (q6o (N:=N) (t:=t) (s:=s) (p:=q) (X:=X) a.o.two I.o (by omega) (.inl (by rw[<- T.o];exact j6.o.1 (by omega))));have e0:Hid ((hx D).toNat=fgN b N (t+s)):=vv (by unfold fgN;rw[HD.o,a5.o,T.o,q4q a.o.two I.o (by omega)]);go_wp2_with (at_builtin;refine qf _ rfl _ _ 229 rfl (G+1) 5 i0 (.int .u8 0) 1 1 underlying229 hi c3 c4 c5 rfl (by decide) _ (t+s) (u8s (q55 b N (t+s))) rfl (v.o.alloc _) ⟨wr.heap.size,0,qd⟩ 1 1 [.int .u8 ((hx D).toNat:Int)] rfl rfl (qk _ _ _) (by simp [Value.oneCell']) (by have:=b0.o;have:=a2.o;unfold maxLen;omega) (by have:=b0.o;have:=a2.o;omega) (by have:=K.o.lt;simp;omega) ?_);intro v' w5 F L _;replace F:w5.ownsRow (G+1) 5 1 v' (t+s+1) (u8s (q55 b N (t+s+1))):=by rw[q3i,q4a,<- e0.o];exact F
         have a6:w5.heap[G]?=wr.heap[G]?:=(L.block G (by have:=K.o.lt;simp;omega) (fun e=>by have:=(C G e.symm).1;omega)).trans (Below.heap_alloc wr _ G K.o.lt);have a0:=vv F;have e6:=vv (q64 K.o a6);have a7:=vv (q7E Z.o a6);have b1:=vv ((l.o.alloc d8 (.cells #[.int .u8 ((hx D).toNat:Int)] 5)).grown L (by simp;omega) (fun e he=>by have:=(C e he).1;have:=HG.o;omega));clear F L a6 v K Z l C;go_wp2;go_roundw
         case measure=>simp [intOf];omega
         case rel =>refine⟨s+1,E,by first|rfl|go_num,by omega,rfl,?_,a0.o,fun _=>d9.o,e6.o,a7.o,b1.o⟩;rw[j8.o,a5.o,k0h,k0d]
        ·clear b2;obtain rfl:P=0:=by omega
         have d8:=l.o.size;have d9:=vv (q6o (N:=N) (t:=t) (s:=s) (p:=q) (X:=X) a.o.two I.o (by omega) (.inr (by rw[<- T.o,<- a5.o];omega)));have e0:Hid ((hx D).toNat=fgN b N (t+s)):=vv (by unfold fgN;rw[HD.o,a5.o,T.o,q4q a.o.two I.o (by omega)]);go_wp2_with (at_builtin;refine qf _ rfl _ _ 229 rfl (G+1) 5 i0 (.int .u8 0) 1 1 underlying229 hi c3 c4 c5 rfl (by decide) _ (t+s) (u8s (q55 b N (t+s))) rfl (v.o.alloc _) ⟨wr.heap.size,0,qd⟩ 1 1 [.int .u8 ((hx D).toNat:Int)] rfl rfl (qk _ _ _) (by simp [Value.oneCell']) (by have:=b0.o;have:=a2.o;unfold maxLen;omega) (by have:=b0.o;have:=a2.o;omega) (by have:=K.o.lt;simp;omega) ?_);intro v' w5 F L _;replace F:w5.ownsRow (G+1) 5 1 v' (t+s+1) (u8s (q55 b N (t+s+1))):=by rw[q3i,q4a,<- e0.o];exact F
         have a6:w5.heap[G]?=wr.heap[G]?:=(L.block G (by have:=K.o.lt;simp;omega) (fun e=>by have:=(C G e.symm).1;omega)).trans (Below.heap_alloc wr _ G K.o.lt);have a0:=vv F;have e6:=vv (q64 K.o a6);have a7:=vv (q7E Z.o a6);have b1:=vv ((l.o.alloc d8 (.cells #[.int .u8 ((hx D).toNat:Int)] 5)).grown L (by simp;omega) (fun e he=>by have:=(C e he).1;have:=HG.o;omega));clear F L a6 v K Z l C;go_wp2;go_roundw
         case measure=>simp [intOf];omega
         case rel =>refine⟨s+1,E,by first|rfl|go_num,by omega,rfl,?_,a0.o,fun _=>d9.o,e6.o,a7.o,b1.o⟩;rw[j8.o,a5.o,k0h,k0d]
        ·clear b2;obtain rfl:P=0:=by omega
         have h5:M/X=0:=Nat.eq_zero_of_not_pos fun h=>absurd (j6.o.2 h) (by omega)
         have j9:0<s:=by
          rcases k01 s with e|e
          ·exfalso;have hp:=q25 HR.o.len l8.o;have h4:=a5.o;rw[e,k0B,k1b] at h4;have:=k0F M X;rw[h5,k1m] at this;omega
          ·exact e
         have HE:=vv (q8h (N:=N) (t:=t) (s:=s) (p:=q) (X:=X) a.o.two I.o c2.o (.inr ⟨by rw[<- T.o];exact h5,by rw[<- T.o,<- a5.o];omega⟩));clear h5;have e7:=vv j9;clear j9 C;go_wp2;go_roundw
         case measure =>have e1:=f9.o;have e2:=vlen_row v.o;have e3:=q3W a.o.two HK.o a8.o;have e4:=a2.o;have e5:=e7.o;omega
         case rel=>exact⟨t+s,0,V,rfl,Z.o.le,W.o,K.o,by rw[HE.o,<- T.o];exact Z.o,a8.o,q3W a.o.two HK.o a8.o,v.o,l.o⟩
        ·clear b2;have HE:=vv (q8h (N:=N) (t:=t) (s:=s) (p:=q) (X:=X) a.o.two I.o c2.o (.inl (by have:=c2.o;omega)));have e7:Hid (0<s):=vv (by have:=c2.o;have:=a.o.one;omega);clear C;go_wp2;go_roundw
         case measure =>have e1:=f9.o;have e2:=vlen_row v.o;have e3:=q3W a.o.two HK.o a8.o;have e4:=a2.o;have e5:=e7.o;omega
         case rel=>exact⟨t+s,P,V,rfl,Z.o.le,W.o,K.o,by rw[HE.o,<- T.o];exact Z.o,a8.o,q3W a.o.two HK.o a8.o,v.o,l.o⟩
      ·obtain⟨i,rfl⟩:∃i,j=i+1:=⟨j-1,by omega⟩;obtain rfl:z=(i:Int):=by omega
       clear hz;have m6:(i:Int)<(m:Int):=by omega
       have p3:(0:Int)<=(i:Int):=by omega
       have k0:i<n:=by have:=a4.o;omega
       have hx:=f.cell (i:=i) (by rw[W.o];exact k0);rw[i9.o i (by omega)] at hx;have d2:=HR.o.nth_lt i;have hf:=f.frozen i;have p4:=f.lt;have D:=vv (divs_step (xs:=toL M) (V:=V.take m) (i:=i) (d:=X) (r:=R) (by omega) d4 d2 (fun q hq=>by rw[q04];exact d5.o q hq) (by rw[q04];exact i8.o) (q1H M));have p5:(1:Int)<=(X:Int):=by omega
       have c8:=a.o.top;rw[<- I.o] at c8;have p6:=qa0 (nth (toL M) i) R d2 (by omega);have HJ:Hid ((((nth (toL M) i:Nat):Int)+4294967296*(R:Int))/(X:Int)%4294967296=(((R*4294967296+nth (toL M) i)/X:Nat):Int)/\(((nth (toL M) i:Nat):Int)+4294967296*(R:Int))%(X:Int)=(((R*4294967296+nth (toL M) i)%X:Nat):Int)):=vv (by
        have e:((nth (toL M) i:Nat):Int)+4294967296*(R:Int)=((R*4294967296+nth (toL M) i:Nat):Int):=by omega
        rw[e,<- k1n,<- k1x];have:=D.o.2.2;generalize (R*4294967296+nth (toL M) i)/X=Q at *
        exact⟨by omega,rfl⟩)
       have m7:(R:Int)<(X:Int):=by omega
       have m1:=vv hj;clear f hj b9 k0;go_wp2;go_roundw
       case measure=>simp [intOf]
       case rel =>
        refine⟨i,_,(R*4294967296+nth (toL M) i)%X,V.set i ((R*4294967296+nth (toL M) i)/X),rfl,by omega,by have:=m1.o;omega,k0z _ HJ.o.2,k0i _ (by omega),by have:=D.o.2.1;rwa [q04] at this,by rw[k0c];exact W.o,c0.o.set (by rw[W.o];have:=a4.o;omega) D.o.2.2 HJ.o.1,fun p hp=>by rw[q0i _ _ (by omega)];exact i9.o p (by omega),fun p hp=>?_,q95 d6.o (Go.Proofs.YtabcgemembkkcaaGreatDoor.only_setCell (qi _ _) (.inl rfl) _) (k33 _),d7.o.setCell (p:=⟨G,i,qd⟩) (by show _<=G;rw[HG.o];exact lr) _⟩;rw[List.take_set];by_cases c6:p=i
        ·subst c6;rw[q0H _ p _ p (by rw[k0v,W.o];have:=a4.o;omega),k0p rfl];have:=D.o.1
         rwa [q04] at this
        ·rw[q0i _ _ c6];exact d5.o p (by omega)
end B
namespace B
open AB
open Go Go.RowKit Scn Hx
theorem q6q(hb:2<=b):∀k,k<=k0->q3w b (N%b^k0) k=q3w b N k
 | 0,_=>rfl
 | k+1,h=>by have e:=q4q (b:=b) (p:=k0) (N:=N) (t:=0) (s:=k) (X:=b^k0) hb rfl (by omega);rw[k0B,k1b,k10] at e;show fgN b (N%b^k0) k::q3w b (N%b^k0) k=fgN b N k::q3w b N k;rw[q6q hb k (by omega)];unfold fgN;rw[e]
theorem q6r(hb:2<=b):∀k1,q3w b N (k1+k0)=q3w b (N/b^k0) k1++q3w b (N%b^k0) k0
 | 0=>by rw[k10,q6q hb k0 lr];rfl
 | k1+1=>by rw[show k1+1+k0=(k1+k0)+1 by omega];show fgN b N (k1+k0)::q3w b N (k1+k0)=fgN b (N/b^k0) k1::(q3w b (N/b^k0) k1++_);rw[q6r hb k1];unfold fgN;rw[k0h,<- k0e,k0Z k0 k1]
theorem q82(hb:2<=b)(N:Nat):∃k,HasLen b N k:=by
 have:∀m,N<b^m->∃k,k<=m/\HasLen b N k:=by
  intro m
  induction m with
  | zero=>intro h;exact⟨0,lr,h,fun h=>absurd h (by omega)⟩
  | succ m ih =>
   intro h;rcases k0A N (b^m) with e|e
   ·obtain⟨k,c,a⟩:=ih e;exact⟨k,by omega,a⟩
   ·exact⟨m+1,lr,h,fun _=>e⟩
 obtain⟨k,_,h⟩:=this N (k03 k2m (k1j hb N));exact⟨k,h⟩
theorem q3t(hb:2<=b)(h:HasLen b N k)(hm:N<b^m):k<=m:=by
 rcases k0A m k with e|e
 ·have a:=h.ge (by omega);have c:b^m<=b^(k-1):=k00 (by omega) (by omega);omega
 ·exact e
theorem q5x(hb:2<=b)(h:HasLen b N k)(hk:k0<k):HasLen b (N/b^k0) (k-k0):=by
 constructor
 ·apply k0s;rw[<- k0e,show k0+(k-k0)=k by omega];exact h.lt
 ·intro _;rw[k1v (k1g (by omega)),<- k0e,show k-k0-1+k0=k-1 by omega];exact h.ge (by omega)
def qdP(n:Nat):Prop:=∀(A:Option Addr) (m c N k:Nat) (least:Int) (w:qc),m<=n->Rd w A m c (toL N)->HasLen 16 N k->least<=70000->-100000000+20000*(n:Int)<=least ->
 qj qb 349 #[.slice A m c,.int .i64 16,.int .i64 least] w (qda 16 N (max least.toNat k) w)
end B
namespace B
open AB
open Go Go.RowKit Scn Hx
theorem q5F(b N:Nat):∀k,∀x∈q3w b N k,x<256
 | 0,_,h=>by cases h
 | k+1,x,h=>by
  rcases k0R.1 h with rfl|h
  ·exact qdD b N k
  ·exact q5F b N k x h
def q8Z(b N K:Nat):ByteArray:=txt (q3w b N K)
theorem q4D{A:Option Addr}{q:Nat}(h:Rd w A n c (toL N))(hb:bl N<=32*q):n<=q:=h.bound (k:=q) (by
  have e:(4294967296:Nat)^q=2^(32*q):=by rw[k1r]
  rw[e];exact k03 (q0O N) (k00 (by decide) hb))
theorem qdO(g o b N K:Nat)(w:qc)(hx:IntAt w g o (N:Int))
  (ht:∀A n c,Rd w A n c (toL N)->qj qb 349 #[.slice A n c,.int .i64 (b:Int),.int .i64 1] w (qda b N K w)) :
  qj qb 317 #[.pointer (qe ⟨g,o,qd⟩),.int .i64 (b:Int)] w fun e w'=>e=.returned (.string (q8Z b N K))/\qg w.heap.size w w':=by
 have h:=hx.lt;obtain⟨A,n,c,a,m,f,-⟩:=hx.ex;rw[k08] at f;have i:qa ((N:Int)<0)=false:=k02 (by omega);rw[i] at a;have q:=vv (ht A n c f);have r:=vv a;have j:=vv h;clear ht f i hx a;go_enter func317,ntmps317;go_wp2_with fail;refine q.o.mono ?_;rintro e k ⟨v,rfl,l,d⟩;have t:=q2J l (q5F b N K);have a:k.cell? ⟨g,o,qd⟩=qe (.bool false):=(d.cell (p:=⟨g,o,qd⟩) j.o).trans r.o;have u:g<k.heap.size:=k03 j.o d.size;have s:=vv d;clear l d m h;go_wp2;go_ret;exact⟨rfl,s.o⟩
abbrev qdI:ByteArray:=⟨#[45]⟩
theorem qcV(g o b N K:Nat)(w:qc)(hp:0<N)(hK:K<=70000)(hx:IntAt w g o (-(N:Int)))
  (ht:∀A n c,Rd w A n c (toL N)->qj qb 349 #[.slice A n c,.int .i64 (b:Int),.int .i64 1] w (qda b N K w)) :
  qj qb 317 #[.pointer (qe ⟨g,o,qd⟩),.int .i64 (b:Int)] w fun e w'=>e=.returned (.string (qdI++q8Z b N K))/\qg w.heap.size w w':=by
 obtain⟨s,a⟩:∃s:ByteArray,s=txt (q3w b N K):=⟨_,rfl⟩;have C:(s.size:Int)<=70000:=by
  have:(txt (q3w b N K)).size=K:=by show((q3w b N K).map UInt8.ofNat).toArray.size=K;rw[List.size_toArray,k1U,q2G]
  rw[a];omega
 have i:q8Z b N K=s:=a.symm;rw[i];have t:=vv a.symm;clear a i hK;have j:=hx.lt;obtain⟨A,n,c,d,u,h,-⟩:=hx.ex;rw[Int.natAbs_neg,k08] at h;have k:qa (-(N:Int)<0)=true:=k04 (by omega);rw[k] at d;have x:=vv (ht A n c h);have y:=vv d;have l:=vv j;clear ht h k hx d hp;go_enter func317,ntmps317;go_wp2_with fail;refine x.o.mono ?_;rintro e m ⟨v,rfl,q,f⟩;have r:=q2J q (q5F b N K);rw[t.o] at r;have d:m.cell? ⟨g,o,qd⟩=qe (.bool true):=(f.cell (p:=⟨g,o,qd⟩) l.o).trans y.o;have D:g<m.heap.size:=k03 l.o f.size;have z:=vv f;clear q f u j;go_wp2;go_ret;exact⟨rfl,z.o⟩
theorem qcW(g o N k:Nat)(w:qc)(hx:IntAt w g o (N:Int))(hk:HasLen 10 N k)(hb:bl N<=1280):qj qb 317 #[.pointer (qe ⟨g,o,qd⟩),.int .i64 10] w fun e w'=>e=.returned (.string (q8Z 10 N (max 1 k)))/\qg w.heap.size w w':=qdO g o 10 N (max 1 k) w hx fun A n c hr=>by
  have hn:n<=40:=q4D (q:=40) hr (by omega);have hkk:k<=2000:=by obtain⟨q,a⟩:∃q:Nat,q=1280:=⟨_,rfl⟩;rw[<- a] at hb;have:=q3t (by decide) hk (k03 (q0O N) (k07 (k00 (by decide) hb) (k1j (by decide) q)));omega
  exact q5X A n c N 10 9 k 1 w qcM hr (by omega) hk hkk (by decide)
theorem qbt(g o N k:Nat)(w:qc)(hp:0<N)(hx:IntAt w g o (-(N:Int)))(hk:HasLen 10 N k)(hb:bl N<=1280):qj qb 317 #[.pointer (qe ⟨g,o,qd⟩),.int .i64 10] w fun e w'=>e=.returned (.string (qdI++q8Z 10 N (max 1 k)))/\qg w.heap.size w w':=by
 have b:max 1 k<=70000:=by obtain⟨q,a⟩:∃q:Nat,q=1280:=⟨_,rfl⟩;rw[<- a] at hb;have:=q3t (by decide) hk (k03 (q0O N) (k07 (k00 (by decide) hb) (k1j (by decide) q)));omega
 exact qcV g o 10 N (max 1 k) w hp b hx fun A n c hr=>by
  have f:n<=40:=q4D (q:=40) hr (by omega);have d:k<=2000:=by obtain⟨q,a⟩:∃q:Nat,q=1280:=⟨_,rfl⟩;rw[<- a] at hb;have:=q3t (by decide) hk (k03 (q0O N) (k07 (k00 (by decide) hb) (k1j (by decide) q)));omega
  exact q5X A n c N 10 9 k 1 w qcM hr (by omega) hk d (by decide)
theorem qa7:∀d,d<10->UInt8.ofNat (hx d).toNat=UInt8.ofNat (48+d):=by decide
theorem q6L(h:HasLen 10 N (k+1)):HasLen 10 (N/10) k:=by
 have:=q5x (b:=10) (k0:=1) (by decide) h;rcases k01 k with e|e
 ·subst e;have a:=h.lt;exact⟨by rw[k0B];omega,fun h=>absurd h (by omega)⟩
 ·have:=this (by omega)
  rwa [k1A,k0T] at this
theorem q8k:∀(k N:Nat),HasLen 10 N k->(q3w 10 N (max 1 k)).map UInt8.ofNat=Lib.decDigits N
 | 0,N,h=>by
  have h0:N=0:=by have:=h.lt;rw[k0B] at this;omega
  subst h0;rw[ql (by decide)];rfl
 | 1,N,h=>by have a:=h.lt;rw[k1A] at a;rw[ql a];show[UInt8.ofNat (fgN 10 N 0)]=_;unfold fgN;rw[k0B,k1b,k0E a,qa7 N a]
 | k+2,N,h=>by have a:=h.ge (by omega);have f:10^1<=10^(k+2-1):=k00 (by decide) (by omega);have e:=q6L h;have c:=q8k (k+1) (N/10) e;rw[Lib.decDigits,dif_neg (by omega)];have d:=q6r (b:=10) (N:=N) (k0:=1) (by decide) (k+1);rw[k1A] at d;rw[show max 1 (k+2)=k+1+1 by omega,d,k2O];rw[show max 1 (k+1)=k+1 by omega] at c;rw[c];congr 1;show[UInt8.ofNat (fgN 10 (N%10) 0)]=_;unfold fgN;rw[k0B,k1b,Nat.mod_mod,qa7 _ (k0i _ (by decide))]
end B
namespace B
open AB
open Go Go.RowKit Scn Hx
abbrev itoS(u:Int):ByteArray:=⟨(Lib.itoa u).toArray⟩
theorem q7k(h:HasLen 10 N k):q8Z 10 N (max 1 k)=⟨(Lib.decDigits N).toArray⟩:=by unfold q8Z txt;rw[q8k k N h]
theorem qbu(g o:Nat)(u:Int)(w:qc)(hx:IntAt w g o u)(hb:bl u.natAbs<=1280):qj qb 317 #[.pointer (qe ⟨g,o,qd⟩),.int .i64 10] w fun e w'=>e=.returned (.string (itoS u))/\qg w.heap.size w w':=by
 obtain⟨k,a⟩:=q82 (b:=10) (by decide) u.natAbs;by_cases h:u<0
 ·have e:itoS u=qdI++q8Z 10 u.natAbs (max 1 k):=by rw[q7k a];unfold itoS Lib.itoa;rw[k0p h];refine ByteArray.ext (Array.toList_inj.1 ?_);rw[ByteArray.data_append,Array.toList_append];rfl
  rw[e];have c:IntAt w g o (-((u.natAbs:Nat):Int)):=by rw[show -((u.natAbs:Nat):Int)=u by omega];exact hx
  exact qbt g o u.natAbs k w (by omega) c a hb
 ·have e:itoS u=q8Z 10 u.natAbs (max 1 k):=by rw[q7k a];unfold itoS Lib.itoa;rw[k0r h,show u.toNat=u.natAbs by omega]
  rw[e];have c:IntAt w g o ((u.natAbs:Nat):Int):=by rw[show((u.natAbs:Nat):Int)=u by omega];exact hx
  exact qcW g o u.natAbs k w c a hb
theorem String_(g o:Nat)(u:Int)(w:qc)(hx:IntAt w g o u)(hb:bl u.natAbs<=1280):qj qb 254 #[.pointer (qe ⟨g,o,qd⟩)] w fun e w'=>e=.returned (.string (itoS u))/\qg w.heap.size w w':=by have b:=vv (qbu g o u w hx hb);clear hx hb;go_enter func254,ntmps254;go_wp2_with fail;refine b.o.mono ?_;rintro e d ⟨rfl,a⟩;have c:=vv a;clear a;go_wp2;go_ret;exact⟨rfl,c.o⟩
end B
namespace R12
open Go Go.RowKit B Scn Hx AB
abbrev qf6(N k:Nat):ByteArray:=⟨(hexL N k).toArray⟩
abbrev zro:ByteArray:=⟨#[48]⟩
def q0E:qh->Nat
 | .string s=>s.size
 | _=>0
end R12
end Go.Proofs.YtabcgemembkkcaaGreatDoor
