/- Lemmas. -/
import Derived.Test.YtabcgemembkkcaaGreatDoorPartAL
import Derived.Test.YtabcgemembkkcaaGreatDoorPartAJ
set_option linter.all false
set_option maxRecDepth 100000
open Go.Proofs.Tryz
namespace Go.Proofs.YtabcgemembkkcaaGreatDoor
variable{A:Option Addr}{m c P:Nat}{w:World}
namespace B
open AB
open Go Go.RowKit
theorem q7m(w:World):Rd (w.alloc (.cells #[.int .u32 1] 54)) (some ⟨w.heap.size,0,none⟩) 1 1 [1]:=(Own.lit (t:=54) [1] (q0u.2 ⟨by omega,q0D⟩) rfl).rd rfl lr (by decide)
theorem and_i64(h j:Nat):(bits .and .i64 ((h:Int)/2^j) 1==1)=decide (h/2^j%2=1):=by
 rw[q1V];have e:bits .and .i64 ((h/2^j:Nat):Int) 1=((h/2^j%2:Nat):Int):=by
  generalize h/2^j=n;have a:(BitVec.ofInt 64 1).toNat=2^1-1:=by decide
  have b:(BitVec.ofInt 64 (n:Int) &&& BitVec.ofInt 64 1).toNat=((n:Int)%((2^64:Nat):Int)).toNat%2^1:=by rw[BitVec.toNat_and,k2z,a,k27]
  show IntKind.i64.wrap ((BitVec.ofInt 64 (n:Int) &&& BitVec.ofInt 64 1).toNat:Nat)=_;rw[b,IntKind.wrap_i64];omega
 rw[e];rcases k0S (h/2^j) with h|h<;>rw[h]<;>rfl
theorem q0V(n:Nat)(h:n<=131072)(hr:Rd w A m c (toL (16^n))):m<=16385:=by
 obtain⟨k,a⟩:=yx (16385);rw[<- a];refine hr.bound (k:=k) ?_;have e:(4294967296:Nat)^k=2^(32*k):=by rw[k14]
 have b:(16:Nat)^n=2^(4*n):=by rw[k14]
 rw[e,b];exact k23 (by decide) (by omega)
theorem q5h(h j:Nat):16^(h/2^j)=16^(h/2^(j+1))*16^(h/2^(j+1))*16^(h/2^j%2):=by
 have e:=q1C h j;have a:h/2^j=h/2^(j+1)+h/2^(j+1)+h/2^j%2:=by omega
 conv=>lhs;rw[a]
 rw[k0i,k0i]
def q9O(h:Nat)(w:World)(v q:Value)(wr:World):Prop:=
 ∃(k:Nat) (A:Option Addr) (m c:Nat),q=.int .i64 ((k:Int)-1)/\k<=63/\v=.slice A m c/\Rd wr A m c (toL (16^(h/2^k)))/\Fr w.heap.size A/\Below w.heap.size w wr
theorem q73(hR:Rd w A m c (toL P))(hm:m<=20000):Calls Tryz.prog 185 #[.slice A m c,.slice A m c] w (q0d (P*P) w):=by
 have:=mulWords A A m m c c _ _ w hR hR (by omega)
 rwa [q04] at this
theorem qc1(hR:Rd w A m c (toL P))(hm:m<=20000):Calls Tryz.prog 185 #[.slice A m c,.slice (some ⟨w.heap.size,0,none⟩) 1 1] (w.alloc (.cells #[.int .u32 16] 54)) (q0d (P*16) w):=by have a:Below w.heap.size w (w.alloc (.cells #[.int .u32 16] 54)):=(Below.refl _ _).alloc lr _;have d:Rd (w.alloc (.cells #[.int .u32 16] 54)) (some ⟨w.heap.size,0,none⟩) 1 1 [16]:=(Own.lit (t:=54) [16] (q0u.2 ⟨by omega,q0D⟩) rfl).rd rfl lr (by decide);refine(mulWords A _ m 1 c 1 _ _ _ (hR.below a rfl) d (by omega)).mono ?_;rintro e k ⟨f,g,h,rfl,b,i,j⟩;rw[q04] at b;exact⟨f,g,h,rfl,b,i.mono (by simp),a.trans (j.mono (by simp))⟩
set_option maxHeartbeats 4000000 in
theorem q3L(h:Nat)(w:World)(hh:h<=65536):Calls Tryz.prog 186 #[.int .i64 16,.int .i64 (h:Int)] w (q0d (16^h) w):=by
 have a5:(h:Int)<=65536:=by omega
 have T:Hid (∀k,h/2^k<=65536):=vv fun k=>k06 (k0e _ _) hh
 have G:Hid (q9O h w (.slice (some ⟨w.heap.size,0,none⟩) 1 1) (.int .i64 62) (w.alloc (.cells #[.int .u32 1] 54))):=vv (by refine⟨63,_,_,_,rfl,by decide,rfl,?_,Fr.at_ lr,(Below.refl _ _).alloc lr _⟩;rw[k0R (k0C hh (by decide))];exact q7m w);go_enter func186,ntmps186;go_wp2;go_loopw [5,6] (fun v q wr=>q9O h w v q wr) (fun _ q _=>(intOf q+1).toNat)
 case atStart=>exact G.o
 case round =>
  obtain⟨k,A,m,c,rfl,hk,rfl,g,r,s⟩:=hrel;have a6:=q0V _ (by have:=T.o k;omega) g;have i:=vv g;have U:=vv r;have d:=vv s;rcases k01 k with rfl|a7
  ·rw[k0E,k1d] at i;clear g r s G;go_wp2;go_ret;exact⟨_,_,_,rfl,i.o,U.o,d.o⟩
  ·obtain⟨j,rfl⟩:∃j,k=j+1:=⟨k-1,by omega⟩;have Z:((j+1:Nat):Int)-1=(j:Int):=by omega
   rw[Z];have a4:(j:Int)<=62:=by omega
   have J:=vv (q5h h j);obtain⟨P,y⟩:=yx (16^(h/2^(j+1)));rw[<- y] at i J;have a1:0<P:=by rw[y];exact k1p (by decide)
   have HQ:Hid (∀{A:Option Addr} {m c:Nat} {w:World},Rd w A m c (toL (P*P))->m<=20000):=vv fun g=>by rw[y,<- k0i] at g;exact k06 (q0V _ (by have:=T.o (j+1);omega) g) (by decide)
   have z:Hid (((j:Int)-1+1).toNat<((j:Int)+1).toNat):=vv (by omega);have u:Hid (∀(A:Option Addr) (m c b:Nat) (wr:World),h/2^j%2=b->Rd wr A m c (toL (P*P*16^b))->Fr w.heap.size A->Below w.heap.size w wr->q9O h w (.slice A m c) (.int .i64 ((j:Int)-1)) wr):=vv fun A m c b wr e g r s=>⟨j,A,m,c,rfl,by omega,rfl,by rw[J.o,e];exact g,r,s⟩
   have a2:=vv (and_i64 h j);have C:0<m:=by
    rcases k01 m with e|e
    ·subst e;have:=i.o.words;rw[q06] at this;omega
    ·exact e
   obtain⟨b,off,rfl,a8,K⟩:=i.o.cell C;have L:=K 0 C;rw[k18] at L;have M:(h/2^j%2=0/\(bits .and .i64 ((h:Int)/2^j) 1==1)=false)\/(h/2^j%2=1/\(bits .and .i64 ((h:Int)/2^j) 1==1)=true):=by
    rw[a2.o];rcases k0S (h/2^j) with e|e<;>rw[e]
    ·exact .inl ⟨rfl,rfl⟩
    ·exact .inr ⟨rfl,rfl⟩
   have a0:(P=1/\m=1/\nth (toL P) 0=1)\/(m=1/\1<nth (toL P) 0)\/1<m:=by
    rcases(by omega:1<m\/m=1) with e|e
    ·exact .inr (.inr e)
    ·have hw:=i.o.words;rw[e] at hw;have hn:nth (toL P) 0=P:=by
      have H:=q04 P;have h2:(toL P).length=1:=i.o.len.trans e;obtain⟨x,hx⟩:∃x,toL P=[x]:=List.length_eq_one_iff.1 h2;rw[hx] at H ⊢;have:val [x]=x:=by simp [val]
      rw[this] at H;rw[H];rfl
     rcases(by omega:P=1\/1<P) with I|I
     ·exact .inl ⟨I,e,hn.trans I⟩
     ·exact .inr (.inl ⟨e,by omega⟩)
   clear g r s K y G a1 C;have N:=vv (q73 i.o (by omega));rcases a0 with ⟨rfl,rfl,hn⟩|⟨rfl,hn⟩|hm1
   ·rw[hn] at L;have O:Hid (Rd wr (some ⟨b,off,none⟩) 1 c (toL (1*1))):=i;clear hn;rcases M with ⟨a,D⟩|⟨a,D⟩
    ·have p:=vv a;clear a;go_wp2;go_roundw
     case rel=>exact u.o _ _ _ 0 _ p.o O.o U.o d.o
     case measure=>exact z.o
    ·have p:=vv a;have E:=vv (qc1 O.o (by omega));clear a;go_wp2_with fail;refine E.o.mono ?_;rintro e V ⟨W,X,Y,rfl,f,l,n⟩;have t:=vv (u.o _ _ _ 1 _ p.o f (l.mono d.o.size) (d.o.trans (n.mono d.o.size)));clear f l n;go_wp2;go_roundw
     case rel=>exact t.o
     case measure=>exact z.o
   all_goals
    first
     | (have a3:(1:Int)<((nth (toL P) 0:Nat):Int):=by omega)
     | (have a3:(1:Int)<(m:Int):=by omega)
    rcases M with ⟨a,D⟩|⟨a,D⟩
    ·have p:=vv a;clear a;go_wp2_with fail;refine N.o.mono ?_;rintro e V ⟨W,X,Y,rfl,f,l,n⟩;have t:=vv (u.o _ _ _ 0 _ p.o (by rw[k0E,k0u];exact f) (l.mono d.o.size) (d.o.trans (n.mono d.o.size)));clear f l n;go_wp2;go_roundw
     case rel=>exact t.o
     case measure=>exact z.o
    ·have p:=vv a;clear a;go_wp2_with fail;refine N.o.mono ?_;rintro e V ⟨W,X,Y,rfl,f,l,n⟩;have a9:=vv (l.mono d.o.size);have F:=vn d n;have E:=vv (qc1 f (HQ.o f));clear f l n;go_wp2_with fail;refine E.o.mono ?_;rintro e w2 ⟨A2,m2,c2,rfl,Q,R,S⟩;have t:=vv (u.o _ _ _ 1 _ p.o Q (R.mono F.o.size) (F.o.trans (S.mono F.o.size)));clear Q R S;go_wp2;go_roundw
     case rel=>exact t.o
     case measure=>exact z.o
end B
end Go.Proofs.YtabcgemembkkcaaGreatDoor
