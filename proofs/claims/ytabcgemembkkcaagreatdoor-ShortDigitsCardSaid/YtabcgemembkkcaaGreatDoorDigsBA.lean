/- Lemmas. -/
import Derived.Test.YtabcgemembkkcaaGreatDoorDigsAX
set_option linter.all false
set_option maxHeartbeats 4000000
set_option maxRecDepth 100000
open Go.Proofs.Tryz
open Go renaming World->qa,RowKit.Below.refl->qc,World.frozen?_of_block->qd,Value->qg
open Option renaming none->qb,some->qf
open Go.RowKit renaming Below->qe
namespace Go.Proofs.YtabcgemembkkcaaGreatDoor
variable{w:qa}{base g n cap P y0 k b:Nat}{e:TypeId}{U L l:List Nat}{v:qg}{s:ByteArray}
section
open Go Go.RowKit
theorem q8S(U:List Nat)(i x:Nat):q0k (U.set i x)=(q0k U).set i (.int .u32 (x:Int)):=by unfold q0k;rw[List.map_set]
theorem qaF(h:w.ownsRow base e 1 (.slice (qf ⟨g,0,qb⟩) n cap) n (q0k U))(i x:Nat):(w.setCell ⟨g,i,qb⟩ (.int .u32 (x:Int))).ownsRow base e 1 (.slice (qf ⟨g,0,qb⟩) n cap) n (q0k (U.set i x)):=by
 obtain⟨b,c⟩:=h;rcases c with ⟨h,_⟩|⟨q,p,a,d,f,j,k,l,m,o⟩
 ·cases h
 ·cases d;refine⟨by simpa [q0k] using b,.inr ⟨g,cap,a.setIfInBounds i (.int .u32 (x:Int)),rfl,f,?_,k,l,by simpa using m,?_⟩⟩
  ·simp [World.setCell,k2t,j]
  ·rw[q8S,<- o];rw[Array.toList_setIfInBounds,List.take_set]
theorem q5Z(h:w.ownsRow base e 1 (.slice (qf ⟨g,0,qb⟩) n cap) n (q0k U)){i:Nat}(hi:i<n):w.cell? ⟨g,i,qb⟩=qf (.int .u32 ((nth U i:Nat):Int))/\w.frozen? ⟨g,i,qb⟩=false/\base<=g/\g<w.heap.size:=by
 have j:U.length=n:=by have:=h.1;simpa [q0k] using this
 rcases h.2 with ⟨h,_⟩|⟨m,k,l,c,d,a,o,p,q,f⟩
 ·cases h
 ·cases c;refine⟨?_,by simp [World.frozen?,a],d,(k0P.1 a).1⟩;have b:=q2b U (i:=i) (by omega);rw[<- f,k0G,k1d,k0p hi] at b;simp only[World.cell?,a];rw[<- b];simp
theorem q7z(h:w.ownsRow base e 1 v n (q0k U))(hn:0<n):∃g cap,v=.slice (qf ⟨g,0,qb⟩) n cap/\base<=g:=by
 rcases h.2 with ⟨_,d⟩|⟨g,cap,c,a,b,_⟩
 ·omega
 ·exact⟨g,cap,a,b⟩
theorem q5m(h:w.ownsRow base e 1 v n (q0k U)):∃A cap,v=.slice A n cap:=by
 rcases h.2 with ⟨a,rfl⟩|⟨g,cap,c,b,_⟩
 ·exact⟨qb,0,a⟩
 ·exact⟨_,_,b⟩
theorem q7A{w':qa}{B:Nat}(h:w.ownsRow base e 1 v n (q0k U))(hb:qe B w w')(hB:B=w.heap.size):w'.ownsRow base e 1 v n (q0k U):=by
 refine⟨h.1,?_⟩;rcases h.2 with d|⟨g,cap,b,f,c,a,i,j,k,l⟩
 ·exact .inl d
 ·exact .inr ⟨g,cap,b,f,c,(hb.block g (by rw[hB];exact(k0P.1 a).1)).trans a,i,j,k,l⟩
theorem q6U(w:qa)(s:ByteArray)(cap:Nat)(t:TypeId)(m:Nat × Nat)(k:Nat)(hk:k<s.size):(w.alloc (.cells (bytesRow s cap) t m)).cell? ⟨w.heap.size,k,qb⟩=qf (.int .u8 ((s[k].toNat:Nat):Int)):=by simp only[World.cell?];rw[heap_alloc_new];have h:=bytesRow_at s cap k hk;simp only[k10];exact h
def mS(U:List Nat)(P y0 k:Nat):Nat:=val (U.take k)*P+y0
theorem q7S(U:List Nat)(P y0:Nat):mS U P y0 0=y0:=by simp [mS,val]
theorem q7T(U:List Nat)(P y0 k:Nat):mS U P y0 (k+1)=mS U P y0 k+4294967296^k*(nth U k*P):=by unfold mS;rw[q07,k1f,k0j];omega
theorem q69(U:List Nat)(P y0 k:Nat):mS U P y0 k/4294967296^k+nth U k*P=mS U P y0 (k+1)/4294967296^k:=by rw[q7T,k21 _ _ (k1g (by omega))]
theorem qcp(U:List Nat)(P y0 k:Nat):mS U P y0 (k+1)%4294967296^k=mS U P y0 k%4294967296^k:=by rw[q7T,k1E]
theorem qaU(U:List Nat)(P y0 k:Nat):mS U P y0 (k+1)%4294967296^(k+1)=mS U P y0 k%4294967296^k+4294967296^k*(mS U P y0 (k+1)/4294967296^k%4294967296):=by rw[k0d,k3d,qcp]
theorem qa3(U:List Nat)(P y0 k:Nat):mS U P y0 (k+1)/4294967296^k/4294967296=mS U P y0 (k+1)/4294967296^(k+1):=by rw[k0d,k0h]
theorem q68(U:List Nat)(hl:Lim U)(hy:y0<P):∀k,mS U P y0 k/4294967296^k<P
 | 0=>by rw[q7S];simpa using hy
 | k+1=>by have h1:=q68 U hl hy k;have h2:=q69 U P y0 k;have h3:nth U k<4294967296:=q2h hl k;rw[<- qa3,<- h2];apply k0s;have h4:nth U k*P<=4294967295*P:=k0y _ (by omega);omega
theorem qa4(U:List Nat)(P y0:Nat):mS U P y0 U.length=val U*P+y0:=by unfold mS;rw[List.take_length]
structure MulAt(U L:List Nat)(P y0 k:Nat):Prop where
 len:L.length=U.length
 lim:Lim L
 low:val (L.take k)=mS U P y0 k%4294967296^k
 high:∀j,k<=j->nth L j=nth U j
theorem MulAt.start(hl:Lim U)(P y0:Nat):MulAt U U P y0 0:=⟨rfl,hl,by simp [val,Nat.mod_one],fun _ _=>rfl⟩
theorem MulAt.step(h:MulAt U L P y0 k)(hk:k<U.length):MulAt U (L.set k (mS U P y0 (k+1)/4294967296^k%4294967296)) P y0 (k+1):=by
 refine⟨by rw[k0c];exact h.len,q8E h.lim k (k0i _ (by omega)),?_,fun j hj=>?_⟩
 ·rw[q0j _ _ _ (by rw[h.len];exact hk),h.low,qaU]
 ·rw[q0i _ _ (by omega)];exact h.high j (by omega)
theorem MulAt.fin(h:MulAt U L P y0 U.length):val L=(val U*P+y0)%4294967296^U.length:=by have:=h.low;rw[<- h.len,List.take_length,h.len,qa4] at this;exact this
end
namespace Pnt
open Go Go.RowKit R5
def q8D(N L:Nat)(w:qa)(e:Ending)(w':qa):Prop:=
 ∃V,e=.returned (.slice (qf ⟨w.heap.size,0,qb⟩) L L)/\Own w' w.heap.size 54 V/\V.length=L/\val V=N/\qe w.heap.size w w'
theorem qaB(A:Option Addr)(n c:Nat)(xs:List Nat)(s:Nat)(w:qa)(ha:Rd w A n c xs)(hs:s<32)(hn:n<=16384):Calls Tryz.prog 138 #[.slice A n c,.int .i64 (s:Int)] w (q8D (val xs*2^s) (n+1) w):=by
 have m:=ha.len;have M:=Go.Proofs.YtabcgemembkkcaaGreatDoor.AB.mk1 n (by omega);have E:=vv m;have N:(n:Int)<=16384:=by omega
 have O:(s:Int)<=31:=by omega
 clear m;go_enter func138,ntmps138;go_wp2;go_loopw [15] (fun i wr=>∃(j h:Nat) (V:List Nat),i=.int .i64 j/\j<=n/\V.length=n+0+1/\Own wr w.heap.size 54 V/\nth V (j+0)=h/\h<2^s /\val (V.take (j+0))+4294967296^(j+0)*h=4294967296^0*(2^s*val (xs.take j))/\qe w.heap.size w wr) (fun i _=>n-(intOf i).toNat)
 case atStart=>exact⟨0,0,List.replicate (n+1) 0,rfl,k0x _,by simp,Own.made _ _ _,q10 _ _,k0a _,by simp [val,k2k,q0d],(qc _ _).alloc lr _⟩
 case round =>
  obtain⟨j,h,V,rfl,R,q,a,z,r,t,e⟩:=hrel;have C:=vv t;have d:=vv q;have f:=vv z;have J:=vv a;have u:=vv r;clear t q z r;have S:=a.lt;by_cases hjn:j<n
  ·obtain⟨b,off,rfl,F,v⟩:=ha.cell (by omega);have hx:wr.cell? ⟨b,off+j,qb⟩=qf (.int .u32 ((nth xs j:Nat):Int)):=(e.cell (p:=⟨b,off+j,qb⟩) F).trans (v j hjn);clear v;have x:=ha.nth_lt j;have K:=a.cell (i:=j) (by rw[d.o];omega);have T:=a.frozen j;have P:=a.cell (i:=j+1) (by rw[d.o];omega);have Q:=a.frozen (j+1);rw[show nth V j=h from f.o] at K;have y:h<4294967296:=by have U:=u.o;have W:2^s<=2^31:=k00 (by omega) (by omega);omega
   have g:=vv (q49 x hs);have D:=vv (q7a (h:=h) g.o.2.2 y);have L:=vv (q48 (k:=0) (by rw[d.o];omega) f.o u.o rfl x hs C.o);clear a;go_wp2;go_roundw
   case rel =>have G:h ||| (nth xs j*2^s)%4294967296<4294967296:=Nat.or_lt_two_pow (n:=32) y (k0i _ (by omega));refine⟨j+1,(nth xs j*2^s)/4294967296,(V.set (j+0) (h ||| (nth xs j*2^s)%4294967296)).set (j+0+1) ((nth xs j*2^s)/4294967296),by go_num,by omega,by rw[k0c,k0c];exact d.o,(J.o.set (by rw[d.o];omega) G D.o.1).set (by rw[k0c,d.o];omega) (by have:=g.o.2.2;omega) D.o.2,?_,g.o.2.1,L.o,(e.setCell lr _).setCell lr _⟩;rw[show j+1+0=j+0+1 by omega,q0H _ _ _ _ (by rw[k0c,d.o];omega),k0p rfl]
   case measure=>simp [intOf];omega
  ·obtain rfl:j=n:=by omega
   have l:=q7b d.o (by rw[E.o];exact lr) f.o C.o;rw[k1m,k10] at l;have H:=vv l;clear l;have I:=vv a;clear a;go_wp2;go_ret;exact⟨V,rfl,I.o,d.o,H.o,e⟩
theorem qaX(A:Option Addr)(n c:Nat)(xs:List Nat)(s:Nat)(w:qa)(ha:Rd w A n c xs)(hs:s<32)(hn:n<=16384):Calls Tryz.prog 223 #[.slice A n c,.int .i64 (s:Int)] w (q8D (val xs/2^s) n w):=by
 have h:=ha.len;have N:=Go.Proofs.YtabcgemembkkcaaGreatDoor.AB.mk n (by omega);have O:(n:Int)<=16384:=by omega
 have P:(s:Int)<=31:=by omega
 have D:Hid (nth xs n=0):=vv (q0U xs n (by rw[h];exact lr));clear h;go_enter func223,ntmps223;go_wp2;go_loopw [6,7] (fun y i wr=>∃(j:Nat) (V:List Nat),i=.int .i64 ((j:Int)-1)/\y=.int .u64 ((nth xs j:Nat):Int)/\j<=n/\V.length=n/\Own wr w.heap.size 54 V/\(∀p,j<=p->p<n->nth V p=(val xs/2^s)/4294967296^p%4294967296)/\qe w.heap.size w wr) (fun _ i _=>(intOf i+1).toNat)
 case atStart=>exact⟨n,List.replicate n 0,rfl,by rw[D.o];rfl,lr,by simp,Own.made _ _ _,fun p hp k=>absurd hp (by omega),(qc _ _).alloc lr _⟩
 case round =>
  obtain⟨j,V,rfl,rfl,X,l,a,v,e⟩:=hrel;have d:=vv l;have H:=vv a;have z:=vv v;clear l v;have Y:=a.lt;rcases k01 j with rfl|R
  ·have C:val V=val xs/2^s:=by
    have I:=q1g (U:=V) (Q:=val xs/2^s) fun i hi=>z.o i (k0x _) (by rw[d.o] at hi;exact hi)
    have J:=ha.lt;rw[I,d.o,k0E (k0I (k0q _ _) J)]
   have E:=vv C;have F:=vv a;clear C a;go_wp2;go_ret;exact⟨V,rfl,F.o,d.o,E.o,e⟩
  ·obtain⟨i,rfl⟩:∃i,j=i+1:=⟨j-1,by omega⟩;have m:((i+1:Nat):Int)-1=(i:Int):=by omega
   rw[m];obtain⟨b,off,rfl,G,q⟩:=ha.cell (by omega);have hx:wr.cell? ⟨b,off+i,qb⟩=qf (.int .u32 ((nth xs i:Nat):Int)):=(e.cell (p:=⟨b,off+i,qb⟩) G).trans (q i (by omega));clear q;have r:=ha.nth_lt i;have t:=ha.nth_lt (i+1);have Z:=a.cell (i:=i) (by rw[d.o];omega);have hf:=a.frozen i;have f:=vv (q2f ha.lim i s hs);have S:(i:Int)<(n:Int):=by omega
   have K:Hid (((i:Int)-1+1).toNat<((i:Int)+1).toNat):=vv (by omega);obtain⟨x,g⟩:=yx (nth xs i);obtain⟨y,u⟩:=yx (nth xs (i+1));rw[<- g] at hx r f;rw[<- u] at t f ⊢;have L:=vv g;have M:Hid (bits .or .u64 ((y:Int)*4294967296) (x:Int)/2^s%4294967296=(((x+4294967296*y)/2^s%4294967296:Nat):Int)):=vv (by rw[qa0 x y r t,q1m];generalize (x+4294967296*y)/2^s=Q;omega);have T:(x:Int)<=4294967295:=by omega
   have W:(y:Int)<=4294967295:=by omega
   clear a g u m;go_wp2;go_roundw
   case rel =>
    refine⟨i,V.set i ((x+4294967296*y)/2^s%4294967296),rfl,by rw[L.o],by omega,by rw[k0c];exact d.o,H.o.set (by rw[d.o];omega) (k0i _ (by omega)) M.o,fun p hp k=>?_,e.setCell lr _⟩;by_cases hpi:p=i
    ·subst hpi;rw[q0H V p _ p (by rw[d.o];omega),k0p rfl];exact f.o
    ·rw[q0i _ _ hpi];exact z.o p (by omega) k
   case measure=>exact K.o
end Pnt
section
open Go Go.RowKit
theorem q1e(t:ByteArray):t.data.toList.length=t.size:=Array.length_toList
theorem q7H(t:ByteArray)(a b:Nat):(t.extract a b).data.toList=(t.data.toList.take b).drop a:=by rw[ByteArray.data_extract,Array.toList_extract,List.extract_eq_drop_take']
theorem NatCell.set{o:Nat}(h:NatCell w g)(hb:b≠g):NatCell (w.setCell ⟨b,o,qb⟩ v) g:=⟨(q0u (fun e=>hb (k0z Addr.block e))).trans h.c0,by rw[<- h.fz];exact qd (Go.Deep.blk_setCell_other _ _ _ _ (fun e=>hb e.symm)),by rw[Go.Deep.nblk_setCell];exact h.lt⟩
theorem q6T(w:qa)(s:ByteArray):∃cap w1,(convert 9 229 (.string s)).run Tryz.prog w=.ok (.slice (qf ⟨w.heap.size,0,qb⟩) s.size cap) w1/\(∀k (h:k<s.size),w1.cell? ⟨w.heap.size,k,qb⟩=qf (.int .u8 ((s[k].toNat:Nat):Int)))/\qe w.heap.size w w1/\w1.heap.size=w.heap.size+1:=by refine⟨_,_,run_bytes_of_string w 9 229 5 s underlying9 underlying229 underlying5,fun k h=>q6U w.drew s _ _ _ k h,?_,by simp⟩;exact(q05 (qc w.heap.size w)).alloc lr _
end
namespace A
open AB
open Go Go.RowKit
def fig(d:Nat):Nat:=if d<10 then 48+d else 87+d
end A
namespace A
open AB
open Go Go.RowKit
def wv(l:List Nat):Nat:=l.foldl (fun n d=>16*n+d) 0
structure Hexs(s:ByteArray)(l:List Nat):Prop where
 len:s.size=l.length
 at_:∀i (h:i<s.size),(s[i]'h).toNat=fig (l.getD i 0)
 small:∀i,l.getD i 0<16
theorem Hexs.cut{t:ByteArray}(h:Hexs s l){a:Nat}(ht:t.data.toList=(s.data.toList.drop a).take b):Hexs t ((l.drop a).take b):=by
 have d:t.size=min b (s.size-a):=by rw[<- q1e,ht,k0v,k0t,q1e]
 refine⟨by rw[d,k0v,k0t,h.len],fun i hi=>?_,fun i=>?_⟩
 ·have c:t.data.toList[i]?=s.data.toList[a+i]?:=by rw[ht,k1d,k0p (by omega),k1V]
  rw[k0n (by rw[q1e];exact hi),k0n (by rw[q1e];omega)] at c;have e:t[i]=s[a+i]'(by omega):=k27 c;rw[e,h.at_ (a+i) (by omega)];rw[k0b,k0b,k1d,k0p (by omega),k1V]
 ·rw[k0b,k1d];split
  ·rw[k1V,<- k0b];exact h.small _
  ·decide
theorem and_i64(h j:Nat):(bits .and .i64 ((h:Int)/2^j) 1==1)=decide (h/2^j%2=1):=by
 rw[q1m];have e:bits .and .i64 ((h/2^j:Nat):Int) 1=((h/2^j%2:Nat):Int):=by
  generalize h/2^j=n;have a:(BitVec.ofInt 64 1).toNat=2^1-1:=by decide
  have b:(BitVec.ofInt 64 (n:Int) &&& BitVec.ofInt 64 1).toNat=((n:Int)%((2^64:Nat):Int)).toNat%2^1:=by rw[BitVec.toNat_and,k2K,a,k2h]
  show IntKind.i64.wrap ((BitVec.ofInt 64 (n:Int) &&& BitVec.ofInt 64 1).toNat:Nat)=_;rw[b,IntKind.wrap_i64];omega
 rw[e];rcases k0U (h/2^j) with h|h<;>rw[h]<;>rfl
def qeK(h:Nat)(w:qa)(v q:qg)(wr:qa):Prop:=
 ∃(k:Nat) (A:Option Addr) (m c:Nat),q=.int .i64 ((k:Int)-1)/\k<=63/\v=.slice A m c/\Rd wr A m c (toL (16^(h/2^k)))/\Fr w.heap.size A/\qe w.heap.size w wr
end A
namespace A
open AB
open Go Go.RowKit
theorem row_rd{A:Option Addr}{c:Nat}(h:w.ownsRow base e 1 (.slice A n c) n (q0k L))(hl:Lim L)(hn:n<=35184372088832):Rd w A n c L/\Fr base A:=by
 have a:L.length=n:=by have:=h.1;simpa [q0k] using this
 rcases h.2 with ⟨b,rfl⟩|⟨g,cap,l,d,f,i,k,m,o,p⟩
 ·cases b;exact⟨⟨a,lr,hn,hl,fun h=>absurd h (by omega)⟩,Fr.none_ _⟩
 ·cases d;exact⟨⟨a,k,hn,hl,fun _=>⟨g,0,rfl,(k0P.1 i).1,fun j hj=>by rw[k10];exact(q5Z h hj).1⟩⟩,Fr.at_ f⟩
def qeI(l:List Nat)(n:Nat)(B:Nat)(w:qa)(v t c i:qg)(wr:qa):Prop:=
 ∃(k T C:Nat) (L:List Nat),i=.int .i64 (k:Int)/\k<=n/\t=.int .u32 (T:Int)/\c=.int .u32 (C:Int)/\1<=T/\(T<=1048576\/T=16777216)/\C<T/\(∃j,T=16^j)/\(k=n->T=1) /\wr.ownsRow B 54 1 v L.length (q0k L)/\Lim L/\val L*T+C=wv (l.take k)/\L.length<=k/\qe B w wr
def qdb(N n:Nat)(w:qa)(e:Ending)(w':qa):Prop:=
 ∃A m c xs,e=.returned (.tuple #[.slice A m c,.bool true])/\Rd w' A m c xs/\val xs=N/\m<=n/\Fr w.heap.size A/\qe w.heap.size w w'
theorem Hexs.high(h:Hexs s l)(hk:k<=s.size):Hexs (s.extract 0 k) (l.take k):=by
 have:=h.cut (t:=s.extract 0 k) (a:=0) (b:=k) (by rw[q7H,k0w,k0w])
 rwa [k0w] at this
theorem Hexs.low(h:Hexs s l)(hk:k<=s.size):Hexs (s.extract k s.size) (l.drop k):=by
 have:=h.cut (t:=s.extract k s.size) (a:=k) (b:=s.size-k) (by rw[q7H,List.drop_take])
 rwa [k0D (by rw[k0t,<- h.len];omega)] at this
end A
namespace Nat_
open Go Go.RowKit R5
theorem Parse(s:ByteArray)(w:qa)(hd:q8F s)(h0:0<s.size)(h1:s.size<=65536):Calls Tryz.prog 117 #[.string s] w fun e w'=>∃A n,e=.returned (.tuple #[q0x A n n,.int .i64 0,.int .i64 0])/\Rd w' A n n (toL (dvk s s.size))/\Fr w.heap.size A/\qe w.heap.size w w':=by
 have Y:=vv hd;obtain⟨i0,hi,f4,f5,f6⟩:=info_parts Go.Proofs.YtabcgemembkkcaaGreatDoor.AB.inf;have j2:(s.size:Int)<=65536:=by omega
 have d1:decide ((65536:Int)<(s.size:Int))=false:=k02 (by omega);have f7:=q4c h0;clear hd h1;go_enter func117,ntmps117;go_wp2;go_loop [19] (fun t=>∃k:Nat,k<=s.size/\t=.int .i64 k) (fun t=>s.size-(intOf t).toNat)
 case atStart=>exact⟨0,k0x _,rfl⟩
 case round =>
  obtain⟨k,hk,rfl⟩:=hrel;by_cases hks:k<s.size
  ·obtain⟨d1,d2⟩:=Y.o k hks;go_wp2;go_round
   case rel=>exact⟨k+1,by omega,by go_num⟩
   case measure=>simp [intOf];omega
  ·have c9:k=s.size:=by omega
   subst c9;clear hk hks;go_wp2;clear d1 f7;go_loopw [0,6] (fun v l wr=>∃(i:Nat) (t:ByteArray) (U:List Nat),i<=s.size/\v=.string t/\t.data.toList=s.data.toList.drop i/\wr.ownsRow (w.heap.size+1) 54 1 l U.length (q0k U)/\Lim U/\val U=dvk s i/\U.length<=i/\NatCell wr w.heap.size/\qe w.heap.size w wr) (fun v _ _=>match v with|.string t=>t.size|_=>0)
   case atStart=>exact⟨0,s,[],k0x _,rfl,rfl,World.ownsRow_nil _ _ _ _,q0L,rfl,lr,NatCell.made _ _,(qc _ _).alloc lr _⟩
   case round =>
    obtain⟨i,t,U,j3,rfl,ht,f,a8,hU,j4,m,u⟩:=hrel;have d7:t.size=s.size-i:=by rw[<- q1e,ht,k0t,q1e]
    obtain⟨A,cap,rfl⟩:=q5m f;have a9:=vv f;have O:=vv a8;have HU:=vv hU;have d8:=vv m;have HB:=vv u;have d9:=vv ht;have j5:(t.size:Int)<=65536:=by omega
    have j6:(U.length:Int)<=65536:=by omega
    have nl:=m.lt;clear f a8 hU m u ht;by_cases hgo:0<t.size
    ·obtain⟨j,hj⟩:=yx (min 9 t.size);have f8:j<=9:=by omega
     have j7:0<j:=by omega
     have j8:j<=t.size:=by omega
     have f9:min (9:Int) (t.size:Int)=(j:Int):=by omega
     have g0:min j t.size=j:=by omega
     obtain⟨C,hC⟩:∃C,t.extract 0 j=C:=⟨_,rfl⟩;obtain⟨T,hT⟩:∃T,t.extract j t.size=T:=⟨_,rfl⟩;have b6:C.data.toList=t.data.toList.take j:=by rw[<- hC,q7H,k0w]
     have b7:T.data.toList=s.data.toList.drop (i+j):=by rw[<- hT,q7H,k0D (by rw[q1e];exact lr),d9.o,List.drop_drop]
     have b8:C.size=j:=by rw[<- q1e,b6,k0v,q1e];omega
     have e0:T.size=t.size-j:=by rw[<- q1e,b7,k0t,q1e];omega
     have e2:∀k (h:k<C.size),∃c:Nat,C[k].toNat=c/\48<=c/\c<=57/\dvm s i (k+1)=10*dvm s i k+(c-48):=by
      intro k h;have b9:i+k<s.size:=by omega
      have e1:C[k]=s[i+k]:=by
       have a1:C.data.toList[k]?=s.data.toList[i+k]?:=by rw[b6,k1d,k0p (by omega),d9.o,k1V]
       rw[k0n (by rw[q1e];exact h),k0n (by rw[q1e];exact b9)] at a1;exact k27 a1
      obtain⟨a,b⟩:=Y.o (i+k) b9;exact⟨_,rfl,by rw[e1];exact a,by rw[e1];exact b,by rw[e1];exact q6k s i k b9⟩
     have g1:=vv e2;have e3:=vv b7;have g2:=vv e0;obtain⟨i9,w1,kc,a2,Q,g3⟩:=q6T wr C;rw[b8] at kc;have a7:=vv a2;have e4:=vv b8;have b4:=vv (q7A a9.o Q rfl);have d0:=vv (d8.o.below Q);have c3:=vn HB Q;have j9:wr.heap.size<w1.heap.size:=by omega
     have e5:i+j<=s.size:=by omega
     have I:=vv e5;clear b6 b7 e0 e2 a2 Q g3 hj e5 d7;have k0:(j:Int)<=9:=by omega
     go_wp2;clear f9 g0 hC hT kc b8;go_loop [8,9,53] (fun a b t=>∃k:Nat,k<=j/\a=.int .u64 (dvm s i k:Nat)/\b=.int .u64 (tn k:Nat)/\t=.int .i64 k) (fun _ _ t=>j-(intOf t).toNat)
     case atStart=>exact⟨0,k0x _,rfl,rfl,rfl⟩
     case round =>
      obtain⟨k,hk,rfl,rfl,rfl⟩:=hrel;by_cases hkj:k<j
      ·obtain⟨c,N,c1,c2,G⟩:=g1.o k (by rw[e4.o];exact hkj);have a0:=a7.o k (by rw[e4.o];exact hkj);rw[N] at a0;have m1:=q8c s Y.o i k (by have:=I.o;omega);have m2:=q5U (j:=k) (by omega);have m3:((dvm s i k:Nat):Int)<=1000000000:=by omega
       have m4:((tn k:Nat):Int)<=1000000000:=by unfold tn;omega
       have HS:=vv G;have g4:=vv (qav k);clear m1 m2 N G;go_wp2;go_round
       case rel=>exact⟨k+1,by omega,k0z _ (by rw[HS.o];omega),k0z _ (by rw[g4.o];omega),by go_num⟩
       case measure=>simp [intOf];omega
      ·have d3:k=j:=by omega
       subst d3;clear hk hkj;have D:dvm s i k<tn k:=by have:=q8c s Y.o i k I.o;exact this
       have g5:((tn k:Nat):Int)<=1000000000:=by have:=q5U f8;unfold tn;omega
       obtain⟨P,hP⟩:=yx (tn k);obtain⟨x,hy⟩:=yx (dvm s i k);rw[<- hP] at g5 D ⊢;rw[<- hy] at D ⊢;have g6:=vv (q68 U O.o D);have HP:=vv hP;have HY:=vv hy;have d4:=vv (qbb s i k I.o);clear hP hy D;go_wp2;go_loopw [8,68] (fun y t wq=>∃(q:Nat) (L:List Nat),t=.int .i64 q/\q<=U.length/\y=.int .u64 (mS U P x q/4294967296^q:Nat)/\MulAt U L P x q/\wq.ownsRow (w.heap.size+1) 54 1 (.slice A U.length cap) U.length (q0k L)/\NatCell wq w.heap.size/\qe w.heap.size w wq) (fun _ t _=>U.length-(intOf t).toNat)
       case atStart=>exact⟨0,U,rfl,k0x _,by rw[q7S,k0B,k1b],MulAt.start O.o P x,b4.o,d0.o,c3.o⟩
       case round =>
        obtain⟨q,L,rfl,hq,rfl,H,f,m,u⟩:=hrel;have HM:=vv H;have c4:=vv f;have c5:=vv m;have R:=vv u;have J:=g6.o q;by_cases hqn:q<U.length
        ·obtain⟨g,j0,e,V⟩:=q7z f (by omega);cases e;obtain⟨r1,r2,r3,r4⟩:=q5Z f hqn;rw[H.high q lr] at r1;have b0:nth U q<4294967296:=q2h O.o q;have N:=q69 U P x q;obtain⟨Z,hZ⟩:=yx (mS U P x (q+1)/4294967296^q);obtain⟨y,E⟩:=yx (mS U P x q/4294967296^q);obtain⟨v,hv⟩:=yx (nth U q);obtain⟨M,W⟩:=yx (v*P);rw[<- hZ,<- E,<- hv,<- W] at N;rw[<- hv] at r1 b0;rw[<- E] at J ⊢;have f3:(v:Int)*(P:Int)=(M:Int):=by rw[W,k0f]
         have j1:(y:Int)+(M:Int)=(Z:Int):=by omega
         have k1:(M:Int)<=4294967295000000000:=by have b1:v*P<=4294967295*1000000000:=k2q (by omega) (by omega);rw[<- W] at b1;omega
         have k2:(v:Int)<=4294967295:=by omega
         have g7:(y:Int)<=1000000000:=by omega
         have k3:(Z:Int)<=4294967296000000000:=by omega
         have b5:=vv (H.step hqn);have HZ:=vv hZ;have g8:Hid ((wr.setCell ⟨g,q,qb⟩ (.int .u32 ((Z:Int)%4294967296))).ownsRow (w.heap.size+1) 54 1 (.slice (qf ⟨g,0,qb⟩) U.length cap) U.length (q0k (L.set q (Z%4294967296)))):=vv (by have:=qaF f q (Z%4294967296);rw[k1x] at this;exact this);have g9:=vv (m.set (b:=g) (o:=q) (v:=.int .u32 ((Z:Int)%4294967296)) (by omega));have i1:=vv (u.setCell (p:=⟨g,q,qb⟩) (show w.heap.size<=g by omega) (.int .u32 ((Z:Int)%4294967296)));have k4:(q:Int)<(U.length:Int):=by omega
         clear H f m u J b0 N hZ E hv W;go_wp2;go_roundw
         case rel =>
          refine⟨q+1,L.set q (Z%4294967296),by go_num,by omega,k0z _ ?_,?_,g8.o,g9.o,i1.o⟩
          ·rw[<- qa3,<- HZ.o];omega
          ·rw[HZ.o];exact b5.o
         case measure=>simp [intOf];omega
        ·have i2:q=U.length:=by omega
         subst i2;obtain⟨S,G⟩:=yx (dvk s (i+k));have a5:=HM.o.fin;have a6:=qa4 U P x;have eS:val U*P+x=S:=by rw[G,d4.o,HU.o,HP.o,HY.o];rfl
         rw[eS] at a5 a6;rw[a6] at J ⊢;have e6:=HM.o.len;have K:=vv e6;have X:=vv (k0F S (4294967296^U.length));obtain⟨y,E⟩:=yx (S/4294967296^U.length);rw[<- E] at J X ⊢;rw[<- a5] at X;have e7:=vv HM.o.lim;have HS:=vv G;have g7:(y:Int)<=1000000000:=by omega
         clear a6 a5 eS E G J e6;have b2:=vv (show T.size<t.size by rw[g2.o];omega);by_cases D:0<y
         ·have k5:=vv (show U.length<=65536 by omega);clear H f m u;go_wp2_with (at_builtin;refine wpList_append_own _ rfl _ _ 35 rfl (w.heap.size+1) 54 i0 (.int .u32 0) 1 4 underlying35 hi f4 f5 f6 rfl (by decide) _ U.length (q0k L) rfl (c4.o.alloc _) ⟨wr.heap.size,0,qb⟩ 1 1 [.int .u32 (y:Int)] rfl rfl (cell_one_new _ _ _) (by simp [Value.oneCell']) (by unfold maxLen;omega) (by omega) (by have:=R.o.size;simp;omega) ?_);intro v' w5 a3 r _;have a4:w5.ownsRow (w.heap.size+1) 54 1 v' (U.length+1) (q0k (L++[y])):=by
           have e:q0k (L++[y])=q0k L++[.int .u32 (y:Int)]:=by simp [q0k]
           rw[e];exact a3
          have V:=c4.o.lt;have e8:qe w.heap.size w w5:=by have F:qe w.heap.size w (wr.alloc (.cells #[.int .u32 (y:Int)] 54)):=R.o.alloc R.o.size _;exact⟨r.os.trans F.os,r.tape.trans F.tape,r.output.trans F.output,k07 F.size r.size,fun i hi=>(r.block i (k03 hi F.size) (fun e=>by have:=(V i e.symm).1;omega)).trans (F.block i hi)⟩
          have e9:NatCell w5 w.heap.size:=by have h0:=c5.o.lt;have h1:NatCell (wr.alloc (.cells #[.int .u32 (y:Int)] 54)) w.heap.size:=c5.o.below ((qc wr.heap.size wr).alloc lr _);have e:=r.block w.heap.size h1.lt (fun e=>by have:=(V _ e.symm).1;omega);exact⟨(World.cell?_of_block e).trans h1.c0,(qd e).trans h1.fz,k03 h1.lt r.size⟩
          have i3:=vv a4;have c3:=vv e8;have i4:=vv e9;clear a3 r a4 e8 e9 V;go_wp2;go_roundw
          case rel =>
           refine⟨i+k,T,L++[y],I.o,rfl,e3.o,?_,q0R.2 ⟨e7.o,q0y.2 ⟨by omega,q0L⟩⟩,?_,?_,i4.o,c3.o⟩
           ·rw[k16,K.o];exact i3.o
           ·rw[q1t,K.o,k0Z,<- HS.o];exact X.o
           ·rw[k16,K.o];show U.length+1<=i+k;omega
          case measure=>exact b2.o
         ·have i5:y=0:=by omega
          subst i5;clear D H f m u;go_wp2;go_roundw
          case rel =>refine⟨i+k,T,L,I.o,rfl,e3.o,by rw[K.o];exact c4.o,e7.o,?_,by rw[K.o];omega,c5.o,R.o⟩;have:=X.o;rw[k1m,k10] at this;rw[this];exact HS.o
          case measure=>exact b2.o
    ·have i6:i=s.size:=by omega
     subst i6;clear d7;obtain⟨A',c',e,f0,f1⟩:=q2x a9.o O.o (by omega);cases e;have i7:wr.heap.size=wr.heap.size:=rfl;go_wp2_with fail;refine(trimmed A U.length cap U _ f0).mono ?_;rintro e w2 ⟨z,d,rfl,c6,f2,c7⟩;rw[HU.o] at c6;have b3:Hid (Fr (w.heap.size+1) z):=vv (fun a e=>f1 a (f2 a e));have c8:=vv (d8.o.below c7);have i8:=vn HB c7;have c0:=c8.o.c0;have fz:=c8.o.fz;have lt:=c8.o.lt;have d5:Hid (Rd (w2.setCell ⟨w.heap.size,0,qb⟩ (.slice z d d)) z d d (toL (dvk s s.size))):=vv (c6.other _ _ _ (fun a e=>by have:=(b3.o a e).1;omega));have d6:=vv (i8.o.setCell (p:=⟨w.heap.size,0,qb⟩) lr (.slice z d d));have a0:(w2.setCell ⟨w.heap.size,0,qb⟩ (.slice z d d)).cell? ⟨w.heap.size,0,qb⟩=qf (.slice z d d):=q0v c0;clear c7 c6 f2 f0 f1 i7;go_wp2;exact bodyPost_ret (v:=.tuple #[q0x z d d,.int .i64 0,.int .i64 0]) (by simp [results,results117,go_sem,a0]) rfl ⟨z,d,rfl,d5.o,b3.o.mono (by omega),d6.o⟩
end Nat_
end Go.Proofs.YtabcgemembkkcaaGreatDoor
