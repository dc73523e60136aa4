/- Lemmas. -/
import Derived.Test.YtabcgemembkkcaaGreatDoorPartAY
import Derived.Test.YtabcgemembkkcaaGreatDoorPartAN
set_option linter.all false
set_option maxHeartbeats 4000000
set_option maxRecDepth 100000
open Go.Proofs.Tryz
open Go renaming World->qa,RowKit.Below.refl->qe,Calls->qi,Value->qk,World.ownsRow_nil->ql,wpList_append_own->qm,Addr->qo
open Decidable renaming decide->qb
open Go.Proofs.Tryz renaming prog->qc
open Option renaming none->qd,some->qg
open Go.RowKit renaming Below->qf,Hid->qp
open List renaming take_length->qh,mem_iff_getElem->qj,drop_take->qn
namespace Go.Proofs.YtabcgemembkkcaaGreatDoor
variable{w:qa}{base g n cap P y0 k b a c m:Nat}{e:TypeId}{U L l:List Nat}{v:qk}{s t:ByteArray}{A:Option qo}
section
open Go Go.RowKit
theorem q8q(U:List Nat)(i x:Nat):q0o (U.set i x)=(q0o U).set i (.int .u32 (x:Int)):=by unfold q0o;rw[List.map_set]
theorem q7a(h:w.ownsRow base e 1 (.slice (qg ⟨g,0,qd⟩) n cap) n (q0o U))(i x:Nat):(w.setCell ⟨g,i,qd⟩ (.int .u32 (x:Int))).ownsRow base e 1 (.slice (qg ⟨g,0,qd⟩) n cap) n (q0o (U.set i x)):=by
 obtain⟨b,c⟩:=h;rcases c with ⟨h,_⟩|⟨q,p,a,d,f,j,k,l,m,o⟩
 ·cases h
 ·cases d;refine⟨by simpa [q0o] using b,.inr ⟨g,cap,a.setIfInBounds i (.int .u32 (x:Int)),rfl,f,?_,k,l,by simpa using m,?_⟩⟩
  ·simp [World.setCell,Array.getElem?_modify,j]
  ·rw[q8q,<- o];rw[Array.toList_setIfInBounds,List.take_set]
theorem q4c(h:w.ownsRow base e 1 (.slice (qg ⟨g,0,qd⟩) n cap) n (q0o U)){i:Nat}(hi:i<n):w.cell? ⟨g,i,qd⟩=qg (.int .u32 ((nth U i:Nat):Int))/\w.frozen? ⟨g,i,qd⟩=false/\base<=g/\g<w.heap.size:=by
 have j:U.length=n:=by have:=h.1;simpa [q0o] using this
 rcases h.2 with ⟨h,_⟩|⟨m,k,l,c,d,a,o,p,q,f⟩
 ·cases h
 ·cases c;refine⟨?_,by simp [World.frozen?,a],d,(Array.getElem?_eq_some_iff.1 a).1⟩;have b:=q2g U (i:=i) (by omega);rw[<- f,k0u,List.getElem?_take,k0q hi] at b;simp only[World.cell?,a];rw[<- b];simp
theorem q4S(h:w.ownsRow base e 1 v n (q0o U))(hn:0<n):∃g cap,v=.slice (qg ⟨g,0,qd⟩) n cap/\base<=g:=by
 rcases h.2 with ⟨_,d⟩|⟨g,cap,c,a,b,_⟩
 ·omega
 ·exact⟨g,cap,a,b⟩
theorem q4d(h:w.ownsRow base e 1 v n (q0o U)):∃A cap,v=.slice A n cap:=by
 rcases h.2 with ⟨a,rfl⟩|⟨g,cap,c,b,_⟩
 ·exact⟨qd,0,a⟩
 ·exact⟨_,_,b⟩
theorem q7b{w':qa}{B:Nat}(h:w.ownsRow base e 1 v n (q0o U))(hb:qf B w w')(hB:B=w.heap.size):w'.ownsRow base e 1 v n (q0o U):=by
 refine⟨h.1,?_⟩;rcases h.2 with d|⟨g,cap,b,f,c,a,i,j,k,l⟩
 ·exact .inl d
 ·exact .inr ⟨g,cap,b,f,c,(hb.block g (by rw[hB];exact(Array.getElem?_eq_some_iff.1 a).1)).trans a,i,j,k,l⟩
theorem q6z(w:qa)(s:ByteArray)(cap:Nat)(t:TypeId)(m:Nat × Nat)(k:Nat)(hk:k<s.size):(w.alloc (.cells (bytesRow s cap) t m)).cell? ⟨w.heap.size,k,qd⟩=qg (.int .u8 ((s[k].toNat:Nat):Int)):=by simp only[World.cell?];rw[heap_alloc_new];have h:=bytesRow_at s cap k hk;simp only[k0W];exact h
def mS(U:List Nat)(P y0 k:Nat):Nat:=val (U.take k)*P+y0
theorem q5l(U:List Nat)(P y0:Nat):mS U P y0 0=y0:=by simp [mS,val]
theorem q7x(U:List Nat)(P y0 k:Nat):mS U P y0 (k+1)=mS U P y0 k+4294967296^k*(nth U k*P):=by unfold mS;rw[q08,k0Z,k0h];omega
theorem q4n(U:List Nat)(P y0 k:Nat):mS U P y0 k/4294967296^k+nth U k*P=mS U P y0 (k+1)/4294967296^k:=by rw[q7x,k1Q _ _ (k1p (by omega))]
theorem qbH(U:List Nat)(P y0 k:Nat):mS U P y0 (k+1)%4294967296^k=mS U P y0 k%4294967296^k:=by rw[q7x,k1s]
theorem qai(U:List Nat)(P y0 k:Nat):mS U P y0 (k+1)%4294967296^(k+1)=mS U P y0 k%4294967296^k+4294967296^k*(mS U P y0 (k+1)/4294967296^k%4294967296):=by rw[k0a,Nat.mod_mul,qbH]
theorem q7y(U:List Nat)(P y0 k:Nat):mS U P y0 (k+1)/4294967296^k/4294967296=mS U P y0 (k+1)/4294967296^(k+1):=by rw[k0a,k0r]
theorem q4m(U:List Nat)(hl:Lim U)(hy:y0<P):∀k,mS U P y0 k/4294967296^k<P
 | 0=>by rw[q5l];simpa using hy
 | k+1=>by have h1:=q4m U hl hy k;have h2:=q4n U P y0 k;have h3:nth U k<4294967296:=q25 hl k;rw[<- q7y,<- h2];apply k0w;have h4:nth U k*P<=4294967295*P:=k0n _ (by omega);omega
theorem q7z(U:List Nat)(P y0:Nat):mS U P y0 U.length=val U*P+y0:=by unfold mS;rw[qh]
structure MulAt(U L:List Nat)(P y0 k:Nat):Prop where
 len:L.length=U.length
 lim:Lim L
 low:val (L.take k)=mS U P y0 k%4294967296^k
 high:∀j,k<=j->nth L j=nth U j
theorem MulAt.start(hl:Lim U)(P y0:Nat):MulAt U U P y0 0:=⟨rfl,hl,by simp [val,Nat.mod_one],fun _ _=>rfl⟩
theorem MulAt.step(h:MulAt U L P y0 k)(hk:k<U.length):MulAt U (L.set k (mS U P y0 (k+1)/4294967296^k%4294967296)) P y0 (k+1):=by
 refine⟨by rw[k09];exact h.len,q8f h.lim k (k0l _ (by omega)),?_,fun j hj=>?_⟩
 ·rw[q0i _ _ _ (by rw[h.len];exact hk),h.low,qai]
 ·rw[q0m _ _ (by omega)];exact h.high j (by omega)
theorem MulAt.fin(h:MulAt U L P y0 U.length):val L=(val U*P+y0)%4294967296^U.length:=by have:=h.low;rw[<- h.len,qh,h.len,q7z] at this;exact this
end
namespace Pnt
open Go Go.RowKit R5
def q8e(N L:Nat)(w:qa)(e:Ending)(w':qa):Prop:=
 ∃V,e=.returned (.slice (qg ⟨w.heap.size,0,qd⟩) L L)/\Own w' w.heap.size 54 V/\V.length=L/\val V=N/\qf w.heap.size w w'
theorem qa2(A:Option qo)(n c:Nat)(xs:List Nat)(s:Nat)(w:qa)(ha:Rd w A n c xs)(hs:s<32)(hn:n<=16384):qi qc 138 #[.slice A n c,.int .i64 (s:Int)] w (q8e (val xs*2^s) (n+1) w):=by
 have m:=ha.len;have M:=Go.Proofs.YtabcgemembkkcaaGreatDoor.AB.mk1 n (by omega);have E:=vv m;have N:(n:Int)<=16384:=by omega
 have O:(s:Int)<=31:=by omega
 clear m;go_enter func138,ntmps138;go_wp2;go_loopw [15] (fun i wr=>∃(j h:Nat) (V:List Nat),i=.int .i64 j/\j<=n/\V.length=n+0+1/\Own wr w.heap.size 54 V/\nth V (j+0)=h/\h<2^s /\val (V.take (j+0))+4294967296^(j+0)*h=4294967296^0*(2^s*val (xs.take j))/\qf w.heap.size w wr) (fun i _=>n-(intOf i).toNat)
 case atStart=>exact⟨0,0,List.replicate (n+1) 0,rfl,k0x _,by simp,Own.made _ _ _,q0W _ _,k0c _,by simp [val,k2u,q0e],(qe _ _).alloc lr _⟩
 case round =>
  obtain⟨j,h,V,rfl,R,q,a,z,r,t,e⟩:=hrel;have C:=vv t;have d:=vv q;have f:=vv z;have J:=vv a;have u:=vv r;clear t q z r;have S:=a.lt;by_cases hjn:j<n
  ·obtain⟨b,off,rfl,F,v⟩:=ha.cell (by omega);have hx:wr.cell? ⟨b,off+j,qd⟩=qg (.int .u32 ((nth xs j:Nat):Int)):=(e.cell (p:=⟨b,off+j,qd⟩) F).trans (v j hjn);clear v;have x:=ha.nth_lt j;have K:=a.cell (i:=j) (by rw[d.o];omega);have T:=a.frozen j;have P:=a.cell (i:=j+1) (by rw[d.o];omega);have Q:=a.frozen (j+1);rw[show nth V j=h from f.o] at K;have y:h<4294967296:=by have U:=u.o;have W:2^s<=2^31:=k04 (by omega) (by omega);omega
   have g:=vv (q48 x hs);have D:=vv (q6N (h:=h) g.o.2.2 y);have L:=vv (q6O (k:=0) (by rw[d.o];omega) f.o u.o rfl x hs C.o);clear a;go_wp2;go_roundw
   case rel =>have G:h ||| (nth xs j*2^s)%4294967296<4294967296:=Nat.or_lt_two_pow (n:=32) y (k0l _ (by omega));refine⟨j+1,(nth xs j*2^s)/4294967296,(V.set (j+0) (h ||| (nth xs j*2^s)%4294967296)).set (j+0+1) ((nth xs j*2^s)/4294967296),by go_num,by omega,by rw[k09,k09];exact d.o,(J.o.set (by rw[d.o];omega) G D.o.1).set (by rw[k09,d.o];omega) (by have:=g.o.2.2;omega) D.o.2,?_,g.o.2.1,L.o,(e.setCell lr _).setCell lr _⟩;rw[show j+1+0=j+0+1 by omega,q0K _ _ _ _ (by rw[k09,d.o];omega),k0q rfl]
   case measure=>simp [intOf];omega
  ·obtain rfl:j=n:=by omega
   have l:=q6P d.o (by rw[E.o];exact lr) f.o C.o;rw[k1h,k0W] at l;have H:=vv l;clear l;have I:=vv a;clear a;go_wp2;go_ret;exact⟨V,rfl,I.o,d.o,H.o,e⟩
theorem qal(A:Option qo)(n c:Nat)(xs:List Nat)(s:Nat)(w:qa)(ha:Rd w A n c xs)(hs:s<32)(hn:n<=16384):qi qc 223 #[.slice A n c,.int .i64 (s:Int)] w (q8e (val xs/2^s) n w):=by
 have e:=ha.len;have N:=Go.Proofs.YtabcgemembkkcaaGreatDoor.AB.mk n (by omega);have O:=vv e;have P:(n:Int)<=16384:=by omega
 have R:(s:Int)<=31:=by omega
 have D:qp (nth xs n=0):=vv (q1h xs n (by rw[e];exact lr));clear e;go_enter func223,ntmps223;go_wp2;go_loopw [6,7] (fun y i wr=>∃(j:Nat) (V:List Nat),i=.int .i64 ((j:Int)-1)/\y=.int .u64 ((nth xs j:Nat):Int)/\j<=n/\V.length=n/\Own wr w.heap.size 54 V/\(∀p,j<=p->p<n->nth V p=(val xs/2^s)/4294967296^p%4294967296)/\qf w.heap.size w wr) (fun _ i _=>(intOf i+1).toNat)
 case atStart=>exact⟨n,List.replicate n 0,rfl,by rw[D.o];rfl,lr,by simp,Own.made _ _ _,fun p hp k=>absurd hp (by omega),(qe _ _).alloc lr _⟩
 case round =>
  obtain⟨j,V,rfl,rfl,Y,l,a,v,f⟩:=hrel;have d:=vv l;have H:=vv a;have z:=vv v;clear l v;have Z:=a.lt;rcases k01 j with rfl|S
  ·have C:val V=val xs/2^s:=by
    have I:=q1q (U:=V) (Q:=val xs/2^s) fun i hi=>z.o i (k0x _) (by rw[d.o] at hi;exact hi)
    have J:=ha.lt;rw[I,d.o,k0D (k0C (k0e _ _) J)]
   have E:=vv C;have F:=vv a;clear C a;go_wp2;go_ret;exact⟨V,rfl,F.o,d.o,E.o,f⟩
  ·obtain⟨i,rfl⟩:∃i,j=i+1:=⟨j-1,by omega⟩;have m:((i+1:Nat):Int)-1=(i:Int):=by omega
   rw[m];obtain⟨b,off,rfl,G,q⟩:=ha.cell (by omega);have hx:wr.cell? ⟨b,off+i,qd⟩=qg (.int .u32 ((nth xs i:Nat):Int)):=(f.cell (p:=⟨b,off+i,qd⟩) G).trans (q i (by omega));clear q;have r:=ha.nth_lt i;have t:=ha.nth_lt (i+1);have ho:=a.cell (i:=i) (by rw[d.o];omega);have hf:=a.frozen i;have g:=vv (q2T ha.lim i s hs);have T:(i:Int)<(n:Int):=by omega
   have K:qp (((i:Int)-1+1).toNat<((i:Int)+1).toNat):=vv (by omega);obtain⟨x,h⟩:=yx (nth xs i);obtain⟨y,u⟩:=yx (nth xs (i+1));rw[<- h] at hx r g;rw[<- u] at t g ⊢;have L:=vv h;have M:qp (bits .or .u64 ((y:Int)*4294967296) (x:Int)/2^s%4294967296=(((x+4294967296*y)/2^s%4294967296:Nat):Int)):=vv (by rw[qaa x y r t,q1V];generalize (x+4294967296*y)/2^s=Q;omega);have W:(x:Int)<=4294967295:=by omega
   have X:(y:Int)<=4294967295:=by omega
   clear a h u m;go_wp2;go_roundw
   case rel =>
    refine⟨i,V.set i ((x+4294967296*y)/2^s%4294967296),rfl,by rw[L.o],by omega,by rw[k09];exact d.o,H.o.set (by rw[d.o];omega) (k0l _ (by omega)) M.o,fun p hp k=>?_,f.setCell lr _⟩;by_cases hpi:p=i
    ·subst hpi;rw[q0K V p _ p (by rw[d.o];omega),k0q rfl];exact g.o
    ·rw[q0m _ _ hpi];exact z.o p (by omega) k
   case measure=>exact K.o
end Pnt
section
open Go Go.RowKit
theorem q0P(t:ByteArray):t.data.toList.length=t.size:=k2t
theorem q6o(t:ByteArray)(a b:Nat):(t.extract a b).data.toList=(t.data.toList.take b).drop a:=by rw[ByteArray.data_extract,Array.toList_extract,List.extract_eq_drop_take']
theorem NatCell.set{o:Nat}(h:NatCell w g)(hb:b≠g):NatCell (w.setCell ⟨b,o,qd⟩ v) g:=⟨(q0t (fun e=>hb (k0v Addr.block e))).trans h.c0,by rw[<- h.fz];exact World.frozen?_of_block (Go.Deep.blk_setCell_other _ _ _ _ (fun e=>hb e.symm)),by rw[Go.Deep.nblk_setCell];exact h.lt⟩
theorem q6y(w:qa)(s:ByteArray):∃cap w1,(convert 9 229 (.string s)).run qc w=.ok (.slice (qg ⟨w.heap.size,0,qd⟩) s.size cap) w1/\(∀k (h:k<s.size),w1.cell? ⟨w.heap.size,k,qd⟩=qg (.int .u8 ((s[k].toNat:Nat):Int)))/\qf w.heap.size w w1/\w1.heap.size=w.heap.size+1:=by refine⟨_,_,run_bytes_of_string w 9 229 5 s underlying9 underlying229 underlying5,fun k h=>q6z w.drew s _ _ _ k h,?_,by simp⟩;exact(q05 (qe w.heap.size w)).alloc lr _
end
namespace A
open AB
open Go Go.RowKit
def fig(d:Nat):Nat:=if d<10 then 48+d else 87+d
end A
namespace A
open AB
open Go Go.RowKit
def wv(l:List Nat):Nat:=l.foldl (fun n d=>16*n+d) 0
structure Hexs(s:ByteArray)(l:List Nat):Prop where
 len:s.size=l.length
 at_:∀i (h:i<s.size),(s[i]'h).toNat=fig (l.getD i 0)
 small:∀i,l.getD i 0<16
theorem Hexs.mem(h:Hexs s l):∀d∈l,d<16:=by
 intro d a;obtain⟨i,hi,rfl⟩:=qj.1 a;have:=h.small i
 rwa [List.getD_eq_getElem?_getD,List.getElem?_eq_getElem hi] at this
theorem Hexs.cut(h:Hexs s l)(ht:t.data.toList=(s.data.toList.drop a).take b):Hexs t ((l.drop a).take b):=by
 have d:t.size=min b (s.size-a):=by rw[<- q0P,ht,k0s,k0k,q0P]
 refine⟨by rw[d,k0s,k0k,h.len],fun i hi=>?_,fun i=>?_⟩
 ·have c:t.data.toList[i]?=s.data.toList[a+i]?:=by rw[ht,List.getElem?_take,k0q (by omega),List.getElem?_drop]
  rw[List.getElem?_eq_getElem (by rw[q0P];exact hi),List.getElem?_eq_getElem (by rw[q0P];omega)] at c;have e:t[i]=s[a+i]'(by omega):=k1F c;rw[e,h.at_ (a+i) (by omega)];rw[List.getD_eq_getElem?_getD,List.getD_eq_getElem?_getD,List.getElem?_take,k0q (by omega),List.getElem?_drop]
 ·rw[List.getD_eq_getElem?_getD,List.getElem?_take];split
  ·rw[List.getElem?_drop,<- List.getD_eq_getElem?_getD];exact h.small _
  ·decide
theorem and_i64(h j:Nat):(bits .and .i64 ((h:Int)/2^j) 1==1)=qb (h/2^j%2=1):=by
 rw[q1V];have e:bits .and .i64 ((h/2^j:Nat):Int) 1=((h/2^j%2:Nat):Int):=by
  generalize h/2^j=n;have a:(BitVec.ofInt 64 1).toNat=2^1-1:=by decide
  have b:(BitVec.ofInt 64 (n:Int) &&& BitVec.ofInt 64 1).toNat=((n:Int)%((2^64:Nat):Int)).toNat%2^1:=by rw[BitVec.toNat_and,k2z,a,k27]
  show IntKind.i64.wrap ((BitVec.ofInt 64 (n:Int) &&& BitVec.ofInt 64 1).toNat:Nat)=_;rw[b,IntKind.wrap_i64];omega
 rw[e];rcases k0S (h/2^j) with h|h<;>rw[h]<;>rfl
def q9O(h:Nat)(w:qa)(v q:qk)(wr:qa):Prop:=
 ∃(k:Nat) (A:Option qo) (m c:Nat),q=.int .i64 ((k:Int)-1)/\k<=63/\v=.slice A m c/\Rd wr A m c (toL (16^(h/2^k)))/\Fr w.heap.size A/\qf w.heap.size w wr
end A
namespace A
open AB
open Go Go.RowKit
theorem row_rd(h:w.ownsRow base e 1 (.slice A n c) n (q0o L))(hl:Lim L)(hn:n<=35184372088832):Rd w A n c L/\Fr base A:=by
 have a:L.length=n:=by have:=h.1;simpa [q0o] using this
 rcases h.2 with ⟨b,rfl⟩|⟨g,cap,l,d,f,i,k,m,o,p⟩
 ·cases b;exact⟨⟨a,lr,hn,hl,fun h=>absurd h (by omega)⟩,Fr.none_ _⟩
 ·cases d;exact⟨⟨a,k,hn,hl,fun _=>⟨g,0,rfl,(Array.getElem?_eq_some_iff.1 i).1,fun j hj=>by rw[k0W];exact(q4c h hj).1⟩⟩,Fr.at_ f⟩
def q6E(l:List Nat)(n:Nat)(B:Nat)(w:qa)(v t c i:qk)(wr:qa):Prop:=
 ∃(k T C:Nat) (L:List Nat),i=.int .i64 (k:Int)/\k<=n/\t=.int .u32 (T:Int)/\c=.int .u32 (C:Int)/\1<=T/\(T<=1048576\/T=16777216)/\C<T/\(∃j,T=16^j)/\(k=n->T=1) /\wr.ownsRow B 54 1 v L.length (q0o L)/\Lim L/\val L*T+C=wv (l.take k)/\L.length<=k/\qf B w wr
def q4B(N n:Nat)(w:qa)(e:Ending)(w':qa):Prop:=
 ∃A m c xs,e=.returned (.tuple #[.slice A m c,.bool true])/\Rd w' A m c xs/\val xs=N/\m<=n/\Fr w.heap.size A/\qf w.heap.size w w'
theorem Hexs.high(h:Hexs s l)(hk:k<=s.size):Hexs (s.extract 0 k) (l.take k):=by
 have:=h.cut (t:=s.extract 0 k) (a:=0) (b:=k) (by rw[q6o,k0I,k0I])
 rwa [k0I] at this
theorem Hexs.low(h:Hexs s l)(hk:k<=s.size):Hexs (s.extract k s.size) (l.drop k):=by
 have:=h.cut (t:=s.extract k s.size) (a:=k) (b:=s.size-k) (by rw[q6o,qn])
 rwa [k0p (by rw[k0k,<- h.len];omega)] at this
end A
namespace Nat_
open Go Go.RowKit R5
theorem Parse(s:ByteArray)(w:qa)(hd:q57 s)(h0:0<s.size)(h1:s.size<=65536):qi qc 117 #[.string s] w fun e w'=>∃A n,e=.returned (.tuple #[q0N A n n,.int .i64 0,.int .i64 0])/\Rd w' A n n (toL (dvk s s.size))/\Fr w.heap.size A/\qf w.heap.size w w':=by
 have Y:=vv hd;obtain⟨i0,hi,f4,f5,f6⟩:=info_parts Go.Proofs.YtabcgemembkkcaaGreatDoor.AB.inf;have j2:(s.size:Int)<=65536:=by omega
 have H1:=vv h1;have d1:qb ((65536:Int)<(s.size:Int))=false:=k00 (by omega);have f7:=q4a h0;clear hd h1;go_enter func117,ntmps117;go_wp2;go_loop [19] (fun t=>∃k:Nat,k<=s.size/\t=.int .i64 k) (fun t=>s.size-(intOf t).toNat)
 case atStart=>exact⟨0,k0x _,rfl⟩
 case round =>
  obtain⟨k,hk,rfl⟩:=hrel;by_cases hks:k<s.size
  ·obtain⟨d1,d2⟩:=Y.o k hks;go_wp2;go_round
   case rel=>exact⟨k+1,by omega,by go_num⟩
   case measure=>simp [intOf];omega
  ·have d0:k=s.size:=by omega
   subst d0;clear hk hks;go_wp2;clear d1 f7;go_loopw [0,6] (fun v l wr=>∃(i:Nat) (t:ByteArray) (U:List Nat),i<=s.size/\v=.string t/\t.data.toList=s.data.toList.drop i/\wr.ownsRow (w.heap.size+1) 54 1 l U.length (q0o U)/\Lim U/\val U=dvk s i/\U.length<=i/\NatCell wr w.heap.size/\qf w.heap.size w wr) (fun v _ _=>match v with|.string t=>t.size|_=>0)
   case atStart=>exact⟨0,s,[],k0x _,rfl,rfl,ql _ _ _ _,q0D,rfl,lr,NatCell.made _ _,(qe _ _).alloc lr _⟩
   case round =>
    obtain⟨i,t,U,j3,rfl,ht,f,a8,hU,j4,m,u⟩:=hrel;have b6:t.size=s.size-i:=by rw[<- q0P,ht,k0k,q0P]
    obtain⟨A,cap,rfl⟩:=q4d f;have a9:=vv f;have O:=vv a8;have HU:=vv hU;have d8:=vv m;have HB:=vv u;have d9:=vv ht;have j5:(t.size:Int)<=65536:=by omega
    have j6:(U.length:Int)<=65536:=by omega
    have nl:=m.lt;have j7:=vv b6;clear f a8 hU m u ht;by_cases hgo:0<t.size
    ·obtain⟨j,hj⟩:=yx (min 9 t.size);have f8:j<=9:=by omega
     have j8:0<j:=by omega
     have j9:j<=t.size:=by omega
     have f9:min (9:Int) (t.size:Int)=(j:Int):=by omega
     have g0:min j t.size=j:=by omega
     obtain⟨C,hC⟩:∃C,t.extract 0 j=C:=⟨_,rfl⟩;obtain⟨T,hT⟩:∃T,t.extract j t.size=T:=⟨_,rfl⟩;have b7:C.data.toList=t.data.toList.take j:=by rw[<- hC,q6o,k0I]
     have b8:T.data.toList=s.data.toList.drop (i+j):=by rw[<- hT,q6o,k0p (by rw[q0P];exact lr),d9.o,List.drop_drop]
     have b9:C.size=j:=by rw[<- q0P,b7,k0s,q0P];omega
     have e0:T.size=t.size-j:=by rw[<- q0P,b8,k0k,q0P];omega
     have e2:∀k (h:k<C.size),∃c:Nat,C[k].toNat=c/\48<=c/\c<=57/\dvm s i (k+1)=10*dvm s i k+(c-48):=by
      intro k h;have c3:i+k<s.size:=by omega
      have e1:C[k]=s[i+k]:=by
       have a1:C.data.toList[k]?=s.data.toList[i+k]?:=by rw[b7,List.getElem?_take,k0q (by omega),d9.o,List.getElem?_drop]
       rw[List.getElem?_eq_getElem (by rw[q0P];exact h),List.getElem?_eq_getElem (by rw[q0P];exact c3)] at a1;exact k1F a1
      obtain⟨a,b⟩:=Y.o (i+k) c3;exact⟨_,rfl,by rw[e1];exact a,by rw[e1];exact b,by rw[e1];exact q64 s i k c3⟩
     have g1:=vv e2;have e3:=vv b8;have g2:=vv e0;obtain⟨i9,w1,kc,a2,Q,g3⟩:=q6y wr C;rw[b9] at kc;have a7:=vv a2;have e4:=vv b9;have b4:=vv (q7b a9.o Q rfl);have d3:=vv (d8.o.below Q);have c4:=vn HB Q;have k0:wr.heap.size<w1.heap.size:=by omega
     have e5:i+j<=s.size:=by omega
     have I:=vv e5;clear b7 b8 e0 e2 a2 Q g3 hj e5 b6;have k1:(j:Int)<=9:=by omega
     go_wp2;clear f9 g0 hC hT kc b9;go_loop [8,9,53] (fun a b t=>∃k:Nat,k<=j/\a=.int .u64 (dvm s i k:Nat)/\b=.int .u64 (tn k:Nat)/\t=.int .i64 k) (fun _ _ t=>j-(intOf t).toNat)
     case atStart=>exact⟨0,k0x _,rfl,rfl,rfl⟩
     case round =>
      obtain⟨k,hk,rfl,rfl,rfl⟩:=hrel;by_cases hkj:k<j
      ·obtain⟨c,N,c1,c2,G⟩:=g1.o k (by rw[e4.o];exact hkj);have a0:=a7.o k (by rw[e4.o];exact hkj);rw[N] at a0;have m1:=q7S s Y.o i k (by have:=I.o;omega);have m2:=q5J (j:=k) (by omega);have m3:((dvm s i k:Nat):Int)<=1000000000:=by omega
       have m4:((tn k:Nat):Int)<=1000000000:=by unfold tn;omega
       have HS:=vv G;have g4:=vv (q9W k);clear m1 m2 N G;go_wp2;go_round
       case rel=>exact⟨k+1,by omega,k0v _ (by rw[HS.o];omega),k0v _ (by rw[g4.o];omega),by go_num⟩
       case measure=>simp [intOf];omega
      ·have d4:k=j:=by omega
       subst d4;clear hk hkj;have D:dvm s i k<tn k:=by have:=q7S s Y.o i k I.o;exact this
       have g5:((tn k:Nat):Int)<=1000000000:=by have:=q5J f8;unfold tn;omega
       obtain⟨P,hP⟩:=yx (tn k);obtain⟨x,hy⟩:=yx (dvm s i k);rw[<- hP] at g5 D ⊢;rw[<- hy] at D ⊢;have g6:=vv (q4m U O.o D);have HP:=vv hP;have HY:=vv hy;have d5:=vv (qaB s i k I.o);clear hP hy D;go_wp2;go_loopw [8,68] (fun y t wq=>∃(q:Nat) (L:List Nat),t=.int .i64 q/\q<=U.length/\y=.int .u64 (mS U P x q/4294967296^q:Nat)/\MulAt U L P x q/\wq.ownsRow (w.heap.size+1) 54 1 (.slice A U.length cap) U.length (q0o L)/\NatCell wq w.heap.size/\qf w.heap.size w wq) (fun _ t _=>U.length-(intOf t).toNat)
       case atStart=>exact⟨0,U,rfl,k0x _,by rw[q5l,k0E,k1d],MulAt.start O.o P x,b4.o,d3.o,c4.o⟩
       case round =>
        obtain⟨q,L,rfl,hq,rfl,H,f,m,u⟩:=hrel;have HM:=vv H;have c5:=vv f;have c6:=vv m;have R:=vv u;have J:=g6.o q;by_cases hqn:q<U.length
        ·obtain⟨g,j0,e,V⟩:=q4S f (by omega);cases e;obtain⟨r1,r2,r3,r4⟩:=q4c f hqn;rw[H.high q lr] at r1;have b0:nth U q<4294967296:=q25 O.o q;have N:=q4n U P x q;obtain⟨Z,hZ⟩:=yx (mS U P x (q+1)/4294967296^q);obtain⟨y,E⟩:=yx (mS U P x q/4294967296^q);obtain⟨v,hv⟩:=yx (nth U q);obtain⟨M,W⟩:=yx (v*P);rw[<- hZ,<- E,<- hv,<- W] at N;rw[<- hv] at r1 b0;rw[<- E] at J ⊢;have f3:(v:Int)*(P:Int)=(M:Int):=by rw[W,k07]
         have j1:(y:Int)+(M:Int)=(Z:Int):=by omega
         have k2:(M:Int)<=4294967295000000000:=by have b1:v*P<=4294967295*1000000000:=k1S (by omega) (by omega);rw[<- W] at b1;omega
         have k3:(v:Int)<=4294967295:=by omega
         have g7:(y:Int)<=1000000000:=by omega
         have k4:(Z:Int)<=4294967296000000000:=by omega
         have b5:=vv (H.step hqn);have HZ:=vv hZ;have g8:qp ((wr.setCell ⟨g,q,qd⟩ (.int .u32 ((Z:Int)%4294967296))).ownsRow (w.heap.size+1) 54 1 (.slice (qg ⟨g,0,qd⟩) U.length cap) U.length (q0o (L.set q (Z%4294967296)))):=vv (by have:=q7a f q (Z%4294967296);rw[k1M] at this;exact this);have g9:=vv (m.set (b:=g) (o:=q) (v:=.int .u32 ((Z:Int)%4294967296)) (by omega));have i1:=vv (u.setCell (p:=⟨g,q,qd⟩) (show w.heap.size<=g by omega) (.int .u32 ((Z:Int)%4294967296)));have k5:(q:Int)<(U.length:Int):=by omega
         clear H f m u J b0 N hZ E hv W;go_wp2;go_roundw
         case rel =>
          refine⟨q+1,L.set q (Z%4294967296),by go_num,by omega,k0v _ ?_,?_,g8.o,g9.o,i1.o⟩
          ·rw[<- q7y,<- HZ.o];omega
          ·rw[HZ.o];exact b5.o
         case measure=>simp [intOf];omega
        ·have i2:q=U.length:=by omega
         subst i2;obtain⟨S,G⟩:=yx (dvk s (i+k));have a5:=HM.o.fin;have a6:=q7z U P x;have eS:val U*P+x=S:=by rw[G,d5.o,HU.o,HP.o,HY.o];rfl
         rw[eS] at a5 a6;rw[a6] at J ⊢;have e6:=HM.o.len;have K:=vv e6;have X:=vv (k0M S (4294967296^U.length));obtain⟨y,E⟩:=yx (S/4294967296^U.length);rw[<- E] at J X ⊢;rw[<- a5] at X;have e7:=vv HM.o.lim;have HS:=vv G;have g7:(y:Int)<=1000000000:=by omega
         clear a6 a5 eS E G J e6;have b2:=vv (show T.size<t.size by rw[g2.o];omega);by_cases D:0<y
         ·have k6:=vv (show U.length<=65536 by omega);clear H f m u;go_wp2_with (at_builtin;refine qm _ rfl _ _ 35 rfl (w.heap.size+1) 54 i0 (.int .u32 0) 1 4 underlying35 hi f4 f5 f6 rfl (by decide) _ U.length (q0o L) rfl (c5.o.alloc _) ⟨wr.heap.size,0,qd⟩ 1 1 [.int .u32 (y:Int)] rfl rfl (cell_one_new _ _ _) (by simp [Value.oneCell']) (by unfold maxLen;omega) (by omega) (by have:=R.o.size;simp;omega) ?_);intro v' w5 a3 r _;have a4:w5.ownsRow (w.heap.size+1) 54 1 v' (U.length+1) (q0o (L++[y])):=by
           have e:q0o (L++[y])=q0o L++[.int .u32 (y:Int)]:=by simp [q0o]
           rw[e];exact a3
          have V:=c5.o.lt;have e8:qf w.heap.size w w5:=by have F:qf w.heap.size w (wr.alloc (.cells #[.int .u32 (y:Int)] 54)):=R.o.alloc R.o.size _;exact⟨r.os.trans F.os,r.tape.trans F.tape,r.output.trans F.output,k06 F.size r.size,fun i hi=>(r.block i (k02 hi F.size) (fun e=>by have:=(V i e.symm).1;omega)).trans (F.block i hi)⟩
          have e9:NatCell w5 w.heap.size:=by have h0:=c6.o.lt;have h1:NatCell (wr.alloc (.cells #[.int .u32 (y:Int)] 54)) w.heap.size:=c6.o.below ((qe wr.heap.size wr).alloc lr _);have e:=r.block w.heap.size h1.lt (fun e=>by have:=(V _ e.symm).1;omega);exact⟨(World.cell?_of_block e).trans h1.c0,(World.frozen?_of_block e).trans h1.fz,k02 h1.lt r.size⟩
          have i3:=vv a4;have c4:=vv e8;have i4:=vv e9;clear a3 r a4 e8 e9 V;go_wp2;go_roundw
          case rel =>
           refine⟨i+k,T,L++[y],I.o,rfl,e3.o,?_,q1t.2 ⟨e7.o,q0u.2 ⟨by omega,q0D⟩⟩,?_,?_,i4.o,c4.o⟩
           ·rw[k1f,K.o];exact i3.o
           ·rw[q3b,K.o,k0V,<- HS.o];exact X.o
           ·rw[k1f,K.o];show U.length+1<=i+k;omega
          case measure=>exact b2.o
         ·have i5:y=0:=by omega
          subst i5;clear D H f m u;go_wp2;go_roundw
          case rel =>refine⟨i+k,T,L,I.o,rfl,e3.o,by rw[K.o];exact c5.o,e7.o,?_,by rw[K.o];omega,c6.o,R.o⟩;have:=X.o;rw[k1h,k0W] at this;rw[this];exact HS.o
          case measure=>exact b2.o
    ·have i6:i=s.size:=by omega
     subst i6;clear b6;obtain⟨A',c',e,f0,f1⟩:=q7f a9.o O.o (by omega);cases e;have i7:wr.heap.size=wr.heap.size:=rfl;go_wp2_with fail;refine(trimmed A U.length cap U _ f0).mono ?_;rintro e w2 ⟨z,d,rfl,c7,f2,c8⟩;rw[HU.o] at c7;have b3:qp (Fr (w.heap.size+1) z):=vv (fun a e=>f1 a (f2 a e));have c9:=vv (d8.o.below c8);have i8:=vn HB c8;have c0:=c9.o.c0;have fz:=c9.o.fz;have lt:=c9.o.lt;have d6:qp (Rd (w2.setCell ⟨w.heap.size,0,qd⟩ (.slice z d d)) z d d (toL (dvk s s.size))):=vv (c7.other _ _ _ (fun a e=>by have:=(b3.o a e).1;omega));have d7:=vv (i8.o.setCell (p:=⟨w.heap.size,0,qd⟩) lr (.slice z d d));have a0:(w2.setCell ⟨w.heap.size,0,qd⟩ (.slice z d d)).cell? ⟨w.heap.size,0,qd⟩=qg (.slice z d d):=q0r c0;clear c8 c7 f2 f0 f1 i7;go_wp2;exact bodyPost_ret (v:=.tuple #[q0N z d d,.int .i64 0,.int .i64 0]) (by simp [results,results117,go_sem,a0]) rfl ⟨z,d,rfl,d6.o,b3.o.mono (by omega),d7.o⟩
end Nat_
namespace Ts
open Go Go.RowKit B AB
theorem q8O(B:Nat)(v:qk)(U:List Nat)(m c:Nat)(w:qa)(hr:w.ownsRow B 54 1 v U.length (q0o U))(hl:Lim U)(hm:m<4294967296)(hc:c<m)(hU:U.length<=1000000000)(hB:B<=w.heap.size):qi qc 188 #[v,.int .u32 (m:Int),.int .u32 (c:Int)] w fun e w'=>∃v' L,e=.returned v'/\w'.ownsRow B 54 1 v' L.length (q0o L)/\Lim L/\val L=val U*m+c/\L.length<=U.length+1/\qf B w w':=by
 obtain⟨i0,hi,V,W,X⟩:=info_parts Go.Proofs.YtabcgemembkkcaaGreatDoor.AB.inf;obtain⟨A,cap,rfl⟩:=q4d hr;have HR:=vv hr;have P:=vv hl;have Y:=vv (q4m U hl hc);have j:=vv hB;have a2:(U.length:Int)<=1000000000:=by omega
 have b3:(m:Int)<=4294967295:=by omega
 have b4:(c:Int)<=4294967295:=by omega
 have b5:=vv hm;clear hr hl hU hB;go_enter func188,ntmps188;go_wp2;go_loopw [7,8] (fun y q wr=>∃(k:Nat) (L:List Nat),k<=U.length/\q=.int .i64 (k:Int)/\y=.int .u64 ((mS U m c k/4294967296^k:Nat):Int)/\MulAt U L m c k/\wr.ownsRow B 54 1 (.slice A U.length cap) U.length (q0o L)/\qf B w wr) (fun _ q _=>U.length-(intOf q).toNat)
 case atStart=>exact⟨0,U,k0x _,rfl,by rw[q5l,k0E,k1d],MulAt.start P.o m c,HR.o,qe _ _⟩
 case round =>
  obtain⟨q,L,hq,rfl,rfl,d,a,hB⟩:=hrel;have z:=vv d;have s:=vv a;have l:=vv hB;have f:=Y.o q;by_cases hqn:q<U.length
  ·obtain⟨g,b0,e,t⟩:=q4S a (by omega);cases e;obtain⟨Q,r2,r3,r4⟩:=q4c a hqn;rw[d.high q lr] at Q;have F:nth U q<4294967296:=q25 P.o q;have G:=q4n U m c q;obtain⟨Z,C⟩:=yx (mS U m c (q+1)/4294967296^q);obtain⟨y,b⟩:=yx (mS U m c q/4294967296^q);obtain⟨v,D⟩:=yx (nth U q);obtain⟨M,n⟩:=yx (v*m);rw[<- C,<- b,<- D,<- n] at G;rw[<- D] at Q F;rw[<- b] at f ⊢;have a1:(v:Int)*(m:Int)=(M:Int):=by rw[n,k07]
   have b2:(M:Int)+(y:Int)=(Z:Int):=by omega
   have b6:(M:Int)<=18446744065119617025:=by have b1:v*m<=4294967295*4294967295:=k1S (by omega) (by omega);rw[<- n] at b1;omega
   have b7:(v:Int)<=4294967295:=by omega
   have a3:(y:Int)<=4294967295:=by omega
   have b8:(Z:Int)<=18446744069414584320:=by omega
   have a0:=vv (d.step hqn);have R:=vv C;have a4:qp ((wr.setCell ⟨g,q,qd⟩ (.int .u32 ((Z:Int)%4294967296))).ownsRow B 54 1 (.slice (qg ⟨g,0,qd⟩) U.length cap) U.length (q0o (L.set q (Z%4294967296)))):=vv (by have:=q7a a q (Z%4294967296);rw[k1M] at this;exact this);have j:=vv (hB.setCell (p:=⟨g,q,qd⟩) (show B<=g by omega) (.int .u32 ((Z:Int)%4294967296)));have b9:(q:Int)<(U.length:Int):=by omega
   clear d a hB f F G C b D n;go_wp2;go_roundw
   case rel =>
    refine⟨q+1,L.set q (Z%4294967296),by omega,by go_num,k0v _ ?_,?_,a4.o,j.o⟩
    ·rw[<- q7y,<- R.o];omega
    ·rw[R.o];exact a0.o
   case measure=>simp [intOf];omega
  ·have a5:q=U.length:=by omega
   subst a5;obtain⟨S,E⟩:=yx (val U*m+c);have u:=z.o.fin;have x:=q7z U m c;rw[<- E] at u x;have H:=vv E;rw[x] at f ⊢;have i:=vv z.o.len;have r:=vv (k0M S (4294967296^U.length));obtain⟨y,b⟩:=yx (S/4294967296^U.length);rw[<- b] at f r ⊢;rw[<- u] at r;have I:=vv z.o.lim;have a3:(y:Int)<=4294967295:=by omega
   clear x u b E f;by_cases hy0:0<y
   ·have c0:=vv (show(U.length:Int)<=1000000000 from a2);clear d a hB;go_wp2_with (at_builtin;refine qm _ rfl _ _ 35 rfl B 54 i0 (.int .u32 0) 1 4 underlying35 hi V W X rfl (by decide) _ U.length (q0o L) rfl (s.o.alloc _) ⟨wr.heap.size,0,qd⟩ 1 1 [.int .u32 (y:Int)] rfl rfl (cell_one_new _ _ _) (by simp [Value.oneCell']) (by unfold maxLen;omega) (by omega) (by have:=l.o.size;have:=j.o;simp;omega) ?_);intro v' T J K _;have N:T.ownsRow B 54 1 v' (U.length+1) (q0o (L++[y])):=by
     have e:q0o (L++[y])=q0o L++[.int .u32 (y:Int)]:=by simp [q0o]
     rw[e];exact J
    have t:=s.o.lt;have O:qf B w T:=by have a6:B<=wr.heap.size:=k06 j.o l.o.size;exact(l.o.alloc a6 _).grown K (by simp;omega) (fun k h=>(t k h).1)
    have a7:=vv N;have a8:=vv O;clear J K N O t;go_wp2;go_ret;refine⟨v',L++[y],rfl,?_,q1t.2 ⟨I.o,q0u.2 ⟨by omega,q0D⟩⟩,?_,by rw[k1f,i.o];exact lr,a8.o⟩
    ·rw[k1f,i.o];exact a7.o
    ·rw[q3b,i.o,k0V,<- H.o];exact r.o
   ·have a9:y=0:=by omega
    subst a9;clear hy0 d a hB;go_wp2;go_ret;refine⟨_,L,rfl,by rw[i.o];exact s.o,I.o,?_,by rw[i.o];omega,l.o⟩;have:=r.o;rw[k1h,k0W] at this;rw[<- H.o];exact this
def fig(d:Nat):Nat:=48+d
theorem q6J(c:Nat)(w:qa)(h1:48<=c)(h2:c<=57):qi qc 187 #[.int .u8 (c:Int)] w fun e w'=>e=.returned (.int .u32 ((c:Int)-48))/\w=w':=by
 have a:(48:Int)<=(c:Int):=by omega
 have b:(c:Int)<=57:=by omega
 go_enter func187,ntmps187;go_wp2;go_ret;exact⟨rfl,rfl⟩
theorem qcp(d:Nat)(w:qa)(h:d<10):qi qc 187 #[.int .u8 ((fig d:Nat):Int)] w fun e w'=>e=.returned (.int .u32 (d:Int))/\w=w':=by unfold fig;refine(q6J (48+d) w (by omega) (by omega)).mono ?_;rintro e w' ⟨rfl,rfl⟩;exact⟨q0J (by omega),rfl⟩
def wt(l:List Nat):Nat:=l.foldl (fun n d=>10*n+d) 0
theorem q9S(l:List Nat):∀n,l.foldl (fun n d=>10*n+d) n=n*10^l.length+wt l:=by
 induction l with
 | nil=>intro n;simp [wt]
 | cons a l ih =>intro n;show l.foldl _ (10*n+a)=_;unfold wt;rw[ih,List.foldl_cons,ih (10*0+a),k1Y,k0a];rw[k0Z,k1h,k0W,k1x,k0b 10 n,k0h,k0b 10]
theorem q3l(a b:List Nat):wt (a++b)=wt a*10^b.length+wt b:=by unfold wt;rw[List.foldl_append];exact q9S b _
theorem q9R(a:List Nat)(d:Nat):wt (a++[d])=10*wt a+d:=by rw[q3l,List.length_singleton,k1W,k0b];show _+(10*0+d)=_;omega
theorem qcn(h:∀d∈l,d<10):wt l<10^l.length:=by
 have:∀l:List Nat,(∀d∈l,d<10)->wt l<10^l.length:=by
  intro l
  induction l with
  | nil=>intro _;decide
  | cons a l ih =>
   intro h;have c:=ih fun d hd=>h d (List.mem_cons_of_mem _ hd)
   have f:=h a List.mem_cons_self;have e:=q3l [a] l;rw[k2J] at e;rw[e,k1Y,k0a];have b:wt [a]=a:=by show 10*0+a=a;omega
   rw[b];have g:a*10^l.length<=9*10^l.length:=k0n _ (by omega);omega
 exact this l h
structure Hexs(s:ByteArray)(l:List Nat):Prop where
 len:s.size=l.length
 at_:∀i (h:i<s.size),(s[i]'h).toNat=fig (l.getD i 0)
 small:∀i,l.getD i 0<10
theorem Hexs.mem(h:Hexs s l):∀d∈l,d<10:=by
 intro d a;obtain⟨i,hi,rfl⟩:=qj.1 a;have:=h.small i
 rwa [List.getD_eq_getElem?_getD,List.getElem?_eq_getElem hi] at this
theorem Hexs.cut(h:Hexs s l)(ht:t.data.toList=(s.data.toList.drop a).take b):Hexs t ((l.drop a).take b):=by
 have d:t.size=min b (s.size-a):=by rw[<- q0P,ht,k0s,k0k,q0P]
 refine⟨by rw[d,k0s,k0k,h.len],fun i hi=>?_,fun i=>?_⟩
 ·have c:t.data.toList[i]?=s.data.toList[a+i]?:=by rw[ht,List.getElem?_take,k0q (by omega),List.getElem?_drop]
  rw[List.getElem?_eq_getElem (by rw[q0P];exact hi),List.getElem?_eq_getElem (by rw[q0P];omega)] at c;have e:t[i]=s[a+i]'(by omega):=k1F c;rw[e,h.at_ (a+i) (by omega)];rw[List.getD_eq_getElem?_getD,List.getD_eq_getElem?_getD,List.getElem?_take,k0q (by omega),List.getElem?_drop]
 ·rw[List.getD_eq_getElem?_getD,List.getElem?_take];split
  ·rw[List.getElem?_drop,<- List.getD_eq_getElem?_getD];exact h.small _
  ·decide
theorem q0V(n:Nat)(h:n<=131072)(hr:Rd w A m c (toL (10^n))):m<=16385:=by
 obtain⟨k,a⟩:=yx (16385);rw[<- a];refine hr.bound (k:=k) ?_;have e:(4294967296:Nat)^k=2^(32*k):=by rw[k14]
 have b:(10:Nat)^n<=2^(4*n):=by rw[k14];exact k1o (by decide) n
 rw[e];exact k0C b (k23 (by decide) (by omega))
theorem q5h(h j:Nat):10^(h/2^j)=10^(h/2^(j+1))*10^(h/2^(j+1))*10^(h/2^j%2):=by
 have e:=q1C h j;have a:h/2^j=h/2^(j+1)+h/2^(j+1)+h/2^j%2:=by omega
 conv=>lhs;rw[a]
 rw[k0i,k0i]
def q9O(h:Nat)(w:qa)(v q:qk)(wr:qa):Prop:=
 ∃(k:Nat) (A:Option qo) (m c:Nat),q=.int .i64 ((k:Int)-1)/\k<=63/\v=.slice A m c/\Rd wr A m c (toL (10^(h/2^k)))/\Fr w.heap.size A/\qf w.heap.size w wr
theorem q73(hR:Rd w A m c (toL P))(hm:m<=20000):qi qc 185 #[.slice A m c,.slice A m c] w (q0d (P*P) w):=by
 have:=mulWords A A m m c c _ _ w hR hR (by omega)
 rwa [q04] at this
theorem qc1(hR:Rd w A m c (toL P))(hm:m<=20000):qi qc 185 #[.slice A m c,.slice (qg ⟨w.heap.size,0,qd⟩) 1 1] (w.alloc (.cells #[.int .u32 10] 54)) (q0d (P*10) w):=by have a:qf w.heap.size w (w.alloc (.cells #[.int .u32 10] 54)):=(qe _ _).alloc lr _;have d:Rd (w.alloc (.cells #[.int .u32 10] 54)) (qg ⟨w.heap.size,0,qd⟩) 1 1 [10]:=(Own.lit (t:=54) [10] (q0u.2 ⟨by omega,q0D⟩) rfl).rd rfl lr (by decide);refine(mulWords A _ m 1 c 1 _ _ _ (hR.below a rfl) d (by omega)).mono ?_;rintro e k ⟨f,g,h,rfl,b,i,j⟩;rw[q04] at b;exact⟨f,g,h,rfl,b,i.mono (by simp),a.trans (j.mono (by simp))⟩
theorem q3L(h:Nat)(w:qa)(hh:h<=65536):qi qc 186 #[.int .i64 10,.int .i64 (h:Int)] w (q0d (10^h) w):=by
 have a5:(h:Int)<=65536:=by omega
 have T:qp (∀k,h/2^k<=65536):=vv fun k=>k06 (k0e _ _) hh
 have G:qp (q9O h w (.slice (qg ⟨w.heap.size,0,qd⟩) 1 1) (.int .i64 62) (w.alloc (.cells #[.int .u32 1] 54))):=vv (by refine⟨63,_,_,_,rfl,by decide,rfl,?_,Fr.at_ lr,(qe _ _).alloc lr _⟩;rw[k0R (k0C hh (by decide))];exact q7m w);go_enter func186,ntmps186;go_wp2;go_loopw [5,6] (fun v q wr=>q9O h w v q wr) (fun _ q _=>(intOf q+1).toNat)
 case atStart=>exact G.o
 case round =>
  obtain⟨k,A,m,c,rfl,hk,rfl,g,r,s⟩:=hrel;have a6:=q0V _ (by have:=T.o k;omega) g;have i:=vv g;have U:=vv r;have d:=vv s;rcases k01 k with rfl|a7
  ·rw[k0E,k1d] at i;clear g r s G;go_wp2;go_ret;exact⟨_,_,_,rfl,i.o,U.o,d.o⟩
  ·obtain⟨j,rfl⟩:∃j,k=j+1:=⟨k-1,by omega⟩;have Z:((j+1:Nat):Int)-1=(j:Int):=by omega
   rw[Z];have a4:(j:Int)<=62:=by omega
   have J:=vv (q5h h j);obtain⟨P,y⟩:=yx (10^(h/2^(j+1)));rw[<- y] at i J;have a1:0<P:=by rw[y];exact k1p (by decide)
   have HQ:qp (∀{A:Option qo} {m c:Nat} {w:qa},Rd w A m c (toL (P*P))->m<=20000):=vv fun g=>by rw[y,<- k0i] at g;exact k06 (q0V _ (by have:=T.o (j+1);omega) g) (by decide)
   have z:qp (((j:Int)-1+1).toNat<((j:Int)+1).toNat):=vv (by omega);have u:qp (∀(A:Option qo) (m c b:Nat) (wr:qa),h/2^j%2=b->Rd wr A m c (toL (P*P*10^b))->Fr w.heap.size A->qf w.heap.size w wr->q9O h w (.slice A m c) (.int .i64 ((j:Int)-1)) wr):=vv fun A m c b wr e g r s=>⟨j,A,m,c,rfl,by omega,rfl,by rw[J.o,e];exact g,r,s⟩
   have a2:=vv (and_i64 h j);have C:0<m:=by
    rcases k01 m with e|e
    ·subst e;have:=i.o.words;rw[q06] at this;omega
    ·exact e
   obtain⟨b,off,rfl,a8,K⟩:=i.o.cell C;have L:=K 0 C;rw[k18] at L;have M:(h/2^j%2=0/\(bits .and .i64 ((h:Int)/2^j) 1==1)=false)\/(h/2^j%2=1/\(bits .and .i64 ((h:Int)/2^j) 1==1)=true):=by
    rw[a2.o];rcases k0S (h/2^j) with e|e<;>rw[e]
    ·exact .inl ⟨rfl,rfl⟩
    ·exact .inr ⟨rfl,rfl⟩
   have a0:(P=1/\m=1/\nth (toL P) 0=1)\/(m=1/\1<nth (toL P) 0)\/1<m:=by
    rcases(by omega:1<m\/m=1) with e|e
    ·exact .inr (.inr e)
    ·have hw:=i.o.words;rw[e] at hw;have hn:nth (toL P) 0=P:=by
      have H:=q04 P;have h2:(toL P).length=1:=i.o.len.trans e;obtain⟨x,hx⟩:∃x,toL P=[x]:=List.length_eq_one_iff.1 h2;rw[hx] at H ⊢;have:val [x]=x:=by simp [val]
      rw[this] at H;rw[H];rfl
     rcases(by omega:P=1\/1<P) with I|I
     ·exact .inl ⟨I,e,hn.trans I⟩
     ·exact .inr (.inl ⟨e,by omega⟩)
   clear g r s K y G a1 C;have N:=vv (q73 i.o (by omega));rcases a0 with ⟨rfl,rfl,hn⟩|⟨rfl,hn⟩|hm1
   ·rw[hn] at L;have O:qp (Rd wr (qg ⟨b,off,qd⟩) 1 c (toL (1*1))):=i;clear hn;rcases M with ⟨a,D⟩|⟨a,D⟩
    ·have p:=vv a;clear a;go_wp2;go_roundw
     case rel=>exact u.o _ _ _ 0 _ p.o O.o U.o d.o
     case measure=>exact z.o
    ·have p:=vv a;have E:=vv (qc1 O.o (by omega));clear a;go_wp2_with fail;refine E.o.mono ?_;rintro e V ⟨W,X,Y,rfl,f,l,n⟩;have t:=vv (u.o _ _ _ 1 _ p.o f (l.mono d.o.size) (d.o.trans (n.mono d.o.size)));clear f l n;go_wp2;go_roundw
     case rel=>exact t.o
     case measure=>exact z.o
   all_goals
    first
     | (have a3:(1:Int)<((nth (toL P) 0:Nat):Int):=by omega)
     | (have a3:(1:Int)<(m:Int):=by omega)
    rcases M with ⟨a,D⟩|⟨a,D⟩
    ·have p:=vv a;clear a;go_wp2_with fail;refine N.o.mono ?_;rintro e V ⟨W,X,Y,rfl,f,l,n⟩;have t:=vv (u.o _ _ _ 0 _ p.o (by rw[k0E,k0u];exact f) (l.mono d.o.size) (d.o.trans (n.mono d.o.size)));clear f l n;go_wp2;go_roundw
     case rel=>exact t.o
     case measure=>exact z.o
    ·have p:=vv a;clear a;go_wp2_with fail;refine N.o.mono ?_;rintro e V ⟨W,X,Y,rfl,f,l,n⟩;have a9:=vv (l.mono d.o.size);have F:=vn d n;have E:=vv (qc1 f (HQ.o f));clear f l n;go_wp2_with fail;refine E.o.mono ?_;rintro e w2 ⟨A2,m2,c2,rfl,Q,R,S⟩;have t:=vv (u.o _ _ _ 1 _ p.o Q (R.mono F.o.size) (F.o.trans (S.mono F.o.size)));clear Q R S;go_wp2;go_roundw
     case rel=>exact t.o
     case measure=>exact z.o
theorem q4G(l:List Nat)(k:Nat)(h:k<l.length):wt (l.take (k+1))=10*wt (l.take k)+nth l k:=by rw[k1n h,q9R];unfold nth;rw[List.getD_eq_getElem?_getD,List.getElem?_eq_getElem h];rfl
def q6E(l:List Nat)(n:Nat)(B:Nat)(w:qa)(v t c i:qk)(wr:qa):Prop:=
 ∃(k T C:Nat) (L:List Nat),i=.int .i64 (k:Int)/\k<=n/\t=.int .u32 (T:Int)/\c=.int .u32 (C:Int)/\1<=T/\(T<=10000000\/T=100000000)/\C<T/\(∃j,T=10^j)/\(k=n->T=1) /\wr.ownsRow B 54 1 v L.length (q0o L)/\Lim L/\val L*T+C=wt (l.take k)/\L.length<=k/\qf B w wr
theorem q6n{T j:Nat}(h:T=10^j)(hT:T<=10000000):10*T<=10000000\/10*T=100000000:=by
 subst h;have:j<=7:=by
  rcases k0A 7 j with h|h
  ·have:=k04 (n:=10) (by decide) h;have e:10^(7+1)=100000000:=by decide
   omega
  ·exact h
 rcases(by omega:j=0\/j=1\/j=2\/j=3\/j=4\/j=5\/j=6\/j=7) with rfl|rfl|rfl|rfl|rfl|rfl|rfl|rfl<;>decide
def q4B(N n:Nat)(w:qa)(e:Ending)(w':qa):Prop:=
 ∃A m c xs,e=.returned (.tuple #[.slice A m c,.bool true])/\Rd w' A m c xs/\val xs=N/\m<=n/\Fr w.heap.size A/\qf w.heap.size w w'
theorem q3T(s:ByteArray)(l:List Nat)(w:qa)(h:Hexs s l)(hs:s.size<=300):qi qc 98 #[.string s,.int .i64 10] w (q4B (wt l) s.size w):=by
 have H:=vv h;have b2:(s.size:Int)<=300:=by omega
 have b3:qb ((300:Int)<(s.size:Int))=false:=k00 (by omega);have HL:=vv h.len;have H0:qp (q6E l s.size w.heap.size w (.slice qd 0 0) (.int .u32 1) (.int .u32 0) (.int .i64 0) w):=vv ⟨0,1,0,[],rfl,k0x _,rfl,rfl,lr,.inl (by decide),by decide,⟨0,rfl⟩,fun _=>rfl,ql _ _ _ _,q0D,rfl,k0x _,qe _ _⟩;clear h hs;go_enter func98,ntmps98;go_wp2;go_loopw [11,12,13,14] (fun v t c i wr=>q6E l s.size w.heap.size w v t c i wr) (fun _ _ _ i _=>s.size-(intOf i).toNat)
 case atStart=>exact H0.o
 case round =>
  clear H0;obtain⟨k,T,C,L,rfl,hk,rfl,rfl,a6,hT,hC,q,U,V,W,X,a1,K⟩:=hrel;have u:=vv V;have z:=vv W;have D:=vv X;have O:=vv K;have HJ:=vv q;have a2:=vv U;have a7:=K.size;clear V W X K q U;by_cases hks:k<s.size
  ·have P:=H.o.at_ k hks;have E:=H.o.small k;have F:=q4G l k (by have:=HL.o;omega);obtain⟨d,Q⟩:=yx (nth l k);rw[show l.getD k 0=d from Q.symm] at P E;rw[<- Q] at F;have x:=vv fun w=>qcp d w E
   rw[<- P] at x;have Y:=vv F;have b4:(d:Int)<=9:=by omega
   have b5:(T:Int)<=100000000:=by omega
   have b1:(1:Int)<=(T:Int):=by omega
   have b6:(C:Int)<(T:Int):=by omega
   have b7:(k:Int)<(s.size:Int):=by omega
   clear P F Q E;have Z:qp (∀(f:qk) (a:List Nat) (w':qa),w'.ownsRow w.heap.size 54 1 f a.length (q0o a)->Lim a->val a=val L*(10*T)+(10*C+d)->a.length<=L.length+1->qf w.heap.size wr w'->q6E l s.size w.heap.size w f (.int .u32 1) (.int .u32 0) (.int .i64 ((k:Int)+1)) w'):=vv fun f a w' b g m p n =>⟨k+1,1,0,a,by go_num,by omega,rfl,rfl,lr,.inl (by decide),by decide,⟨0,rfl⟩,fun _=>rfl,b,g,by rw[Y.o,<- D.o,m,k0m,k0u,k18,k0P];omega,by omega,O.o.trans n⟩
   obtain⟨M,y⟩:=yx (T*10);obtain⟨N,R⟩:=yx (C*10+d);have G:N<M:=by omega
   have I:M<=1000000000:=by omega
   have HM:=vv (q8O w.heap.size _ L M N wr u.o z.o (by omega) G (by omega) a7);have a0:qp (∀(f:qk) (a:List Nat) (w':qa),w'.ownsRow w.heap.size 54 1 f a.length (q0o a)->Lim a->val a=val L*M+N->a.length<=L.length+1->qf w.heap.size wr w'->q6E l s.size w.heap.size w f (.int .u32 1) (.int .u32 0) (.int .i64 ((k:Int)+1)) w'):=vv fun f a w' b g m p n=>Z.o f a w' b g (by rw[m,y,R,k0b T,k0b C]) p n
   have b8:(T:Int)*10=(M:Int):=by omega
   have b9:(C:Int)*10+(d:Int)=(N:Int):=by omega
   have c0:(M:Int)<=1000000000:=by omega
   have c1:(N:Int)<(M:Int):=by omega
   have J:T=100000000/\M=1000000000\/M<=100000000:=by omega
   have a3:qp (M<=429496729->k+1<s.size->q6E l s.size w.heap.size w u11 (.int .u32 (M:Int)) (.int .u32 (N:Int)) (.int .i64 ((k:Int)+1)) wr):=vv fun b g =>
    ⟨k+1,M,N,L,by go_num,by omega,rfl,rfl,by omega,by
     obtain⟨j,q⟩:=HJ.o;have:=q6n q (by omega);omega,G,by
     obtain⟨j,q⟩:=HJ.o;exact⟨j+1,by rw[y,q,k0a]⟩,fun e=>by omega,u.o,z.o,by
     rw[Y.o,<- D.o,y,R,k0m,<- k0h,k0b _ 10];omega,by omega,O.o⟩
   clear hT a6 y R G Z;have a8:(429496729<M)\/(M<=429496729/\k+1=s.size)\/(M<=429496729/\k+1<s.size):=by omega
   rcases a8 with h|h|h
   ·have b:(429496729:Int)<(M:Int):=by omega
    clear h J I;go_wp2_with fail;refine(x.o _).mono ?_;rintro e w1 ⟨rfl,rfl⟩;go_wp2_with fail;refine HM.o.mono ?_;rintro e S ⟨f,a,rfl,b,g,m,p,n⟩;have r:=vv (a0.o f a S b g m p n);clear b g m p n;go_wp2;go_roundw
    case rel=>exact r.o
    case measure=>simp [intOf];omega
   ·have b:(M:Int)<=429496729:=by omega
    have g:((k:Int)==(s.size:Int)-1)=true:=by rw[k1w];omega
    clear h J I;go_wp2_with fail;refine(x.o _).mono ?_;rintro e w1 ⟨rfl,rfl⟩;go_wp2_with fail;refine HM.o.mono ?_;rintro e S ⟨f,a,rfl,b,g,m,p,n⟩;have r:=vv (a0.o f a S b g m p n);clear b g m p n;go_wp2;go_roundw
    case rel=>exact r.o
    case measure=>simp [intOf];omega
   ·have b:(M:Int)<=429496729:=by omega
    have g:((k:Int)==(s.size:Int)-1)=false:=by rw[k08];omega
    have r:=vv (a3.o h.1 h.2);clear h J I;go_wp2_with fail;refine(x.o _).mono ?_;rintro e w1 ⟨rfl,rfl⟩;go_wp2;go_roundw
    case rel=>exact r.o
    case measure=>simp [intOf];omega
  ·have a9:k=s.size:=by omega
   subst a9;have a4:=a2.o rfl;subst a4;have b0:C=0:=by omega
   subst b0;obtain⟨A,cap,rfl⟩:=q4d u.o;have a5:=vv (Go.Proofs.YtabcgemembkkcaaGreatDoor.A.row_rd u.o z.o (by omega));go_wp2;go_ret2;exact⟨A,L.length,cap,L,rfl,a5.o.1,by have:=D.o;rw[HL.o,qh,k0u,k18] at this;exact this,a1,a5.o.2,O.o⟩
theorem Hexs.high(h:Hexs s l)(hk:k<=s.size):Hexs (s.extract 0 k) (l.take k):=by
 have:=h.cut (t:=s.extract 0 k) (a:=0) (b:=k) (by rw[q6o,k0I,k0I])
 rwa [k0I] at this
theorem Hexs.low(h:Hexs s l)(hk:k<=s.size):Hexs (s.extract k s.size) (l.drop k):=by
 have:=h.cut (t:=s.extract k s.size) (a:=k) (b:=s.size-k) (by rw[q6o,qn])
 rwa [k0p (by rw[k0k,<- h.len];omega)] at this
theorem qdo(n:Nat):∀(s:ByteArray) (l:List Nat) (w:qa),s.size<=n->Hexs s l->s.size<=131072 ->qi qc 98 #[.string s,.int .i64 10] w (q4B (wt l) s.size w):=by
 induction n with
 | zero=>intro s l w J h hs;exact q3T s l w h (by omega)
 | succ n ih =>
  intro s l w J h hs;rcases k0A 300 s.size with K|K
  ·obtain⟨k,hk⟩:=yx (s.size/2);obtain⟨c,hc⟩:=yx (s.size-k);have r:=h.high (k:=c) (by omega);have t:=h.low (k:=c) (by omega);obtain⟨X,f⟩:=yx (s.extract 0 c);obtain⟨Y,g⟩:=yx (s.extract c s.size);rw[<- f] at r;rw[<- g] at t;have u:X.size=c:=by rw[f,ByteArray.size_extract];omega
   have v:Y.size=k:=by rw[g,ByteArray.size_extract];omega
   have L:=vv fun w=>ih X (l.take c) w (by omega) r (by omega)
   have M:=vv fun w=>ih Y (l.drop c) w (by omega) t (by omega)
   have HP:=vv fun w=>q3L k w (by omega)
   have HV:qp (wt (l.take c)*10^k+wt (l.drop c)=wt l):=vv (by have:=q3l (l.take c) (l.drop c);rw[k2g,k0k,<- h.len] at this;rw[this,show s.size-c=k by omega]);have HW:qp (wt l<4294967296^s.size):=vv (k02 (qcn h.mem) (by rw[h.len];exact k1o (by decide) _));rw[u] at L;rw[v] at M;have e1:s.extract 0 c=X:=f.symm;have e2:s.extract c s.size=Y:=g.symm;have a4:(s.size:Int)/2=(k:Int):=by omega
   have a5:(s.size:Int)-(k:Int)=(c:Int):=by omega
   have a6:(s.size:Int)<=131072:=by omega
   have a7:(k:Int)<=65536:=by omega
   have a8:(c:Int)<=(s.size:Int):=by omega
   have a9:(300:Int)<(s.size:Int):=by omega
   clear f g u v r t hk hc J h ih;go_enter func98,ntmps98;go_wp2_with fail;refine(L.o _).mono ?_;rintro e w1 ⟨A1,N,c1,x1,rfl,x,y,b0,Q,z⟩;have a:=vv x;have R:=vv y;have S:=vv z;clear x y Q z;go_wp2_with fail;refine(M.o _).mono ?_;rintro e w2 ⟨A2,m2,c2,x2,rfl,C,D,b1,T,i⟩;have a:=vv (a.o.below i rfl);have b:=vv C;have U:=vv D;have V:=vn S i;clear C D T i;go_wp2_with fail;refine(HP.o _).mono ?_;rintro e w3 ⟨A3,O,c3,rfl,j,W,d⟩;have b2:=q0V _ (by omega) j;have a:=vv (a.o.below d rfl);have b:=vv (b.o.below d rfl);have E:=vv j;have Z:=vn V d;have HM:=vv (mulWords A1 A3 N O c1 c3 _ _ w3 a.o E.o (by omega));clear j W d;go_wp2_with fail;refine HM.o.mono ?_;rintro e w4 ⟨A4,P,c4,rfl,m,a0,p⟩;have b3:P<=N+O:=m.bound (by rw[k0i];exact Nat.mul_lt_mul'' a.o.lt E.o.lt);have b:=vv (b.o.below p rfl);have F:=vn Z p;have a1:=vv (addWords A4 A2 P m2 c4 c2 _ _ w4 m b.o (by omega) (by omega));clear m a0 p;go_wp2_with fail;refine a1.o.mono ?_;rintro e w5 ⟨A5,m5,c5,rfl,q,G,H⟩;rw[q04,q04,R.o,U.o,HV.o] at q;have I:=vv q;have a2:=vv (G.mono F.o.size);have a3:=vn F H;clear q G H;go_wp2;go_ret2;exact⟨A5,m5,c5,_,rfl,I.o,q04 _,I.o.bound HW.o,a2.o,a3.o⟩
  ·exact q3T s l w h K
theorem q8c(g o:Nat)(v:Int)(s:ByteArray)(l:List Nat)(w:qa)(h:IntAt w g o v)(hh:Hexs s l)(h0:0<s.size)(hs:s.size<=131072):qi qc 38 #[.pointer (qg ⟨g,o,qd⟩),.string s,.int .i64 10] w fun e w'=>e=.returned (.tuple #[.pointer (qg ⟨g,o,qd⟩),.bool true])/\IntAt w' g o (wt l:Int)/\Fm g o w w':=by
 have t:=vv fun w=>qdo s.size s l w lr hh hs
 have f:=hh.at_ 0 h0;have p:=hh.small 0;obtain⟨c,b⟩:=yx ((s[0]).toNat);have q:c≠45/\c≠43:=by rw[b,f];unfold fig;omega
 have J:((c:Int)==45)=false:=by rw[k08];omega
 have K:((c:Int)==43)=false:=by rw[k08];omega
 have F:(s[0]).toNat=c:=b.symm;have G:(1:Int)<=(s.size:Int):=by omega
 have H:(s.size:Int)<=131072:=by omega
 have I:((0:Int)==(s.size:Int))=false:=by rw[k08];omega
 have hx:s.extract 0 s.size=s:=ByteArray.extract_zero_size;have i:=vv h;clear h hh f p b q;go_enter func38,ntmps38;go_wp2_with fail;refine(t.o _).mono ?_;rintro e u ⟨A,m,x,y,rfl,j,k,z,n,d⟩;have C:=vv d;have D:=vv (set_ g o v (wt l:Int) false A m x y u (i.o.below d) j (fun a e=>(n a e).2) (by rw[k05,k]) (by rw[k00 (by omega)];rfl));clear j k z n d;go_wp2_with fail;refine D.o.mono ?_;rintro e L ⟨rfl,E,r⟩;go_wp2;go_ret2;exact⟨rfl,E,(Fm.of_below C.o i.o.lt).trans r⟩
theorem qda(h:q57 s):Hexs s (s.data.toList.map fun c=>c.toNat-48):=by
 refine⟨by rw[k1D,q0P],fun i hi=>?_,fun i=>?_⟩
 ·have:=h i hi;rw[List.getD_eq_getElem?_getD,List.getElem?_map,List.getElem?_eq_getElem (by rw[q0P];exact hi)];show(s[i]).toNat=fig ((s[i]).toNat-48);unfold fig;omega
 ·rw[List.getD_eq_getElem?_getD,List.getElem?_map];rcases k0A i s.size with hi|hi
  ·have:=h i hi;rw[List.getElem?_eq_getElem (by rw[q0P];exact hi)];show(s[i]).toNat-48<10;omega
  ·rw[List.getElem?_eq_none (by rw[q0P];exact hi)];decide
theorem qaz(s:ByteArray):wt (s.data.toList.map fun c=>c.toNat-48)=dvk s s.size:=by unfold wt dvk dv;rw[List.foldl_map,k0p (by rw[q0P];exact lr)]
theorem SetStringD(g o:Nat)(v:Int)(s:ByteArray)(w:qa)(h:IntAt w g o v)(hd:q57 s)(h0:0<s.size)(hs:s.size<=131072):qi qc 38 #[.pointer (qg ⟨g,o,qd⟩),.string s,.int .i64 10] w fun e w'=>e=.returned (.tuple #[.pointer (qg ⟨g,o,qd⟩),.bool true])/\IntAt w' g o (dvk s s.size:Int)/\Fm g o w w':=by
 have:=q8c g o v s _ w h (qda hd) h0 hs
 rwa [qaz] at this
end Ts
end Go.Proofs.YtabcgemembkkcaaGreatDoor
