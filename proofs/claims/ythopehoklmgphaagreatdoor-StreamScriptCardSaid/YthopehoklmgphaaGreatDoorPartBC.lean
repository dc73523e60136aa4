/- Lemmas. -/
import Derived.Test.YthopehoklmgphaaGreatDoorPartBA
import Derived.Maps.AppendAt
set_option linter.all false
set_option maxHeartbeats 20000000
set_option maxRecDepth 100000
open Go.Proofs.Tryz
open Go renaming RowKit.Below.refl->qa,World->qg,heap_alloc_new->qh,Calls->qk,IntKind.wrap_u64->qn,wpList_append_own->qo,Addr->qp,bodyPost_ret->qq,cell_one_new->qr,Value->qs
open Decidable renaming decide->qb
open Bool renaming false->qc,true->qi
open Go.Proofs.Tryz renaming prog->qd
open Option renaming none->qe,some->qj
open Go.RowKit renaming Below->qf,Hid->qm
namespace Go.Proofs.YthopehoklmgphaaGreatDoor
variable{w w':qg}{n j g c k kind p:Nat}{U xs:List Nat}{A:Option qp}{E F x hx:Int}{neg dneg hneg:Bool}{s:ByteArray}
section
open Go Go.RowKit
theorem q5Q{base:Nat}{e:TypeId}{v:qs}(h:w.ownsRow base e 1 v n (q0C U))(hl:Lim U)(hn:n<=35184372088832):∃A c,v=.slice A n c/\Rd w A n c U/\Fr base A:=by
 have a:U.length=n:=by have:=h.1;simpa [q0C] using this
 rcases h.2 with ⟨rfl,rfl⟩|⟨g,cap,m,rfl,f,b,k,o,p,l⟩
 ·have:U=[]:=k2v.1 a;subst this;exact⟨qe,0,rfl,Rd.nil _,Fr.none_ _⟩
 ·refine⟨_,cap,rfl,⟨a,k,hn,hl,fun _=>⟨g,0,rfl,(k09.1 b).1,fun j hj=>?_⟩⟩,Fr.at_ f⟩;have d:=q34 U (i:=j) (by omega);rw[<- l,k0H,k15,if_pos hj] at d;simp only[World.cell?,b,k13];rw[<- d];simp
end
namespace R1
open Go Go.RowKit
theorem qe0(A:Option qp)(n c:Nat)(xs:List Nat)(w:qg)(hr:Rd w A n c xs):qk qd 144 #[.slice A n c] w (AB.TrimPost A c xs w):=by
 have q:=hr.sm;have r:=hr.len;have s:=hr.le;go_enter func144,ntmps144;go_wp2;go_loop [3] (fun t=>∃k:Nat,k<=n/\t=.int .i64 k/\∀i,k<=i->nth xs i=0) (fun t=>(intOf t).toNat)
 case atStart=>exact⟨n,lr,rfl,fun i hi=>q18 xs i (by omega)⟩
 case round =>
  obtain⟨k,v,rfl,d⟩:=hrel;have fin:∀m,m<=n->(∀i,m<=i->nth xs i=0)->(m=0\/nth xs (m-1)≠0)->Rd w A m c (toL (val xs)):=by intro m p a f;have e:=q1m hr.lim (n:=m) a (f.imp id fun h=>⟨by omega,h⟩);rw[<- e];exact hr.take p
  have j:=vv fin;clear fin;rcases k04 k with rfl|u
  ·go_wp2;go_ret;exact⟨0,rfl,rfl,j.o 0 (k0d _) d (.inl rfl)⟩
  ·obtain⟨m,rfl⟩:∃m,k=m+1:=⟨k-1,by omega⟩;obtain⟨b,off,rfl,x,l⟩:=hr.cell (by omega);have hx:=l m (by omega);clear l;by_cases a:nth xs m=0
   ·have f:(((nth xs m:Nat):Int)==0)=qi:=by rw[a];rfl
    have g:=vv a;clear a;go_wp2;go_round
    case rel=>exact⟨m,by omega,by go_num,fun i hi=>by
     rcases k2z hi with rfl|h
     ·exact g.o
     ·exact d i (by omega)⟩
    case measure=>simp [intOf]
   ·have f:(((nth xs m:Nat):Int)==0)=qc:=by rw[k02];omega
    have g:=vv a;clear a;go_wp2;go_ret;exact⟨m+1,rfl,rfl,j.o _ (by omega) d (.inr g.o)⟩
theorem qcZ(A:Option qp)(n c k:Nat)(xs:List Nat)(w:qg)(hr:Rd w A n c xs)(hk:k<=35184372088832):qk qd 210 #[.slice A n c,.int .i64 (k:Int)] w fun e w'=>e=.returned (.int .u64 ((nth xs k:Nat):Int))/\w=w':=by
 have f:=hr.sm;rcases k0M k n with h|h
 ·obtain⟨b,off,rfl,g,a⟩:=hr.cell (by omega);have hx:=a k h;have i:=hr.nth_lt k;clear a hr;go_enter func210,ntmps210;go_wp2;go_ret;exact⟨rfl,rfl⟩
 ·have d:qm (nth xs k=0):=vv (q18 xs k (by rw[hr.len];exact h));have j:qb (k<n)=qc:=k00 (by omega);clear hr h;go_enter func210,ntmps210;go_wp2;go_ret;exact⟨q0o (by rw[d.o];rfl),rfl⟩
theorem q4A(A B:Option qp)(n m c d:Nat)(xs ys:List Nat)(w:qg)(ha:Rd w A n c xs)(hb:Rd w B m d ys)(hs:n+m<=35184372088832):qk qd 146 #[.slice A n c,.slice B m d] w (q0k (val xs*val ys) w):=by
 have M:=Go.Proofs.YthopehoklmgphaaGreatDoor.AB.mk (n+m) hs;have H:((n+m:Nat):Int)=(n:Int)+(m:Int):=by omega
 rw[H] at M;clear H;go_enter func146,ntmps146;go_wp2;go_loopw [6] (fun i wr=>∃(k:Nat) (U:List Nat),i=.int .i64 k/\k<=n/\U.length=n+m/\Own wr w.heap.size 197 U /\val (U.take (k+m))=val (xs.take k)*val ys/\qf w.heap.size w wr) (fun i _=>n-(intOf i).toNat)
 case atStart=>exact⟨0,List.replicate (n+m) 0,rfl,k0d _,by simp,Own.made _ _ _,by simp [val,List.take_replicate,q0m],(qa _ _).alloc lr _⟩
 case round =>
  obtain⟨k,U,rfl,hk,s,t,g,u⟩:=hrel;have I:=vv g;have l:=vv s;clear g s;obtain⟨J,rfl⟩:∃J:qg,J=wr:=⟨_,rfl⟩;by_cases hkn:k<n
  ·obtain⟨b,off,rfl,N,v⟩:=ha.cell (by omega);have O:=v k hkn;clear v;have x:=ha.nth_lt k;go_wp2;go_loopw [7,8] (fun q i wr=>∃(j y:Nat) (V:List Nat),i=.int .i64 j/\j<=m/\q=.int .u64 y/\y<4294967296/\V.length=n+m/\Own wr w.heap.size 197 V /\(∀p,k+j<=p->nth V p=nth U p)/\val (V.take (k+j))+4294967296^(k+j)*y=val (U.take (k+j))+4294967296^k*(nth xs k*val (ys.take j))/\qf w.heap.size w wr) (fun _ i _=>m-(intOf i).toNat)
   case atStart=>exact⟨0,0,U,rfl,k0d _,rfl,by omega,l.o,t,fun _ _=>rfl,by simp [val],u⟩
   case round =>
    obtain⟨j,y,V,rfl,hj,rfl,R,z,a,C,g,h⟩:=hrel;have D:=vv g;have f:=vv z;have K:=vv C;clear g z C;have hg:=a.lt;by_cases hjm:j<m
    ·have hx:wr.cell? ⟨b,off+k,qe⟩=qj (.int .u32 ((nth xs k:Nat):Int)):=(h.cell (p:=⟨b,off+k,qe⟩) N).trans O;obtain⟨L,E,rfl,P,F⟩:=hb.cell (by omega);have a1:wr.cell? ⟨L,E+j,qe⟩=qj (.int .u32 ((nth ys j:Nat):Int)):=(h.cell (p:=⟨L,E+j,qe⟩) P).trans (F j hjm);clear F;have G:=hb.nth_lt j;have S:=a.cell (i:=k+j) (by rw[f.o];omega);have T:=a.frozen (k+j);have a2:=a.nth_lt (k+j);have a3:((nth xs k:Nat):Int)*((nth ys j:Nat):Int)<=18446744065119617025:=by have:=q1M x G;omega
     have a0:(0:Int)<=((nth xs k:Nat):Int)*((nth ys j:Nat):Int):=k10 (k0i _) (k0i _);have i1:(j:Int)<(m:Int):=by omega
     have i2:(0:Int)<=(j:Int):=by omega
     have i3:(k:Int)+(j:Int)<(n:Int)+(m:Int):=by omega
     have i4:(0:Int)<=(k:Int)+(j:Int):=by omega
     have i5:(k:Int)<(n:Int):=by omega
     have i6:(0:Int)<=(k:Int):=by omega
     go_wp2_with fail;go_quiet (fail);have W:=vv (q1M x G);have r:=vv a;clear a;go_wp2;go_roundw
     case rel =>
      have X:(nth xs k*nth ys j+nth V (k+j)+y)/4294967296<4294967296:=by have:=W.o;omega
      refine⟨j+1,(nth xs k*nth ys j+nth V (k+j)+y)/4294967296,V.set (k+j) ((nth xs k*nth ys j+nth V (k+j)+y)%4294967296),by go_num,by omega,k0g _ (by omega),X,by rw[k0e];exact f.o,(r.o.drewN _).set (by rw[f.o];omega) (k0z _ (by omega)) (by omega),fun p hp=>?_,q76 (by rw[f.o];omega) (K.o _ lr) D.o,(q0g h _).setCell lr _⟩;rw[q0z _ _ (by omega)];exact K.o p (by omega)
     case measure=>simp [intOf];omega
    ·obtain rfl:j=m:=by omega
     have S:=a.cell (i:=k+j) (by rw[f.o];omega);have T:=a.frozen (k+j);have r:=vv a;clear a;go_wp2;go_roundw
     case rel =>exact⟨k+1,V.set (k+j) y,by go_num,by omega,by rw[k0e];exact f.o,r.o.set (by rw[f.o];omega) R rfl,q8Z hb.len (by rw[f.o];omega) I.o D.o,h.setCell lr _⟩
     case measure=>simp [intOf];omega
  ·obtain rfl:k=n:=by omega
   have Y:=vv (t.rd (n:=k+m) (c:=k+m) l.o.symm lr (by omega));go_wp2_with fail;refine(qe0 _ _ _ _ _ Y.o).mono ?_;rintro e w' ⟨Z,rfl,rfl,Q⟩;go_wp2;go_ret;refine⟨_,Z,k+m,rfl,?_,Fr.at_ lr,u⟩;have e:=I.o;rw[q0p (xs:=U) (by rw[l.o];omega),q0p (xs:=xs) (by rw[ha.len];omega)] at e;rw[<- e];exact Q
theorem q7B{N:Nat}(hl:Lim U)(hv:val U=N)(ht:U=[]\/4294967296^(U.length-1)<=N):U=toL N:=by
 rcases ht with rfl|ht
 ·have:N=0:=hv.symm;subst this;rfl
 ·rcases k04 U.length with a|a
  ·have:U=[]:=k2v.1 a;subst this;have:N=0:=hv.symm;subst this;rfl
  ·have e:=q1m hl (n:=U.length) (fun i hi=>q18 U i hi) (.inr ⟨lr,fun hz=>by have b:=q0b U (U.length-1);rw[show U.length-1+1=U.length by omega,q0p lr] at b;have c:nth U (U.length-1)=0:=hz;rw[c,k1w,k0S] at b;have d:=q17 (q0M hl (U.length-1));rw[k0l,k0K (by omega)] at d;omega⟩);rw[q0p lr,hv] at e;exact e
theorem qey(A A':Option qp)(n m c d N M:Nat)(w:qg)(ha:Rd w A n c (toL N))(hb:Rd w A' m d (toL M))(hn:n<=17592186044416)(hm:m<=17592186044416):qk qd 145 #[.slice A n c,.slice A' m d] w (q0k (N+M) w):=by
 have a9:qm (∀k,k<n->4294967296^k<=N):=vv fun k hk=>by
  have hN:0<N:=by
   rcases k04 N with e|e
   ·have:=ha.words;rw[e,q1v] at this;omega
   ·exact e
  have:=q2g hN;rw[ha.words] at this;exact k06 (k05 (by omega) (by omega)) this
 have b0:qm (∀k,k<m->4294967296^k<=M):=vv fun k hk=>by
  have hM:0<M:=by
   rcases k04 M with e|e
   ·have:=hb.words;rw[e,q1v] at this;omega
   ·exact e
  have:=q2g hM;rw[hb.words] at this;exact k06 (k05 (by omega) (by omega)) this
 have W:=vv fun j (h:qf w.heap.size w j)=>ha.below h rfl
 have X:=vv fun j (h:qf w.heap.size w j)=>hb.below h rfl
 have O:=vv ha.len;have Q:=vv hb.len;obtain⟨Y,hi,R,S,T⟩:=info_parts Go.Proofs.YthopehoklmgphaaGreatDoor.AB.inf;have a4:=ha.nth_lt;have a5:=hb.nth_lt;have b1:=vv a4;have b2:=vv a5;clear ha hb a4 a5;go_enter func145,ntmps145;go_wp2;go_loopw [5,6,7] (fun v q i wr=>∃(k y:Nat) (U:List Nat),i=.int .i64 k/\q=.int .u64 y/\y<=1/\k<=max n m+1/\(max n m<k->y=0)/\U.length=k/\Lim U/\wr.ownsRow w.heap.size 197 1 v k (q0C U) /\val U+4294967296^k*y=val ((toL N).take k)+val ((toL M).take k)/\(U=[]\/4294967296^(k-1)<=N+M)/\qf w.heap.size w wr) (fun _ _ i _=>max n m+1-(intOf i).toNat)
 case atStart=>exact⟨0,0,[],rfl,rfl,by omega,k0d _,fun _=>rfl,rfl,q0Q,World.ownsRow_nil _ _ _ _,by simp [val],.inl rfl,qa _ _⟩
 case round =>
  obtain⟨k,y,U,rfl,rfl,hy,hk,a6,a7,a0,V,a1,a2,a3⟩:=hrel;have F:=vv a1;have x:=vv a7;have HT:=vv a2;have b3:=vv a6;have z:=vv V;have G:=vv a0;have f:=vv a3;clear a1 a7 a2 a6 a0 a3;by_cases g:k<n\/k<m\/0<y
  ·have b6:k<=max n m:=by
    rcases g with h|h|h
    ·omega
    ·omega
    ·by_cases hh:max n m<k
     ·have:=b3.o hh;omega
     ·omega
   have Z:qm (4294967296^k<=N+M):=by
    refine vv ?_;rcases g with h|h|h
    ·have:=a9.o k h;omega
    ·have:=b0.o k h;omega
    ·have t:=F.o;have C:=q1K (toL N) k;have H:=q1K (toL M) k;rw[q06] at C H;have h4:4294967296^k*1<=4294967296^k*y:=k0t _ h;omega
   have hx:=b1.o k;have hz:=b2.o k;clear V;rcases(by omega:k<n\/(¬k<n/\k<m)\/(¬k<n/\¬k<m/\0<y)) with t|⟨t,C⟩|⟨t,C,H⟩
   ·have t1:qb (k<n)=qi:=k03 t;clear g;go_wp2_with fail;refine(qcZ A n c k (toL N) _ (W.o _ f.o) (by omega)).mono ?_;rintro e j ⟨rfl,rfl⟩;go_wp2_with fail;refine(qcZ A' m d k (toL M) _ (X.o _ f.o) (by omega)).mono ?_;rintro e j ⟨rfl,rfl⟩;go_wp2_with (at_builtin;refine qo _ rfl _ _ 86 rfl w.heap.size 197 Y (.int .u32 0) 1 4 underlying86 hi R S T rfl (by decide) _ k (q0C U) rfl (z.o.alloc _) ⟨wr.heap.size,0,qe⟩ 1 1 [.int .u32 ((((nth (toL N) k:Nat):Int)+((nth (toL M) k:Nat):Int)+(y:Int))%4294967296)] rfl rfl (qr _ _ _) (by simp [Value.oneCell']) (by unfold maxLen;omega) (by omega) (by have:=f.o.size;simp;omega) ?_);intro I u l a _;have p:u.ownsRow w.heap.size 197 1 I (k+1) (q0C (U++[(nth (toL N) k+nth (toL M) k+y)%4294967296])):=by
     have e:q0C (U++[(nth (toL N) k+nth (toL M) k+y)%4294967296])=q0C U++[.int .u32 ((((nth (toL N) k:Nat):Int)+((nth (toL M) k:Nat):Int)+(y:Int))%4294967296)]:=by simp [q0C]
     rw[e];exact l
    have s:qf w.heap.size w u:=by have b:qf w.heap.size w (wr.alloc (.cells #[.int .u32 ((((nth (toL N) k:Nat):Int)+((nth (toL M) k:Nat):Int)+(y:Int))%4294967296)] 197)):=f.o.alloc f.o.size _;exact⟨a.os.trans b.os,a.tape.trans b.tape,a.output.trans b.output,k06 b.size a.size,fun i hi=>(a.block i (k01 hi b.size) (fun e=>by have:=(z.o.lt i e.symm).1;omega)).trans (b.block i hi)⟩
    have D:=vv p;have E:=vv s;clear l a p s;go_wp2;go_roundw
    case rel =>
     refine⟨k+1,(nth (toL N) k+nth (toL M) k+y)/4294967296,U++[(nth (toL N) k+nth (toL M) k+y)%4294967296],by go_num,k0g _ (by omega),by omega,by omega,fun h=>?_,by rw[k0p,x.o];rfl,q1A.2 ⟨G.o,q0B.2 ⟨k0z _ (by omega),q0Q⟩⟩,D.o,?_,.inr (by rw[k1a];exact Z.o),E.o⟩
     ·have J:nth (toL N) k=0:=q18 _ _ (by rw[O.o];omega);have K:nth (toL M) k=0:=q18 _ _ (by rw[Q.o];omega);rw[J,K];omega
     ·have e:=F.o;rw[q2b,x.o,q0b,q0b,k0f];have L:=k0O (nth (toL N) k+nth (toL M) k+y) 4294967296;generalize (nth (toL N) k+nth (toL M) k+y)/4294967296=q at *
      generalize (nth (toL N) k+nth (toL M) k+y)%4294967296=r at *
      have e4:4294967296^k*(4294967296*q+r)=4294967296^k*(nth (toL N) k+nth (toL M) k+y):=by rw[L]
      generalize 4294967296^k=P at *
      grind
    case measure=>simp [intOf];omega
   ·have t1:qb (k<n)=qc:=k00 t;have t2:qb (k<m)=qi:=k03 C;clear g;go_wp2_with fail;refine(qcZ A n c k (toL N) _ (W.o _ f.o) (by omega)).mono ?_;rintro e j ⟨rfl,rfl⟩;go_wp2_with fail;refine(qcZ A' m d k (toL M) _ (X.o _ f.o) (by omega)).mono ?_;rintro e j ⟨rfl,rfl⟩;go_wp2_with (at_builtin;refine qo _ rfl _ _ 86 rfl w.heap.size 197 Y (.int .u32 0) 1 4 underlying86 hi R S T rfl (by decide) _ k (q0C U) rfl (z.o.alloc _) ⟨wr.heap.size,0,qe⟩ 1 1 [.int .u32 ((((nth (toL N) k:Nat):Int)+((nth (toL M) k:Nat):Int)+(y:Int))%4294967296)] rfl rfl (qr _ _ _) (by simp [Value.oneCell']) (by unfold maxLen;omega) (by omega) (by have:=f.o.size;simp;omega) ?_);intro I u l a _;have p:u.ownsRow w.heap.size 197 1 I (k+1) (q0C (U++[(nth (toL N) k+nth (toL M) k+y)%4294967296])):=by
     have e:q0C (U++[(nth (toL N) k+nth (toL M) k+y)%4294967296])=q0C U++[.int .u32 ((((nth (toL N) k:Nat):Int)+((nth (toL M) k:Nat):Int)+(y:Int))%4294967296)]:=by simp [q0C]
     rw[e];exact l
    have s:qf w.heap.size w u:=by have b:qf w.heap.size w (wr.alloc (.cells #[.int .u32 ((((nth (toL N) k:Nat):Int)+((nth (toL M) k:Nat):Int)+(y:Int))%4294967296)] 197)):=f.o.alloc f.o.size _;exact⟨a.os.trans b.os,a.tape.trans b.tape,a.output.trans b.output,k06 b.size a.size,fun i hi=>(a.block i (k01 hi b.size) (fun e=>by have:=(z.o.lt i e.symm).1;omega)).trans (b.block i hi)⟩
    have D:=vv p;have E:=vv s;clear l a p s;go_wp2;go_roundw
    case rel =>
     refine⟨k+1,(nth (toL N) k+nth (toL M) k+y)/4294967296,U++[(nth (toL N) k+nth (toL M) k+y)%4294967296],by go_num,k0g _ (by omega),by omega,by omega,fun h=>?_,by rw[k0p,x.o];rfl,q1A.2 ⟨G.o,q0B.2 ⟨k0z _ (by omega),q0Q⟩⟩,D.o,?_,.inr (by rw[k1a];exact Z.o),E.o⟩
     ·have J:nth (toL N) k=0:=q18 _ _ (by rw[O.o];omega);have K:nth (toL M) k=0:=q18 _ _ (by rw[Q.o];omega);rw[J,K];omega
     ·have e:=F.o;rw[q2b,x.o,q0b,q0b,k0f];have L:=k0O (nth (toL N) k+nth (toL M) k+y) 4294967296;generalize (nth (toL N) k+nth (toL M) k+y)/4294967296=q at *
      generalize (nth (toL N) k+nth (toL M) k+y)%4294967296=r at *
      have e4:4294967296^k*(4294967296*q+r)=4294967296^k*(nth (toL N) k+nth (toL M) k+y):=by rw[L]
      generalize 4294967296^k=P at *
      grind
    case measure=>simp [intOf];omega
   ·have t1:qb (k<n)=qc:=k00 t;have t2:qb (k<m)=qc:=k00 C;have t3:qb (0<y)=qi:=k03 H;clear g;go_wp2_with fail;refine(qcZ A n c k (toL N) _ (W.o _ f.o) (by omega)).mono ?_;rintro e j ⟨rfl,rfl⟩;go_wp2_with fail;refine(qcZ A' m d k (toL M) _ (X.o _ f.o) (by omega)).mono ?_;rintro e j ⟨rfl,rfl⟩;go_wp2_with (at_builtin;refine qo _ rfl _ _ 86 rfl w.heap.size 197 Y (.int .u32 0) 1 4 underlying86 hi R S T rfl (by decide) _ k (q0C U) rfl (z.o.alloc _) ⟨wr.heap.size,0,qe⟩ 1 1 [.int .u32 ((((nth (toL N) k:Nat):Int)+((nth (toL M) k:Nat):Int)+(y:Int))%4294967296)] rfl rfl (qr _ _ _) (by simp [Value.oneCell']) (by unfold maxLen;omega) (by omega) (by have:=f.o.size;simp;omega) ?_);intro I u l a _;have p:u.ownsRow w.heap.size 197 1 I (k+1) (q0C (U++[(nth (toL N) k+nth (toL M) k+y)%4294967296])):=by
     have e:q0C (U++[(nth (toL N) k+nth (toL M) k+y)%4294967296])=q0C U++[.int .u32 ((((nth (toL N) k:Nat):Int)+((nth (toL M) k:Nat):Int)+(y:Int))%4294967296)]:=by simp [q0C]
     rw[e];exact l
    have s:qf w.heap.size w u:=by have b:qf w.heap.size w (wr.alloc (.cells #[.int .u32 ((((nth (toL N) k:Nat):Int)+((nth (toL M) k:Nat):Int)+(y:Int))%4294967296)] 197)):=f.o.alloc f.o.size _;exact⟨a.os.trans b.os,a.tape.trans b.tape,a.output.trans b.output,k06 b.size a.size,fun i hi=>(a.block i (k01 hi b.size) (fun e=>by have:=(z.o.lt i e.symm).1;omega)).trans (b.block i hi)⟩
    have D:=vv p;have E:=vv s;clear l a p s;go_wp2;go_roundw
    case rel =>
     refine⟨k+1,(nth (toL N) k+nth (toL M) k+y)/4294967296,U++[(nth (toL N) k+nth (toL M) k+y)%4294967296],by go_num,k0g _ (by omega),by omega,by omega,fun h=>?_,by rw[k0p,x.o];rfl,q1A.2 ⟨G.o,q0B.2 ⟨k0z _ (by omega),q0Q⟩⟩,D.o,?_,.inr (by rw[k1a];exact Z.o),E.o⟩
     ·have J:nth (toL N) k=0:=q18 _ _ (by rw[O.o];omega);have K:nth (toL M) k=0:=q18 _ _ (by rw[Q.o];omega);rw[J,K];omega
     ·have e:=F.o;rw[q2b,x.o,q0b,q0b,k0f];have L:=k0O (nth (toL N) k+nth (toL M) k+y) 4294967296;generalize (nth (toL N) k+nth (toL M) k+y)/4294967296=q at *
      generalize (nth (toL N) k+nth (toL M) k+y)%4294967296=r at *
      have e4:4294967296^k*(4294967296*q+r)=4294967296^k*(nth (toL N) k+nth (toL M) k+y):=by rw[L]
      generalize 4294967296^k=P at *
      grind
    case measure=>simp [intOf];omega
  ·have t:¬k<n:=fun h=>g (.inl h)
   have C:¬k<m:=fun h=>g (.inr (.inl h))
   have H:y=0:=by
    rcases k04 y with h|h
    ·exact h
    ·exact absurd (.inr (.inr h)) g
   subst H;have t1:qb (k<n)=qc:=k00 t;have t2:qb (k<m)=qc:=k00 C;have HE:qm (U=toL (N+M)):=by have e:=F.o;rw[q0p (xs:=toL N) (by rw[O.o];omega),q0p (xs:=toL M) (by rw[Q.o];omega),q06,q06,k1w,k0S] at e;exact vv (q7B G.o e (HT.o.imp id fun h=>by rw[x.o];exact h))
   obtain⟨Av,cv,rfl,a8,b4⟩:=q5Q z.o G.o (by omega);have b5:=vv a8;clear g a8 V;go_wp2;go_ret;exact⟨_,_,_,rfl,by rw[<- HE.o];exact b5.o,b4,f.o⟩
end R1
section
open Go Go.RowKit
def dv(l:List UInt8):Nat:=l.foldl (fun a c=>10*a+(c.toNat-48)) 0
theorem q9F(l:List UInt8)(c:UInt8):dv (l++[c])=10*dv l+(c.toNat-48):=by simp [dv,k2n]
theorem qcs(l:List UInt8):∀a,l.foldl (fun a c=>10*a+(c.toNat-48)) a=a*10^l.length+dv l:=by
 induction l with
 | nil=>intro a;simp [dv]
 | cons c l ih =>
  intro a;unfold dv;rw[List.foldl_cons,List.foldl_cons,ih,ih (10*0+(c.toNat-48)),k19,k0f]
  grind
theorem q9G(l m:List UInt8):dv (l++m)=dv l*10^m.length+dv m:=by unfold dv;rw[k2n,qcs];rfl
def q8h(s:ByteArray):Prop:=∀k (h:k<s.size),48<=s[k].toNat/\s[k].toNat<=57
theorem q6n(s:ByteArray)(k:Nat)(h:k<s.size):s.data.toList.take (k+1)=s.data.toList.take k++[s[k]]:=by rw[k0E (by simpa using h)];rfl
def dvk(s:ByteArray)(k:Nat):Nat:=dv (s.data.toList.take k)
theorem q3J(s:ByteArray):dvk s 0=0:=rfl
theorem q7i(s:ByteArray)(k:Nat)(h:k<s.size):dvk s (k+1)=10*dvk s k+(s[k].toNat-48):=by unfold dvk;rw[q6n s k h,q9F]
theorem q9E(s:ByteArray)(hd:q8h s):∀k,k<=s.size->dvk s k<10^k
 | 0,_=>by simp [q3J]
 | k+1,h=>by have:=q9E s hd k (by omega);have h2:=hd k (by omega);rw[q7i s k (by omega),k0f];omega
def dvm(s:ByteArray)(i j:Nat):Nat:=dv ((s.data.toList.drop i).take j)
theorem qb3(s:ByteArray)(i:Nat):dvm s i 0=0:=rfl
theorem q5t(s:ByteArray)(i j:Nat)(h:i+j<s.size):dvm s i (j+1)=10*dvm s i j+(s[i+j].toNat-48):=by
 unfold dvm;have a:j<(s.data.toList.drop i).length:=by rw[k0o];simp;omega
 rw[k0E a,q9F,List.getElem_drop];rfl
theorem q66(s:ByteArray)(hd:q8h s)(i:Nat):∀j,i+j<=s.size->dvm s i j<10^j
 | 0,_=>by simp [qb3]
 | j+1,h=>by have:=q66 s hd i j (by omega);have h2:=hd (i+j) (by omega);rw[q5t s i j (by omega),k0f];omega
theorem q6E(s:ByteArray)(i j:Nat)(h:i+j<=s.size):dvk s (i+j)=dvk s i*10^j+dvm s i j:=by
 unfold dvk dvm;have e:s.data.toList.length=s.size:=k2s;have a:((s.data.toList.drop i).take j).length=j:=by rw[k0l,k0o];omega
 rw[List.take_add,q9G,a]
theorem q4i(s:ByteArray)(hd:q8h s)(k:Nat)(h:k<=s.size):words (dvk s k)<=k:=by refine q1n (k01 (q9E s hd k h) ?_);exact k2w (by omega) k
theorem q8A(h:j<=8):(10:Nat)^j<=100000000:=k06 (k05 (by omega) h) (by decide)
theorem q59(h:j<=9):(10:Nat)^j<=1000000000:=k06 (k05 (by omega) h) (by decide)
def tn(j:Nat):Nat:=10^j
theorem q8y(j:Nat):tn (j+1)=10*tn j:=by unfold tn;rw[k0f,k0h]
theorem q5j(w:qg)(x:Nat)(hx:x<4294967296)(t:TypeId):Rd (w.alloc (.cells #[.int .u32 (x:Int)] t)) (qj ⟨w.heap.size,0,qe⟩) 1 1 [x]/\qf w.heap.size w (w.alloc (.cells #[.int .u32 (x:Int)] t)):=⟨(Own.lit (t:=t) [x] (q0B.2 ⟨hx,q0Q⟩) (by simp [q0C])).rd rfl lr (by omega),(qa _ _).alloc lr _⟩
structure NatCell(w:qg)(g:Nat):Prop where
 c0:w.cell? ⟨g,0,qe⟩=qj (.slice qe 0 0)
 fz:w.frozen? ⟨g,0,qe⟩=qc
 lt:g<w.heap.size
theorem NatCell.made(w:qg)(t:TypeId):NatCell (w.alloc (.cells #[.slice qe 0 0] t)) w.heap.size:=⟨by simp only[World.cell?];rw[qh];rfl,by simp only[World.frozen?];rw[qh];simp,by simp⟩
theorem NatCell.below(h:NatCell w g)(hb:qf w.heap.size w w'):NatCell w' g:=⟨(hb.cell (p:=⟨g,0,qe⟩) h.lt).trans h.c0,(hb.frozen (p:=⟨g,0,qe⟩) h.lt).trans h.fz,k01 h.lt hb.size⟩
theorem Rd.other(h:Rd w A n c xs)(g o:Nat)(v:qs)(hf:∀a,A=qj a->a.block≠g):Rd (w.setCell ⟨g,o,qe⟩ v) A n c xs:=h.fm (Fm.set0 (g:=g) (o:=o) w v (.inl rfl)) (fun _=>hf)
end
namespace R1
open Go Go.RowKit
theorem qeA(A:Option qp)(n c:Nat)(w:qg):qk qd 143 #[.slice A n c] w fun e w'=>e=.returned (.agg #[.slice A n c])/\qf w.heap.size w w':=by go_enter func143,ntmps143;go_wp2;exact qq (v:=.agg #[.slice A n c]) (by simp [results,results143,go_sem]) rfl ⟨rfl,by first|exact(qa _ _).alloc lr _|exact((qa _ _).alloc lr _).setCell lr _⟩
theorem Parse(s:ByteArray)(w:qg)(hd:q8h s)(h0:0<s.size)(h1:s.size<=65536):qk qd 96 #[.string s] w fun e w'=>∃A n c,e=.returned (.tuple #[.agg #[.slice A n c],.int .i64 0,.int .i64 0])/\Rd w' A n c (toL (dvk s s.size))/\Fr w.heap.size A/\qf w.heap.size w w':=by
 have x:=vv hd;have b7:(s.size:Int)<=65536:=by omega
 clear hd h1;go_enter func96,ntmps96;go_wp2;go_loop [5] (fun t=>∃k:Nat,k<=s.size/\t=.int .i64 k) (fun t=>s.size-(intOf t).toNat)
 case atStart=>exact⟨0,k0d _,rfl⟩
 case round =>
  obtain⟨k,hk,rfl⟩:=hrel;by_cases hks:k<s.size
  ·obtain⟨d1,d2⟩:=x.o k hks;go_wp2;go_round
   case rel=>exact⟨k+1,by omega,by go_num⟩
   case measure=>simp [intOf];omega
  ·have b8:((s.size:Int)==0)=qc:=by rw[k02];omega
   have a1:k=s.size:=by omega
   subst a1;clear hk hks;go_wp2;go_loopw [6,7] (fun v t wr=>∃(i:Nat) (A:Option qp) (n c:Nat),t=.int .i64 i/\i<=s.size/\v=.slice A n c/\Rd wr A n c (toL (dvk s i))/\Fr (w.heap.size+1) A/\NatCell wr w.heap.size/\qf w.heap.size w wr) (fun _ t _=>s.size-(intOf t).toNat)
   case atStart=>exact⟨0,qe,0,0,rfl,k0d _,rfl,Rd.nil _,Fr.none_ _,NatCell.made _ _,(qa _ _).alloc lr _⟩
   case round =>
    obtain⟨i,A,n,c,rfl,hi,rfl,L,a5,N,hB⟩:=hrel;have O:=vv N;have b5:=N.lt;have V:=vv L;have a6:=vv a5;have y:=vv hB;have b9:=L.sm;have c3:n<=65536:=by have:=L.words;have:=q4i s x.o i hi;omega
    clear L a5 hB N;by_cases his:i<s.size
    ·go_wp2;go_loop [8,9,10,7] (fun a b c t=>∃j:Nat,j<=9/\i+j<=s.size/\a=.int .u32 (dvm s i j:Nat)/\b=.int .u32 (tn j:Nat)/\c=.int .i64 j/\t=.int .i64 ((i+j:Nat):Int)) (fun _ _ c _=>9-(intOf c).toNat)
     case atStart=>exact⟨0,by omega,by omega,rfl,rfl,rfl,rfl⟩
     case round =>
      obtain⟨j,hj,r,rfl,rfl,rfl,rfl⟩:=hrel;by_cases hgo:j<9/\i+j<s.size
      ·obtain⟨g1,W⟩:=hgo;obtain⟨d1,d2⟩:=x.o (i+j) W;have HS:=vv (q5t s i j W);have X:=q66 s x.o i j r;have Y:=q8A (j:=j) (by omega);have m3:((dvm s i j:Nat):Int)<=100000000:=by omega
       have m4:((tn j:Nat):Int)<=100000000:=by unfold tn;omega
       have a9:=vv (q8y j);have m5:(j:Int)<9:=by omega
       have m6:((i+j:Nat):Int)<(s.size:Int):=by omega
       clear X Y;go_wp2;go_round
       case rel=>exact⟨j+1,by omega,by omega,k0g _ (by rw[HS.o];omega),k0g _ (by rw[a9.o];omega),by go_num,k0g _ (by omega)⟩
       case measure=>simp [intOf];omega
      ·have c4:0<j:=by omega
       have X:=q66 s x.o i j r;have Y:=q59 hj;have a7:dvm s i j<4294967296:=by omega
       have P:tn j<4294967296:=by unfold tn;omega
       obtain⟨o1,o2⟩:=q5j wr (tn j) P 197;have a8:=vv o1;have q:=vv o2;have b6:qm (tn j<4294967296):=vv P;have M:qm (dvm s i j<4294967296):=vv a7;have K:=vv (q6E s i j r);clear X Y o1 o2 a7 P;rcases(by omega:¬j<9\/j<9/\¬i+j<s.size) with g1|⟨g1,W⟩
       ·clear hgo;go_wp2_with fail;refine(q4A A (qj ⟨wr.heap.size,0,qe⟩) n 1 c 1 _ _ _ (V.o.below q.o rfl) a8.o (by omega)).mono ?_;rintro e g ⟨Z,E,c1,rfl,m,b0,d⟩;rw[q06,q1J] at m;have b1:E<=65536:=by have e1:=m.words;have e2:=q22 (a:=dvk s i*tn j) (b:=dvk s (i+j)) (by rw[K.o];exact Nat.le_add_right _ _);have e3:=q4i s x.o (i+j) r;omega
        obtain⟨F,p⟩:=q5j g (dvm s i j) M.o 197;have HT:=vv (m.below p rfl);have Q:=vv F;have C:=vv p;have h:=vv (((O.o.below q.o).below d).below p);have f:=vv ((y.o.trans (q.o.mono y.o.size)).trans (d.mono (k06 y.o.size q.o.size)));clear m F p d;go_wp2_with fail;refine(qe0 (qj ⟨g.heap.size,0,qe⟩) 1 1 [dvm s i j] _ Q.o).mono ?_;rintro e w' ⟨G,rfl,rfl,l⟩;rw[q1J] at l;have b2:G<=1:=l.bound (k:=1) (by rw[k29];exact M.o);have R:=vv l;clear l;go_wp2_with fail;refine(qey Z (qj ⟨g.heap.size,0,qe⟩) E G c1 1 _ _ _ HT.o R.o (by omega) (by omega)).mono ?_;rintro e w2 ⟨z,H,I,rfl,J,D,u⟩;have HP:qm (Rd w2 z H I (toL (dvk s (i+j)))):=vv (by rw[K.o];exact J);have b3:=f.o.size;have S:=vv ((f.o.trans (C.o.mono f.o.size)).trans (u.mono (k06 f.o.size C.o.size)));have T:qm (Fr (w.heap.size+1) z):=vv (D.mono (by have:=h.o.lt;omega));have U:=vv (h.o.below u);clear J u D;go_wp2;go_roundw
        case rel=>exact⟨i+j,z,H,I,by go_num,r,rfl,HP.o,T.o,U.o,S.o⟩
        case measure=>simp [intOf];omega
       ·clear hgo;go_wp2_with fail;refine(q4A A (qj ⟨wr.heap.size,0,qe⟩) n 1 c 1 _ _ _ (V.o.below q.o rfl) a8.o (by omega)).mono ?_;rintro e g ⟨Z,E,c1,rfl,m,b0,d⟩;rw[q06,q1J] at m;have b1:E<=65536:=by have e1:=m.words;have e2:=q22 (a:=dvk s i*tn j) (b:=dvk s (i+j)) (by rw[K.o];exact Nat.le_add_right _ _);have e3:=q4i s x.o (i+j) r;omega
        obtain⟨F,p⟩:=q5j g (dvm s i j) M.o 197;have HT:=vv (m.below p rfl);have Q:=vv F;have C:=vv p;have h:=vv (((O.o.below q.o).below d).below p);have f:=vv ((y.o.trans (q.o.mono y.o.size)).trans (d.mono (k06 y.o.size q.o.size)));clear m F p d;go_wp2_with fail;refine(qe0 (qj ⟨g.heap.size,0,qe⟩) 1 1 [dvm s i j] _ Q.o).mono ?_;rintro e w' ⟨G,rfl,rfl,l⟩;rw[q1J] at l;have b2:G<=1:=l.bound (k:=1) (by rw[k29];exact M.o);have R:=vv l;clear l;go_wp2_with fail;refine(qey Z (qj ⟨g.heap.size,0,qe⟩) E G c1 1 _ _ _ HT.o R.o (by omega) (by omega)).mono ?_;rintro e w2 ⟨z,H,I,rfl,J,D,u⟩;have HP:qm (Rd w2 z H I (toL (dvk s (i+j)))):=vv (by rw[K.o];exact J);have b3:=f.o.size;have S:=vv ((f.o.trans (C.o.mono f.o.size)).trans (u.mono (k06 f.o.size C.o.size)));have T:qm (Fr (w.heap.size+1) z):=vv (D.mono (by have:=h.o.lt;omega));have U:=vv (h.o.below u);clear J u D;go_wp2;go_roundw
        case rel=>exact⟨i+j,z,H,I,by go_num,r,rfl,HP.o,T.o,U.o,S.o⟩
        case measure=>simp [intOf];omega
    ·have a2:i=s.size:=by omega
     subst a2;clear hi his;go_wp2_with fail;refine(qeA A n c _).mono ?_;rintro e g ⟨rfl,d⟩;have b4:=vv (V.o.below d rfl);have h:=vv (O.o.below d);have f:=vn y d;have c0:=h.o.c0;have fz:=h.o.fz;have lt:=h.o.lt;have a3:qm (Rd (g.setCell ⟨w.heap.size,0,qe⟩ (.slice A n c)) A n c (toL (dvk s s.size))):=vv (b4.o.other _ _ _ (fun a e=>by have:=(a6.o a e).1;omega));have a4:qm (qf w.heap.size w (g.setCell ⟨w.heap.size,0,qe⟩ (.slice A n c))):=vv (f.o.setCell lr _);have a0:(g.setCell ⟨w.heap.size,0,qe⟩ (.slice A n c)).cell? ⟨w.heap.size,0,qe⟩=qj (.slice A n c):=q0t c0;clear d;go_wp2;exact qq (v:=.tuple #[.agg #[.slice A n c],.int .i64 0,.int .i64 0]) (by simp [results,results96,go_sem,a0]) rfl ⟨A,n,c,rfl,a3.o,a6.o.mono (by omega),a4.o⟩
end R1
namespace R3
open Go Go.RowKit R5
def formOk(E F:Int):Bool:=qb (2<=E) && qb (E<=11) && qb (1<=F) && qb (F<=52)
def chk(E F:Int):Int:=if formOk E F then 0 else 5
theorem chk_ok(h:formOk E F=qi):chk E F=0:=if_pos h
theorem chk_no(h:formOk E F=qc):chk E F=5:=by unfold chk;rw[h];rfl
theorem formOk_nat(h:formOk E F=qi):∃e f:Nat,E=e/\F=f/\2<=e/\e<=11/\1<=f/\f<=52:=by unfold formOk at h;simp only[k0C,k0I] at h;exact⟨E.toNat,F.toNat,by omega,by omega,by omega,by omega,by omega,by omega⟩
theorem Check(E F:Int)(w:qg):qk qd 27 #[fm E F] w fun e w'=>e=.returned (.int .i64 (chk E F))/\qf w.heap.size w w':=by
 by_cases h1:E<2
 ·have a:qm (formOk E F=qc):=vv (by unfold formOk;rw[k00 (p:=2<=E) (by omega)];rfl);have b:qb (E<2)=qi:=k03 h1;clear h1;go_enter func27,ntmps27;go_wp2;go_ret;exact⟨q0o (chk_no a.o).symm,(qa _ _).alloc lr _⟩
 have b:qb (E<2)=qc:=k00 h1;by_cases h2:11<E
 ·have a:qm (formOk E F=qc):=vv (by unfold formOk;rw[k00 (p:=E<=11) (by omega)];simp);have c:qb (11<E)=qi:=k03 h2;clear h1 h2;go_enter func27,ntmps27;go_wp2;go_ret;exact⟨q0o (chk_no a.o).symm,(qa _ _).alloc lr _⟩
 have c:qb (11<E)=qc:=k00 h2;by_cases h3:F<1
 ·have a:qm (formOk E F=qc):=vv (by unfold formOk;rw[k00 (p:=1<=F) (by omega)];simp);have d:qb (F<1)=qi:=k03 h3;clear h1 h2 h3;go_enter func27,ntmps27;go_wp2;go_ret;exact⟨q0o (chk_no a.o).symm,(qa _ _).alloc lr _⟩
 have d:qb (F<1)=qc:=k00 h3;by_cases h4:52<F
 ·have a:qm (formOk E F=qc):=vv (by unfold formOk;rw[k00 (p:=F<=52) (by omega)];simp);have f:qb (52<F)=qi:=k03 h4;clear h1 h2 h3 h4;go_enter func27,ntmps27;go_wp2;go_ret;exact⟨q0o (chk_no a.o).symm,(qa _ _).alloc lr _⟩
 have f:qb (52<F)=qc:=k00 h4;have a:qm (formOk E F=qi):=vv (by unfold formOk;rw[k03 (p:=2<=E) (by omega),k03 (p:=E<=11) (by omega),k03 (p:=1<=F) (by omega),k03 (p:=F<=52) (by omega)];rfl);clear h1 h2 h3 h4;go_enter func27,ntmps27;go_wp2;go_ret;exact⟨q0o (chk_ok a.o).symm,(qa _ _).alloc lr _⟩
def tw(j:Nat):Nat:=2^j
theorem tw_succ(j:Nat):tw (j+1)=tw j*2:=by unfold tw;rw[k0f]
theorem tw_le(h:j<=k):tw j<=tw k:=k05 (by omega) h
theorem tw_pos(j:Nat):0<tw j:=k0m j
theorem Pow(n:Nat)(w:qg)(hn:n<=63):qk qd 109 #[.int .i64 (n:Int)] w fun e w'=>e=.returned (.int .u64 (tw n:Nat))/\w=w':=by
 have c:(n:Int)<=63:=by omega
 go_enter func109,ntmps109;go_wp2;go_loop [3,4] (fun a t=>∃k:Nat,k<=n/\t=.int .i64 k/\a=.int .u64 (tw k:Nat)) (fun _ t=>n-(intOf t).toNat)
 case atStart=>exact⟨0,k0d _,rfl,rfl⟩
 case round =>
  obtain⟨k,d,rfl,rfl⟩:=hrel;by_cases hkn:k<n
  ·have f:((tw k:Nat):Int)<=4611686018427387904:=by have:=tw_le (j:=k) (k:=62) (by omega);have g:tw 62=4611686018427387904:=rfl;omega
   have b:=vv (tw_succ k);go_wp2;go_round
   case rel=>exact⟨k+1,by omega,by go_num,k0g _ (by rw[b.o];omega)⟩
   case measure=>simp [intOf];omega
  ·obtain rfl:k=n:=by omega
   clear hkn;go_wp2;go_ret;exact⟨rfl,rfl⟩
theorem Top(E:Nat)(F:Int)(w:qg)(h1:2<=E)(h2:E<=11):qk qd 108 #[fm E F] w fun e w'=>e=.returned (.int .i64 ((tw E-1:Nat):Int))/\qf w.heap.size w w':=by
 have c:((tw E:Nat):Int)<=2048:=by have:=tw_le h2;have d:tw 11=2048:=rfl;omega
 have b:(1:Int)<=((tw E:Nat):Int):=by have:=tw_pos E;omega
 have a:=vv fun w=>Pow E w (by omega)
 clear h1 h2;go_enter func108,ntmps108;go_wp2_with fail;refine(a.o _).mono ?_;rintro e w' ⟨rfl,rfl⟩;go_wp2;go_ret;exact⟨q0o (by omega),(qa _ _).alloc lr _⟩
structure PartsBox(w:qg)(g:Nat)(neg:Bool)(x f:Nat):Prop where
 c0:w.cell? ⟨g,0,qe⟩=qj (.bool neg)
 c1:w.cell? ⟨g,1,qe⟩=qj (.int .i64 (x:Int))
 c2:w.cell? ⟨g,2,qe⟩=qj (.int .u64 (f:Int))
 lt:g<w.heap.size
theorem PartsBox.made(w:qg)(neg:Bool)(x f:Nat)(t:TypeId):PartsBox (w.alloc (.cells #[.bool neg,.int .i64 (x:Int),.int .u64 (f:Int)] t)) w.heap.size neg x f:=⟨by simp only[World.cell?];rw[qh];rfl,by simp only[World.cell?];rw[qh];rfl,by simp only[World.cell?];rw[qh];rfl,by simp⟩
theorem PartsBox.below{x f:Nat}(h:PartsBox w g neg x f)(hb:qf w.heap.size w w'):PartsBox w' g neg x f:=⟨(hb.cell (p:=⟨g,0,qe⟩) h.lt).trans h.c0,(hb.cell (p:=⟨g,1,qe⟩) h.lt).trans h.c1,(hb.cell (p:=⟨g,2,qe⟩) h.lt).trans h.c2,k01 h.lt hb.size⟩
theorem qfl(E F x f:Nat)(neg:Bool)(w:qg)(h1:2<=E)(h2:E<=11)(h3:1<=F)(h4:F<=52)(hx:x<2^E)(hf:f<2^F):qk qd 170 #[fm E F,.agg #[.bool neg,.int .i64 (x:Int),.int .u64 (f:Int)]] w fun e w'=>e=.returned (.tuple #[.int .u64 ((sgb E F neg+(x*2^F+f):Nat):Int),.int .i64 0])/\qf w.heap.size w w':=by
 have I:formOk (E:Int) (F:Int)=qi:=by unfold formOk;rw[k03 (p:=(2:Int)<=E) (by omega),k03 (p:=(E:Int)<=11) (by omega),k03 (p:=(1:Int)<=F) (by omega),k03 (p:=(F:Int)<=52) (by omega)];rfl
 have J:=vv fun w=>Check (E:Int) (F:Int) w
 rw[chk_ok I] at J;obtain⟨T,H⟩:∃T:Nat,T=tw E-1:=⟨_,rfl⟩;obtain⟨P,n⟩:∃P:Nat,P=tw F:=⟨_,rfl⟩;obtain⟨S,q⟩:∃S:Nat,S=tw (E+F):=⟨_,rfl⟩;obtain⟨M,y⟩:∃M:Nat,M=x*P:=⟨_,rfl⟩;have Z:x<=T:=by rw[H];unfold tw;omega
 have a1:f<P:=by rw[n];exact hf
 have a2:M+P<=S:=by
  have:(x+1)*P<=tw E*P:=k0r _ (by unfold tw;omega);rw[q,y];have e:tw (E+F)=tw E*P:=by rw[n];unfold tw;rw[k0q]
  rw[e];rw[k0U,k0N] at this;exact this
 have a0:S<=9223372036854775808:=by rw[q];exact k06 (tw_le (j:=E+F) (k:=63) (by omega)) (by decide)
 have L:=vv fun w=>Top E F w h1 h2
 rw[<- H] at L;have C:=vv fun w=>Pow F w (by omega)
 rw[<- n] at C;have N:=vv fun w=>Pow (E+F) w (by omega)
 rw[<- q] at N;have O:qm (IntKind.u64.wrap ((x:Int)*(P:Int))=(M:Int)):=vv (by
  have e:(x:Int)*(P:Int)=(M:Int):=by rw[y,k0a]
  rw[e,qn];omega)
 have Q:qm (IntKind.u64.wrap ((M:Int)+(f:Int))=((M+f:Nat):Int)):=vv (by rw[qn];omega);have a3:qm (IntKind.u64.wrap (((M+f:Nat):Int)+(S:Int))=((S+(M+f):Nat):Int)):=vv (by rw[qn];omega);have R:qm (sgb E F neg+(x*2^F+f)=(if neg then S else 0)+(M+f)):=vv (by unfold sgb;rw[y,n,q];rfl);obtain⟨g,l⟩:=yx (w.alloc (.cells #[.int .i64 (E:Int),.int .i64 (F:Int)] 23));obtain⟨z,r⟩:=yx (g.alloc (.cells #[.bool neg,.int .i64 (x:Int),.int .u64 (f:Int)] 237));have D:qf w.heap.size w g:=by rw[l];exact(qa _ w).alloc lr _
 have G:qf g.heap.size g z:=by rw[r];exact(qa _ g).alloc lr _
 have U:g.heap.size=w.heap.size+1:=by rw[l];simp
 have m:FmAt z w.heap.size E F:=(show FmAt g w.heap.size E F by rw[l];exact FmAt.made w _ _ _).below G;have V:PartsBox z (w.heap.size+1) neg x f:=by rw[<- U,r];exact PartsBox.made g _ _ _ _
 have b:=vv m;have a:=vv V;have i:=vv (D.trans (G.mono D.size));have a4:qm (z=(w.alloc (.cells #[.int .i64 (E:Int),.int .i64 (F:Int)] 23)).alloc (.cells #[.bool neg,.int .i64 (x:Int),.int .u64 (f:Int)] 237)):=vv (by rw[r,l]);have dT:qb (T<x)=qc:=k00 (by omega);have dP:qb (P<=f)=qc:=k00 (by omega);have a6:(E:Int)<=11:=by omega
 have a7:(F:Int)<=52:=by omega
 have a5:(x:Int)<=4611686018427387904:=by have h5:2^E<=2^11:=k05 (by omega) h2;omega
 have W:=m.c0;have X:=m.c1;have l0:=m.lt;clear h1 h2 h3 h4 hx hf I H n q y Z a1 a2 a0 l r D G U m V;go_enter func170,ntmps170;go_wp2_with fail;rw[<- a4.o];refine(J.o _).mono ?_;rintro e Y ⟨rfl,s⟩;have b:=vv (b.o.below s);have a:=vv (a.o.below s);have i:=vn i s;clear s W X l0;go_wp2_with fail;refine q02 (fun w'=>w'.cell? ⟨w.heap.size,0,qe⟩=qj (.int .i64 (E:Int))/\w'.cell? ⟨w.heap.size,1,qe⟩=qj (.int .i64 (F:Int))/\w'.cell? ⟨w.heap.size+1,1,qe⟩=qj (.int .i64 (x:Int))/\w'.cell? ⟨w.heap.size+1,2,qe⟩=qj (.int .u64 (f:Int))) 18
  (.still 0 (.still 1 (.still 2 (.still 3 (.still 4 (.still 5 (.still 6 (.one 7 (.still 8 (.still 9 (.still 10 (.still 11 (.still 12 (.still 13 (.still 14 (.one 15 (.still 16 (.still 17 .done)))))))))))))))))) (by kernel_rfl) (by kernel_rfl) (fun _ _ d _ _ h=>by cases d<;>exact h) ⟨b.o.c0,b.o.c1,a.o.c1,a.o.c2⟩ (fun hS0=>?_)
 iterate 7
  refine q01 (v:=?_) rfl (by rfl) ?_ ?_;rotate_left
  ·intro w t;go_simp;with_reducible rfl
  simp only[Act.put,sa,sb,sc]
 refine q04 rfl (by rfl) (fun K hK=>?_);go_simp;refine(L.o _).mono ?_;rintro e w3 ⟨rfl,c⟩;have c:qf Y.heap.size Y w3:=⟨c.os,c.tape,c.output,c.size,c.block⟩;have b:=vv (b.o.below c);have a:=vv (a.o.below c);have i:=vn i c;clear c;go_wp2_with fail;refine hK.out _ _ ⟨b.o.c0,b.o.c1,a.o.c1,a.o.c2⟩ (fun u=>?_);clear hK
 iterate 7
  refine q01 (v:=?_) rfl (by rfl) ?_ ?_;rotate_left
  ·intro w t;go_simp;with_reducible rfl
  simp only[Act.put,sa,sb,sc]
 refine q04 rfl (by rfl) (fun K hK=>?_);go_simp;refine(C.o _).mono ?_;rintro e w' ⟨rfl,rfl⟩;go_wp2_with fail;refine hK.out _ _ ⟨b.o.c0,b.o.c1,a.o.c1,a.o.c2⟩ (fun u=>?_);clear hK
 iterate 2
  refine q01 (v:=?_) rfl (by rfl) ?_ ?_;rotate_left
  ·intro w t;go_simp;with_reducible rfl
  simp only[Act.put,sa,sb,sc]
 refine q0Z rfl ?_;clear dT dP u;go_wp2_with fail;refine q02 (fun w'=>w'.cell? ⟨w.heap.size,0,qe⟩=qj (.int .i64 (E:Int))/\w'.cell? ⟨w.heap.size,1,qe⟩=qj (.int .i64 (F:Int))/\w'.cell? ⟨w.heap.size+1,1,qe⟩=qj (.int .i64 (x:Int))/\w'.cell? ⟨w.heap.size+1,2,qe⟩=qj (.int .u64 (f:Int))) 10
  (.still 0 (.still 1 (.still 2 (.still 3 (.still 4 (.still 7 (.still 8 (.one 5 (.still 6 (.still 9 .done)))))))))) (by kernel_rfl) (by kernel_rfl) (fun _ _ d _ _ h=>by cases d<;>exact h) ⟨b.o.c0,b.o.c1,a.o.c1,a.o.c2⟩ (fun hS1=>?_)
 iterate 7
  refine q01 (v:=?_) rfl (by rfl) ?_ ?_;rotate_left
  ·intro w t;go_simp;with_reducible rfl
  simp only[Act.put,sa,sb,sc]
 refine q04 rfl (by rfl) (fun K hK=>?_);go_simp;refine(C.o _).mono ?_;rintro e w' ⟨rfl,rfl⟩;go_wp2_with fail;refine hK.out _ _ ⟨b.o.c0,b.o.c1,a.o.c1,a.o.c2⟩ (fun u=>?_);clear hK
 iterate 2
  refine q01 (v:=?_) rfl (by rfl) ?_ ?_;rotate_left
  ·intro w t;go_simp;with_reducible rfl
  simp only[Act.put,sa,sb,sc]
 refine q0a ?_;have x0:=a.o.c0;have xl:=a.o.lt;obtain⟨W,X,fl⟩:=b.o;clear hS0 hS1 u;cases neg
 ·go_wp2;go_ret2;rw[R.o];exact⟨q4C (by rw[O.o,Q.o];simp) rfl,q07 i.o⟩
 ·go_wp2_with fail;refine(N.o _).mono ?_;rintro e w' ⟨rfl,rfl⟩;go_wp2;go_ret2;rw[R.o];exact⟨q4C (by rw[O.o,Q.o,a3.o];simp) rfl,q07 i.o⟩
theorem qaL(E F x f:Nat)(neg:Bool)(w:qg)(h1:2<=E)(h2:E<=11)(h3:1<=F)(h4:F<=52)(hx:x<2^E)(hf:f<2^F):qk qd 107 #[fm E F,.bool neg,.int .i64 (x:Int),.int .u64 (f:Int)] w fun e w'=>e=.returned (.tuple #[.int .u64 ((sgb E F neg+(x*2^F+f):Nat):Int),.int .i64 0])/\qf w.heap.size w w':=by
 have b:=vv fun w=>qfl E F x f neg w h1 h2 h3 h4 hx hf
 obtain⟨V,c⟩:=yx (sgb E F neg+(x*2^F+f));rw[<- c] at b ⊢;clear h1 h2 h3 h4 hx hf c;go_enter func107,ntmps107;go_wp2_with fail;refine(b.o _).mono ?_;rintro e d ⟨rfl,a⟩;have g:qm (qf w.heap.size w d):=vv (((qa _ w).alloc lr _).trans (a.mono (by simp)));clear a;go_wp2;go_ret2;exact⟨rfl,g.o⟩
theorem Infinite(E F:Nat)(neg:Bool)(w:qg)(h1:2<=E)(h2:E<=11)(h3:1<=F)(h4:F<=52):qk qd 64 #[fm E F,.bool neg] w fun e w'=>e=.returned (.tuple #[.int .u64 ((sgb E F neg+((2^E-1)*2^F):Nat):Int),.int .i64 0])/\qf w.heap.size w w':=by
 have m:formOk (E:Int) (F:Int)=qi:=by unfold formOk;rw[k03 (p:=(2:Int)<=E) (by omega),k03 (p:=(E:Int)<=11) (by omega),k03 (p:=(1:Int)<=F) (by omega),k03 (p:=(F:Int)<=52) (by omega)];rfl
 have n:=vv fun w=>Check (E:Int) (F:Int) w
 rw[chk_ok m] at n;obtain⟨T,k⟩:∃T:Nat,T=tw E-1:=⟨_,rfl⟩;have q:=vv fun w=>Top E F w h1 h2
 rw[<- k] at q;have r:=vv fun w=>qaL E F T 0 neg w h1 h2 h3 h4 (by have:=tw_pos E;unfold tw at *;omega) (k0m _)
 obtain⟨V,l⟩:=yx (sgb E F neg+((2^E-1)*2^F));have e:sgb E F neg+(T*2^F+0)=V:=by rw[l,k,k0S];rfl
 rw[e] at r;rw[<- l];obtain⟨t,g⟩:=yx (w.alloc (.cells #[.int .i64 (E:Int),.int .i64 (F:Int)] 23));have s:qf w.heap.size w t:=by rw[g];exact(qa _ w).alloc lr _
 have f:FmAt t w.heap.size E F:=by rw[g];exact FmAt.made w _ _ _
 have a:=vv f;have c:=vv s;have x:=vv g;have C:=f.c0;have D:=f.c1;have G:=f.lt;clear h1 h2 h3 h4 m k l e g s f;go_enter func64,ntmps64;go_wp2_with fail;rw[<- x.o];refine(n.o _).mono ?_;rintro e u ⟨rfl,i⟩;have a:=vv (a.o.below i);have c:=vn c i;clear i C D G;go_wp2_with fail;refine q02 (fun w'=>w'.cell? ⟨w.heap.size,0,qe⟩=qj (.int .i64 (E:Int))/\w'.cell? ⟨w.heap.size,1,qe⟩=qj (.int .i64 (F:Int))) 9
  (.still 0 (.still 1 (.still 2 (.one 3 (.one 4 (.still 5 (.still 6 (.still 7 (.still 8 .done))))))))) (by kernel_rfl) (by kernel_rfl) (fun _ _ d _ _ h=>by cases d<;>exact h) ⟨a.o.c0,a.o.c1⟩ (fun hS0=>?_)
 iterate 3
  refine q01 (v:=?_) rfl (by rfl) ?_ ?_;rotate_left
  ·intro w y;go_simp;with_reducible rfl
  simp only[Act.put,sa,sb,sc]
 refine q04 rfl (by rfl) (fun K hK=>?_);go_simp;refine(q.o _).mono ?_;rintro e H ⟨rfl,b⟩;have b:qf u.heap.size u H:=⟨b.os,b.tape,b.output,b.size,b.block⟩;have a:=vv (a.o.below b);have c:=vn c b;clear b;go_wp2_with fail;refine hK.out _ _ ⟨a.o.c0,a.o.c1⟩ (fun z=>?_);clear hK;refine q04 rfl (by rfl) (fun K hK=>?_);go_simp;refine(r.o _).mono ?_;rintro e I ⟨rfl,j⟩;have a:=vv (a.o.below j);have c:=vn c j;clear j;go_wp2_with fail;refine hK.out _ _ ⟨a.o.c0,a.o.c1⟩ (fun z=>?_);clear hK
 iterate 4
  refine q01 (v:=?_) rfl (by rfl) ?_ ?_;rotate_left
  ·intro w y;go_simp;with_reducible rfl
  simp only[Act.put,sa,sb,sc]
 refine q0Z rfl ?_;go_wp2;go_ret2;exact⟨rfl,c.o⟩
theorem None_(E F p:Nat)(neg:Bool)(w:qg)(h1:2<=E)(h2:E<=11)(h3:1<=F)(h4:F<=52)(hp:p<2^(F-1)):qk qd 65 #[fm E F,.bool neg,.int .u64 (p:Int)] w fun e w'=>e=.returned (.tuple #[.int .u64 ((sgb E F neg+((2^E-1)*2^F+(2^(F-1)+p)):Nat):Int),.int .i64 0])/\qf w.heap.size w w':=by
 have n:formOk (E:Int) (F:Int)=qi:=by unfold formOk;rw[k03 (p:=(2:Int)<=E) (by omega),k03 (p:=(E:Int)<=11) (by omega),k03 (p:=(1:Int)<=F) (by omega),k03 (p:=(F:Int)<=52) (by omega)];rfl
 obtain⟨G,rfl⟩:∃G,F=G+1:=⟨F-1,by omega⟩;have i:((G+1:Nat):Int)=(G:Int)+1:=by omega
 rw[i] at n;have x:=vv fun w=>Check (E:Int) ((G:Int)+1) w
 rw[chk_ok n] at x;rw[k1a] at hp ⊢;obtain⟨T,t⟩:∃T:Nat,T=tw E-1:=⟨_,rfl⟩;obtain⟨Q,f⟩:∃Q:Nat,Q=tw G:=⟨_,rfl⟩;have M:p<Q:=by rw[f];exact hp
 have N:Q*2=2^(G+1):=by rw[f,k0f];rfl
 have O:Q<=4611686018427387904:=by rw[f];exact k06 (tw_le (j:=G) (k:=62) (by omega)) (by decide)
 have y:=vv fun w=>Top E ((G:Int)+1) w h1 h2
 rw[<- t] at y;have q:=vv fun w=>Pow G w (by omega)
 rw[<- f] at q;have l:=fun w=>qaL E (G+1) T (Q+p) neg w h1 h2 h3 h4 (by have:=tw_pos E;unfold tw at *;omega) (by omega)
 obtain⟨V,u⟩:=yx (sgb E (G+1) neg+((2^E-1)*2^(G+1)+(2^G+p)));have e:sgb E (G+1) neg+(T*2^(G+1)+(Q+p))=V:=by rw[u,t,f];rfl
 simp only[e,i] at l;have l:=vv l;rw[<- u,i];have Y:qb (Q<=p)=qc:=k00 (by omega);have P:qm (IntKind.u64.wrap ((Q:Int)+(p:Int))=((Q+p:Nat):Int)):=vv (by rw[qn];omega);have X:(G:Int)<=51:=by omega
 have R:qm (IntKind.i64.wrap (G:Int)=(G:Int)):=vv (IntWalk.i64_in _ (by omega));obtain⟨H,m⟩:=yx (w.alloc (.cells #[.int .i64 (E:Int),.int .i64 ((G:Int)+1)] 23));have z:qf w.heap.size w H:=by rw[m];exact(qa _ w).alloc lr _
 have g:FmAt H w.heap.size E ((G:Int)+1):=by rw[m];exact FmAt.made w _ _ _
 clear i;have a:=vv g;have c:=vv z;have S:=vv m;have U:=g.c0;have I:=g.c1;have J:=g.lt;clear h1 h2 h3 h4 n t u e m z g f hp M N O;go_enter func65,ntmps65;go_wp2_with fail;rw[<- S.o];refine(x.o _).mono ?_;rintro e L ⟨rfl,r⟩;have a:=vv (a.o.below r);have c:=vn c r;have I:=a.o.c1;have J:=a.o.lt;clear r U;go_wp2_with fail;refine(q.o _).mono ?_;rintro e w' ⟨rfl,rfl⟩;clear I J;go_wp2_with fail;refine q02 (fun w'=>w'.cell? ⟨w.heap.size,0,qe⟩=qj (.int .i64 (E:Int))/\w'.cell? ⟨w.heap.size,1,qe⟩=qj (.int .i64 ((G:Int)+1))) 15
  (.still 0 (.still 1 (.still 2 (.still 4 (.still 5 (.still 6 (.still 8 (.one 3 (.one 7 (.still 9 (.one 10 (.still 11 (.still 12 (.still 13 (.still 14 .done))))))))))))))) (by kernel_rfl) (by kernel_rfl) (fun _ _ d _ _ h=>by cases d<;>exact h) ⟨a.o.c0,a.o.c1⟩ (fun hS0=>?_)
 iterate 7
  refine q01 (v:=?_) rfl (by rfl) ?_ ?_;rotate_left
  ·intro w C;go_simp;with_reducible rfl
  simp only[Act.put,sa,sb,sc]
 refine q04 rfl (by rfl) (fun K hK=>?_);go_simp;refine(y.o _).mono ?_;rintro e W ⟨rfl,b⟩;have b:qf L.heap.size L W:=⟨b.os,b.tape,b.output,b.size,b.block⟩;have a:=vv (a.o.below b);have c:=vn c b;clear b;go_wp2_with fail;refine hK.out _ _ ⟨a.o.c0,a.o.c1⟩ (fun D=>?_);clear hK;refine q04 rfl (by rfl) (fun K hK=>?_);go_simp;rw[R.o];refine(q.o _).mono ?_;rintro e w' ⟨rfl,rfl⟩;go_wp2_with fail;refine hK.out _ _ ⟨a.o.c0,a.o.c1⟩ (fun D=>?_);clear hK
 iterate 1
  refine q01 (v:=?_) rfl (by rfl) ?_ ?_;rotate_left
  ·intro w C;go_simp;with_reducible rfl
  simp only[Act.put,sa,sb,sc]
 refine q04 rfl (by rfl) (fun K hK=>?_);go_simp;rw[P.o];refine(l.o _).mono ?_;rintro e Z ⟨rfl,s⟩;have a:=vv (a.o.below s);have c:=vn c s;clear s;go_wp2_with fail;refine hK.out _ _ ⟨a.o.c0,a.o.c1⟩ (fun D=>?_);clear hK
 iterate 4
  refine q01 (v:=?_) rfl (by rfl) ?_ ?_;rotate_left
  ·intro w C;go_simp;with_reducible rfl
  simp only[Act.put,sa,sb,sc]
 refine q0Z rfl ?_;go_wp2;go_ret2;exact⟨rfl,c.o⟩
end R3
section
open Go Go.RowKit
def q4k(s:ByteArray):Bool:=s.data.toList.all fun c=>qb (48<=c.toNat) && qb (c.toNat<=57)
theorem qb7(s:ByteArray)(k:Nat)(h:k<s.size):s[k]∈s.data.toList:=by have:s[k]=s.data.toList[k]'(by simpa using h):=rfl;rw[this];exact k1D _
theorem q2K:q4k s=qi↔q8h s:=by
 unfold q4k q8h;rw[k1W];constructor
 ·intro h k a;have:=h _ (qb7 s k a)
  simpa using this
 ·intro h c d;obtain⟨k,a,e⟩:=k2H d;have b:k<s.size:=by simpa using a
  have:=h k b;have f:s[k]=c:=e;rw[f] at this
  simpa using this
theorem q4j(hk:k<s.size)(h:¬(48<=s[k].toNat/\s[k].toNat<=57)):q4k s=qc:=by
 rcases k2I (q4k s) with e|e
 ·exact absurd (q2K.1 e k hk) h
 ·exact e
def q1P(s:ByteArray)(k:Nat):Nat:=if h:k<s.size then s[k].toNat else 0
theorem q2E(h:k<s.size):q1P s k=s[k].toNat:=dif_pos h
def q0w(s:ByteArray)(x:Int):Bool:=
 qb (x<=1073741824) && qb (-1073741824<=x) && qb (s.size<=65536) &&
  (if s.size=0 then qb (x=0) else q4k s && !qb (q1P s 0=48) && !qb (q1P s (s.size-1)=48))
structure DecBox(w:qg)(g:Nat)(neg:Bool)(s:ByteArray)(x:Int):Prop where
 c0:w.cell? ⟨g,0,qe⟩=qj (.bool neg)
 c1:w.cell? ⟨g,1,qe⟩=qj (.string s)
 c2:w.cell? ⟨g,2,qe⟩=qj (.int .i64 x)
 lt:g<w.heap.size
theorem DecBox.made(w:qg)(neg:Bool)(s:ByteArray)(x:Int)(t:TypeId):DecBox (w.alloc (.cells #[.bool neg,.string s,.int .i64 x] t)) w.heap.size neg s x:=⟨by simp only[World.cell?];rw[qh];rfl,by simp only[World.cell?];rw[qh];rfl,by simp only[World.cell?];rw[qh];rfl,by simp⟩
theorem DecBox.below(h:DecBox w g neg s x)(hb:qf w.heap.size w w'):DecBox w' g neg s x:=⟨(hb.cell (p:=⟨g,0,qe⟩) h.lt).trans h.c0,(hb.cell (p:=⟨g,1,qe⟩) h.lt).trans h.c1,(hb.cell (p:=⟨g,2,qe⟩) h.lt).trans h.c2,k01 h.lt hb.size⟩
abbrev decV(neg:Bool)(s:ByteArray)(x:Int):qs:=.agg #[.bool neg,.string s,.int .i64 x]
end
namespace R11
open Go Go.RowKit R5
def noTwoB(neg:Bool)(n:Nat)(x:Int):Bool:=qb (n=0) && qb (x=0) && !neg
theorem qeb(neg:Bool)(A:Option qp)(n c:Nat)(x:Int)(w:qg):qk qd 94 #[q5s neg A n c x] w fun e w'=>e=.returned (.bool (noTwoB neg n x))/\qf w.heap.size w w':=by
 by_cases h0:n=0
 ·subst h0;by_cases hx:x=0
  ·subst hx;have a:qm (noTwoB neg 0 0=!neg):=vv (by unfold noTwoB;simp);go_enter func94,ntmps94;go_wp2;go_ret;exact⟨q1L a.o.symm,(qa _ _).alloc lr _⟩
  ·have a:qm (noTwoB neg 0 x=qc):=vv (by unfold noTwoB;rw[k00 hx];simp);have t:(x==0)=qc:=by rw[k02];exact hx
   clear hx;go_enter func94,ntmps94;go_wp2;go_ret;exact⟨q1L a.o.symm,(qa _ _).alloc lr _⟩
 ·have a:qm (noTwoB neg n x=qc):=vv (by unfold noTwoB;rw[k00 h0];rfl);have t:((n:Int)==0)=qc:=by rw[k02];omega
  clear h0;go_enter func94,ntmps94;go_wp2;go_ret;exact⟨q1L a.o.symm,(qa _ _).alloc lr _⟩
theorem q4v(neg:Bool)(s:ByteArray)(x:Int)(w:qg)(h:1073741824<x\/x < -1073741824\/65536<s.size):qk qd 92 #[decV neg s x] w fun e w'=>e=.returned (.bool (q0w s x))/\qf w.heap.size w w':=by
 have a:qm (q0w s x=qc):=vv (by
  unfold q0w;rcases h with h|h|h
  ·rw[k00 (p:=x<=1073741824) (by omega)];rfl
  ·rw[k00 (p:=-1073741824<=x) (by omega)];simp
  ·rw[k00 (p:=s.size<=65536) (by omega)];simp)
 by_cases h1:1073741824<x
 ·have b:qb (1073741824<x)=qi:=k03 h1;clear h h1;go_enter func92,ntmps92;go_wp2;go_ret;exact⟨q1L a.o.symm,(qa _ _).alloc lr _⟩
 have b:qb (1073741824<x)=qc:=k00 h1;by_cases h2:x < -1073741824
 ·have c:qb (x < -1073741824)=qi:=k03 h2;clear h h1 h2;go_enter func92,ntmps92;go_wp2;go_ret;exact⟨q1L a.o.symm,(qa _ _).alloc lr _⟩
 have c:qb (x < -1073741824)=qc:=k00 h2;have d:qb ((65536:Int)<(s.size:Int))=qi:=k03 (by omega);clear h h1 h2;go_enter func92,ntmps92;go_wp2;go_ret;exact⟨q1L a.o.symm,(qa _ _).alloc lr _⟩
end R11
section
open Go Go.RowKit
theorem q1R(h:0<s.size):s.toList.isEmpty=qc:=by
 rw[ByteArray.toList_eq];have e:s.data.toList.length=s.size:=k2s;cases hl:s.data.toList with
 | nil=>rw[hl] at e;simp at e;omega
 | cons _ _=>rfl
end
namespace R11
open Go Go.RowKit R5
theorem q68(h1:x<=1073741824)(h2:-1073741824<=x)(h3:s.size<=65536):q0w s x=(if s.size=0 then qb (x=0) else q4k s && !qb (q1P s 0=48) && !qb (q1P s (s.size-1)=48)):=by unfold q0w;rw[k03 h1,k03 h2,k03 h3];simp
theorem q6F(h1:x<=1073741824)(h2:-1073741824<=x)(h3:s.size<=65536)(h:0<s.size):q0w s x=(q4k s && !qb (q1P s 0=48) && !qb (q1P s (s.size-1)=48)):=by rw[q68 h1 h2 h3,if_neg (by omega)]
theorem q6O(neg:Bool)(x:Int)(w:qg)(h1:x<=1073741824)(h2:-1073741824<=x):qk qd 92 #[decV neg ⟨#[]⟩ x] w fun e w'=>e=.returned (.bool (q0w ⟨#[]⟩ x))/\qf w.heap.size w w':=by
 have a:qm (q0w ⟨#[]⟩ x=(x==0)):=vv (by
  rw[q68 h1 h2 (by decide),if_pos (by decide)];by_cases h:x=0
  ·subst h;rfl
  ·rw[k00 h];symm;rw[k02];exact h)
 have b:qb (1073741824<x)=qc:=k00 (by omega);have c:qb (x < -1073741824)=qc:=k00 (by omega);clear h1 h2;go_enter func92,ntmps92;go_wp2;go_ret;exact⟨q1L a.o.symm,(qa _ _).alloc lr _⟩
theorem q6N(neg:Bool)(s:ByteArray)(x:Int)(w:qg)(h1:x<=1073741824)(h2:-1073741824<=x)(h3:s.size<=65536)(h0:0<s.size):qk qd 92 #[decV neg s x] w fun e w'=>e=.returned (.bool (q0w s x))/\qf w.heap.size w w':=by
 have n:=vv (q6F h1 h2 h3 h0);have y:qb (1073741824<x)=qc:=k00 (by omega);have z:qb (x < -1073741824)=qc:=k00 (by omega);have C:qb ((65536:Int)<(s.size:Int))=qc:=k00 (by omega);have G:(s.size:Int)<=65536:=by omega
 have u:=q1R h0;clear h1 h2 h3;go_enter func92,ntmps92;go_wp2;clear y z C u;obtain⟨p,d⟩:=yx (w.alloc (.cells #[.bool neg,.string s,.int .i64 x] 85));have l:qf w.heap.size w p:=by rw[d];exact(qa _ _).alloc lr _
 have f:DecBox p w.heap.size neg s x:=by rw[d];exact DecBox.made w _ _ _ _
 rw[<- d];have b:=vv l;have H:=vv f;have I:=f.c1;have J:=f.lt;clear l f d;go_loop [3] (fun t=>∃k:Nat,k<=s.size/\t=.int .i64 k/\(∀j (h:j<s.size),j<k->48<=s[j].toNat/\s[j].toNat<=57)) (fun t=>s.size-(intOf t).toNat)
 case atStart=>exact⟨0,k0d _,rfl,fun j _ h=>absurd h (by omega)⟩
 case round =>
  obtain⟨k,D,rfl,m⟩:=hrel;have q:=vv m;clear m;by_cases hks:k<s.size
  ·by_cases hd:48<=s[k].toNat/\s[k].toNat<=57
   ·obtain⟨E,F⟩:=hd;go_wp2;go_round
    case rel =>
     refine⟨k+1,by omega,by go_num,fun j h hj=>?_⟩;rcases(by omega:j<k\/j=k) with h|rfl
     ·exact q.o j _ h
     ·exact⟨E,F⟩
    case measure=>simp [intOf];omega
   ·have r:qm (q0w s x=qc):=vv (by rw[n.o,q4j hks hd];rfl);rcases(by omega:s[k].toNat<48\/48<=s[k].toNat/\57<s[k].toNat) with g|⟨g,K⟩
    ·clear hd;go_wp2;go_ret;exact⟨q1L r.o.symm,b.o⟩
    ·clear hd;go_wp2;go_ret;exact⟨q1L r.o.symm,b.o⟩
  ·have v:k=s.size:=by omega
   subst v;have c:qm (q0w s x=(!qb (q1P s 0=48) && !qb (q1P s (s.size-1)=48))):=vv (by rw[n.o,q2K.2 (fun j h=>q.o j h h)];rfl);clear D hks;rw[q2E h0,q2E (by omega:s.size-1<s.size)] at c;by_cases e0:s[0].toNat=48
   ·have a:qm (q0w s x=qc):=vv (by rw[c.o,k03 e0];rfl);clear c;go_wp2;go_ret;exact⟨q1L a.o.symm,b.o⟩
   ·have L:s.size-1<s.size:=by omega
    have a:qm (q0w s x=!qb (s[s.size-1].toNat=48)):=vv (by rw[c.o,k00 e0];rfl);clear c;by_cases e1:s[s.size-1].toNat=48
    ·have i:qm (q0w s x=qc):=vv (by rw[a.o,k03 e1];rfl);clear a;go_wp2;go_ret;exact⟨q1L i.o.symm,b.o⟩
    ·have i:qm (q0w s x=qi):=vv (by rw[a.o,k00 e1];rfl);clear a;go_wp2;go_ret;exact⟨q1L (by rw[i.o,k0C,k1r,k1r];exact⟨by omega,by omega⟩),b.o⟩
theorem qdT(neg:Bool)(s:ByteArray)(x:Int)(w:qg):qk qd 92 #[decV neg s x] w fun e w'=>e=.returned (.bool (q0w s x))/\qf w.heap.size w w':=by
 by_cases h1:x<=1073741824
 ·by_cases h2:-1073741824<=x
  ·by_cases h3:s.size<=65536
   ·by_cases h0:0<s.size
    ·exact q6N neg s x w h1 h2 h3 h0
    ·have e:s=⟨#[]⟩:=by
      have:s.data.size=0:=by have:s.data.size=s.size:=rfl;omega
      have:=k1e this;cases s;simp_all
     rw[e];exact q6O neg x w h1 h2
   ·exact q4v neg s x w (by omega)
  ·exact q4v neg s x w (by omega)
 ·exact q4v neg s x w (by omega)
end R11
section
open Go Go.RowKit
abbrev numV(kind:Nat)(neg dneg:Bool)(s:ByteArray)(x:Int)(hneg:Bool)(A:Option qp)(n c:Nat)(hx:Int)(p:Nat):qs:=
 .agg #[.int .u8 (kind:Int),.bool neg,.bool dneg,.string s,.int .i64 x,.bool hneg,.slice A n c,.int .i64 hx,.int .u64 (p:Int)]
structure NumBox(w:qg)(g:Nat)(kind:Nat)(neg dneg:Bool)(s:ByteArray)(x:Int)(hneg:Bool)(A:Option qp)(n c:Nat)(hx:Int)(p:Nat):Prop where
 c0:w.cell? ⟨g,0,qe⟩=qj (.int .u8 (kind:Int))
 c1:w.cell? ⟨g,1,qe⟩=qj (.bool neg)
 c2:w.cell? ⟨g,2,qe⟩=qj (.bool dneg)
 c3:w.cell? ⟨g,3,qe⟩=qj (.string s)
 c4:w.cell? ⟨g,4,qe⟩=qj (.int .i64 x)
 c5:w.cell? ⟨g,5,qe⟩=qj (.bool hneg)
 c6:w.cell? ⟨g,6,qe⟩=qj (.slice A n c)
 c7:w.cell? ⟨g,7,qe⟩=qj (.int .i64 hx)
 c8:w.cell? ⟨g,8,qe⟩=qj (.int .u64 (p:Int))
 lt:g<w.heap.size
theorem NumBox.made(w:qg)(kind:Nat)(neg dneg:Bool)(s:ByteArray)(x:Int)(hneg:Bool)(A:Option qp)(n c:Nat)(hx:Int)(p:Nat)(t:TypeId):NumBox (w.alloc (.cells #[.int .u8 (kind:Int),.bool neg,.bool dneg,.string s,.int .i64 x,.bool hneg,.slice A n c,.int .i64 hx,.int .u64 (p:Int)] t)) w.heap.size kind neg dneg s x hneg A n c hx p:=by constructor<;>first|(simp only[World.cell?];rw[qh];rfl)|simp
theorem NumBox.below(h:NumBox w g kind neg dneg s x hneg A n c hx p)(hb:qf w.heap.size w w'):NumBox w' g kind neg dneg s x hneg A n c hx p:=⟨(hb.cell (p:=⟨g,0,qe⟩) h.lt).trans h.c0,(hb.cell (p:=⟨g,1,qe⟩) h.lt).trans h.c1,(hb.cell (p:=⟨g,2,qe⟩) h.lt).trans h.c2,(hb.cell (p:=⟨g,3,qe⟩) h.lt).trans h.c3,(hb.cell (p:=⟨g,4,qe⟩) h.lt).trans h.c4,(hb.cell (p:=⟨g,5,qe⟩) h.lt).trans h.c5,(hb.cell (p:=⟨g,6,qe⟩) h.lt).trans h.c6,(hb.cell (p:=⟨g,7,qe⟩) h.lt).trans h.c7,(hb.cell (p:=⟨g,8,qe⟩) h.lt).trans h.c8,k01 h.lt hb.size⟩
def q1q(neg:Bool)(s:ByteArray)(x:Int):Bool:=!neg && s.toList.isEmpty && (x==0)
def q1C(kind:Nat)(neg dneg:Bool)(s:ByteArray)(x:Int)(hneg:Bool)(n:Nat)(xs:List Nat)(hx:Int)(p:Nat):Bool:=
 if kind=1 then q0w s x && (dneg==neg) && R11.noTwoB hneg n hx && qb (p=0)
 else if kind=2 then R5.twoOk hneg n xs hx && q1q dneg s x && qb (p=0) && ((hneg==neg) || decide (n=0))
 else if kind=3 then q1q dneg s x && R11.noTwoB hneg n hx && qb (p=0)
 else if kind=4 then q1q dneg s x && R11.noTwoB hneg n hx && qb (p<=2251799813685247)
 else qc
def q08(b:Bool):Int:=if b then 0 else 110
theorem q45:q08 qi=0:=rfl
theorem q3s:q08 qc=110:=rfl
end
namespace R11
open Go Go.RowKit R5
theorem Check(kind:Nat)(neg dneg:Bool)(s:ByteArray)(x:Int)(hneg:Bool)(A:Option qp)(n c:Nat)(xs:List Nat)(hx:Int)(p:Nat)(w:qg)(hr:Rd w A n c xs):qk qd 61 #[numV kind neg dneg s x hneg A n c hx p] w fun e w'=>e=.returned (.int .i64 (q08 (q1C kind neg dneg s x hneg n xs hx p)))/\qf w.heap.size w w':=by
 obtain⟨r,v⟩:=yx (q0w s x);obtain⟨t,y⟩:=yx (twoOk hneg n xs hx);obtain⟨qe,z⟩:=yx (noTwoB hneg n hx);obtain⟨V,q⟩:=yx (q1C kind neg dneg s x hneg n xs hx p);have L:=vv fun w=>qdT dneg s x w
 rw[<- v] at L;have M:=vv fun w' (h:qf w.heap.size w w')=>Two hneg A n c xs hx w' (hr.below h rfl)
 rw[<- y] at M;have N:=vv fun w=>qeb hneg A n c hx w
 rw[<- z] at N;rw[<- q];unfold q1C at q;rw[<- v,<- y,<- z] at q;have f:=vv q;clear v y z q;obtain⟨O,u⟩:=yx (w.alloc (.cells #[.int .u8 (kind:Int),.bool neg,.bool dneg,.string s,.int .i64 x,.bool hneg,.slice A n c,.int .i64 hx,.int .u64 (p:Int)] 92));have J:qf w.heap.size w O:=by rw[u];exact(qa _ w).alloc lr _
 have K:NumBox O w.heap.size kind neg dneg s x hneg A n c hx p:=by rw[u];exact NumBox.made w _ _ _ _ _ _ _ _ _ _ _ _
 have g:=vv K;have b:=vv J;have T:=vv u;clear u J K hr;go_enter func61,ntmps61;go_wp2_with fail;rw[<- T.o];refine(L.o _).mono ?_;rintro e U ⟨rfl,C⟩;have g:=vv (g.o.below C);have b:=vn b C;clear C;have P:=g.o.c5;have Q:=g.o.c6;have R:=g.o.c7;have S:=g.o.lt;go_wp2_with fail;refine(M.o _ b.o).mono ?_;rintro e W ⟨rfl,D⟩;have g:=vv (g.o.below D);have b:=vn b D;clear D;have P:=g.o.c5;have Q:=g.o.c6;have R:=g.o.c7;have S:=g.o.lt;go_wp2_with fail;refine(N.o _).mono ?_;rintro e X ⟨rfl,E⟩;have g:=vv (g.o.below E);have b:=vn b E;clear E;obtain⟨Y,P,Q,R,Z,k5,k6,k7,k8,S⟩:=g.o;cases dneg
 ·cases he:s.toList.isEmpty
  ·have d:qm (q1q qc s x=qc):=vv (by unfold q1q;rw[he];rfl);rcases(by omega:kind=1\/kind=2\/kind=3\/kind=4\/(kind≠1/\kind≠2/\kind≠3/\kind≠4)) with rfl|rfl|rfl|rfl|⟨j,k,l,m⟩
   ·cases r
    ·have a:qm (V=qc):=vv (by rw[f.o,d.o];simp);go_wp2;go_ret;exact⟨q0o (by rw[a.o];rfl),b.o⟩
    ·cases neg
     ·cases qe
      ·have a:qm (V=qc):=vv (by rw[f.o,d.o];simp);go_wp2;go_ret;exact⟨q0o (by rw[a.o];rfl),b.o⟩
      ·by_cases hp:p=0
       ·have i:((p:Int)==0)=qi:=by rw[hp];rfl
        ·have a:qm (V=qi):=vv (by rw[f.o,d.o];simp [hp]);go_wp2;go_ret;exact⟨q0o (by rw[a.o];rfl),b.o⟩
       ·have i:((p:Int)==0)=qc:=by rw[k02];omega
        ·have a:qm (V=qc):=vv (by rw[f.o,d.o];simp [hp]);go_wp2;go_ret;exact⟨q0o (by rw[a.o];rfl),b.o⟩
     ·have a:qm (V=qc):=vv (by rw[f.o,d.o];simp);go_wp2;go_ret;exact⟨q0o (by rw[a.o];rfl),b.o⟩
   ·cases t
    ·have a:qm (V=qc):=vv (by rw[f.o,d.o];simp);go_wp2;go_ret;exact⟨q0o (by rw[a.o];rfl),b.o⟩
    ·have a:qm (V=qc):=vv (by rw[f.o,d.o];simp);go_wp2;go_ret;exact⟨q0o (by rw[a.o];rfl),b.o⟩
   ·have a:qm (V=qc):=vv (by rw[f.o,d.o];simp);go_wp2;go_ret;exact⟨q0o (by rw[a.o];rfl),b.o⟩
   ·have a:qm (V=qc):=vv (by rw[f.o,d.o];simp);go_wp2;go_ret;exact⟨q0o (by rw[a.o];rfl),b.o⟩
   ·have F:((kind:Int)==1)=qc:=by rw[k02];omega
    have G:((kind:Int)==2)=qc:=by rw[k02];omega
    have H:((kind:Int)==3)=qc:=by rw[k02];omega
    have I:((kind:Int)==4)=qc:=by rw[k02];omega
    ·have a:qm (V=qc):=vv (by rw[f.o,d.o];simp [j,k,l,m]);go_wp2;go_ret;exact⟨q0o (by rw[a.o];rfl),b.o⟩
  ·cases tx:(x==0)
   ·have d:qm (q1q qc s x=qc):=vv (by unfold q1q;rw[he,tx];rfl);rcases(by omega:kind=1\/kind=2\/kind=3\/kind=4\/(kind≠1/\kind≠2/\kind≠3/\kind≠4)) with rfl|rfl|rfl|rfl|⟨j,k,l,m⟩
    ·cases r
     ·have a:qm (V=qc):=vv (by rw[f.o,d.o];simp);go_wp2;go_ret;exact⟨q0o (by rw[a.o];rfl),b.o⟩
     ·cases neg
      ·cases qe
       ·have a:qm (V=qc):=vv (by rw[f.o,d.o];simp);go_wp2;go_ret;exact⟨q0o (by rw[a.o];rfl),b.o⟩
       ·by_cases hp:p=0
        ·have i:((p:Int)==0)=qi:=by rw[hp];rfl
         ·have a:qm (V=qi):=vv (by rw[f.o,d.o];simp [hp]);go_wp2;go_ret;exact⟨q0o (by rw[a.o];rfl),b.o⟩
        ·have i:((p:Int)==0)=qc:=by rw[k02];omega
         ·have a:qm (V=qc):=vv (by rw[f.o,d.o];simp [hp]);go_wp2;go_ret;exact⟨q0o (by rw[a.o];rfl),b.o⟩
      ·have a:qm (V=qc):=vv (by rw[f.o,d.o];simp);go_wp2;go_ret;exact⟨q0o (by rw[a.o];rfl),b.o⟩
    ·cases t
     ·have a:qm (V=qc):=vv (by rw[f.o,d.o];simp);go_wp2;go_ret;exact⟨q0o (by rw[a.o];rfl),b.o⟩
     ·have a:qm (V=qc):=vv (by rw[f.o,d.o];simp);go_wp2;go_ret;exact⟨q0o (by rw[a.o];rfl),b.o⟩
    ·have a:qm (V=qc):=vv (by rw[f.o,d.o];simp);go_wp2;go_ret;exact⟨q0o (by rw[a.o];rfl),b.o⟩
    ·have a:qm (V=qc):=vv (by rw[f.o,d.o];simp);go_wp2;go_ret;exact⟨q0o (by rw[a.o];rfl),b.o⟩
    ·have F:((kind:Int)==1)=qc:=by rw[k02];omega
     have G:((kind:Int)==2)=qc:=by rw[k02];omega
     have H:((kind:Int)==3)=qc:=by rw[k02];omega
     have I:((kind:Int)==4)=qc:=by rw[k02];omega
     ·have a:qm (V=qc):=vv (by rw[f.o,d.o];simp [j,k,l,m]);go_wp2;go_ret;exact⟨q0o (by rw[a.o];rfl),b.o⟩
   ·have d:qm (q1q qc s x=qi):=vv (by unfold q1q;rw[he,tx];rfl);rcases(by omega:kind=1\/kind=2\/kind=3\/kind=4\/(kind≠1/\kind≠2/\kind≠3/\kind≠4)) with rfl|rfl|rfl|rfl|⟨j,k,l,m⟩
    ·cases r
     ·have a:qm (V=qc):=vv (by rw[f.o,d.o];simp);go_wp2;go_ret;exact⟨q0o (by rw[a.o];rfl),b.o⟩
     ·cases neg
      ·cases qe
       ·have a:qm (V=qc):=vv (by rw[f.o,d.o];simp);go_wp2;go_ret;exact⟨q0o (by rw[a.o];rfl),b.o⟩
       ·by_cases hp:p=0
        ·have i:((p:Int)==0)=qi:=by rw[hp];rfl
         ·have a:qm (V=qi):=vv (by rw[f.o,d.o];simp [hp]);go_wp2;go_ret;exact⟨q0o (by rw[a.o];rfl),b.o⟩
        ·have i:((p:Int)==0)=qc:=by rw[k02];omega
         ·have a:qm (V=qc):=vv (by rw[f.o,d.o];simp [hp]);go_wp2;go_ret;exact⟨q0o (by rw[a.o];rfl),b.o⟩
      ·have a:qm (V=qc):=vv (by rw[f.o,d.o];simp);go_wp2;go_ret;exact⟨q0o (by rw[a.o];rfl),b.o⟩
    ·cases t
     ·have a:qm (V=qc):=vv (by rw[f.o,d.o];simp);go_wp2;go_ret;exact⟨q0o (by rw[a.o];rfl),b.o⟩
     ·by_cases hp:p=0
      ·have i:((p:Int)==0)=qi:=by rw[hp];rfl
       ·cases hneg
        ·cases neg
         ·have a:qm (V=qi):=vv (by rw[f.o,d.o];simp [hp]);go_wp2;go_ret;exact⟨q0o (by rw[a.o];rfl),b.o⟩
         ·by_cases hn:n=0
          ·have tn:((n:Int)==0)=qi:=by rw[hn];rfl
           ·have a:qm (V=qi):=vv (by rw[f.o,d.o];simp [hp,hn]);go_wp2;go_ret;exact⟨q0o (by rw[a.o];rfl),b.o⟩
          ·have tn:((n:Int)==0)=qc:=by rw[k02];omega
           ·have a:qm (V=qc):=vv (by rw[f.o,d.o];simp [hp,hn]);go_wp2;go_ret;exact⟨q0o (by rw[a.o];rfl),b.o⟩
        ·cases neg
         ·by_cases hn:n=0
          ·have tn:((n:Int)==0)=qi:=by rw[hn];rfl
           ·have a:qm (V=qi):=vv (by rw[f.o,d.o];simp [hp,hn]);go_wp2;go_ret;exact⟨q0o (by rw[a.o];rfl),b.o⟩
          ·have tn:((n:Int)==0)=qc:=by rw[k02];omega
           ·have a:qm (V=qc):=vv (by rw[f.o,d.o];simp [hp,hn]);go_wp2;go_ret;exact⟨q0o (by rw[a.o];rfl),b.o⟩
         ·have a:qm (V=qi):=vv (by rw[f.o,d.o];simp [hp]);go_wp2;go_ret;exact⟨q0o (by rw[a.o];rfl),b.o⟩
      ·have i:((p:Int)==0)=qc:=by rw[k02];omega
       ·have a:qm (V=qc):=vv (by rw[f.o,d.o];simp [hp]);go_wp2;go_ret;exact⟨q0o (by rw[a.o];rfl),b.o⟩
    ·cases qe
     ·have a:qm (V=qc):=vv (by rw[f.o,d.o];simp);go_wp2;go_ret;exact⟨q0o (by rw[a.o];rfl),b.o⟩
     ·by_cases hp:p=0
      ·have i:((p:Int)==0)=qi:=by rw[hp];rfl
       ·have a:qm (V=qi):=vv (by rw[f.o,d.o];simp [hp]);go_wp2;go_ret;exact⟨q0o (by rw[a.o];rfl),b.o⟩
      ·have i:((p:Int)==0)=qc:=by rw[k02];omega
       ·have a:qm (V=qc):=vv (by rw[f.o,d.o];simp [hp]);go_wp2;go_ret;exact⟨q0o (by rw[a.o];rfl),b.o⟩
    ·cases qe
     ·have a:qm (V=qc):=vv (by rw[f.o,d.o];simp);go_wp2;go_ret;exact⟨q0o (by rw[a.o];rfl),b.o⟩
     ·by_cases hp:p<=2251799813685247
      ·have i:qb ((p:Int)<=2251799813685247)=qi:=k03 (by omega)
       ·have a:qm (V=qi):=vv (by rw[f.o,d.o];simp [hp]);go_wp2;go_ret;exact⟨q0o (by rw[a.o];rfl),b.o⟩
      ·have i:qb ((p:Int)<=2251799813685247)=qc:=k00 (by omega)
       ·have a:qm (V=qc):=vv (by rw[f.o,d.o];simp [hp]);go_wp2;go_ret;exact⟨q0o (by rw[a.o];rfl),b.o⟩
    ·have F:((kind:Int)==1)=qc:=by rw[k02];omega
     have G:((kind:Int)==2)=qc:=by rw[k02];omega
     have H:((kind:Int)==3)=qc:=by rw[k02];omega
     have I:((kind:Int)==4)=qc:=by rw[k02];omega
     ·have a:qm (V=qc):=vv (by rw[f.o,d.o];simp [j,k,l,m]);go_wp2;go_ret;exact⟨q0o (by rw[a.o];rfl),b.o⟩
 ·have d:qm (q1q qi s x=qc):=vv (by unfold q1q;rfl);rcases(by omega:kind=1\/kind=2\/kind=3\/kind=4\/(kind≠1/\kind≠2/\kind≠3/\kind≠4)) with rfl|rfl|rfl|rfl|⟨j,k,l,m⟩
  ·cases r
   ·have a:qm (V=qc):=vv (by rw[f.o,d.o];simp);go_wp2;go_ret;exact⟨q0o (by rw[a.o];rfl),b.o⟩
   ·cases neg
    ·have a:qm (V=qc):=vv (by rw[f.o,d.o];simp);go_wp2;go_ret;exact⟨q0o (by rw[a.o];rfl),b.o⟩
    ·cases qe
     ·have a:qm (V=qc):=vv (by rw[f.o,d.o];simp);go_wp2;go_ret;exact⟨q0o (by rw[a.o];rfl),b.o⟩
     ·by_cases hp:p=0
      ·have i:((p:Int)==0)=qi:=by rw[hp];rfl
       ·have a:qm (V=qi):=vv (by rw[f.o,d.o];simp [hp]);go_wp2;go_ret;exact⟨q0o (by rw[a.o];rfl),b.o⟩
      ·have i:((p:Int)==0)=qc:=by rw[k02];omega
       ·have a:qm (V=qc):=vv (by rw[f.o,d.o];simp [hp]);go_wp2;go_ret;exact⟨q0o (by rw[a.o];rfl),b.o⟩
  ·cases t
   ·have a:qm (V=qc):=vv (by rw[f.o,d.o];simp);go_wp2;go_ret;exact⟨q0o (by rw[a.o];rfl),b.o⟩
   ·have a:qm (V=qc):=vv (by rw[f.o,d.o];simp);go_wp2;go_ret;exact⟨q0o (by rw[a.o];rfl),b.o⟩
  ·have a:qm (V=qc):=vv (by rw[f.o,d.o];simp);go_wp2;go_ret;exact⟨q0o (by rw[a.o];rfl),b.o⟩
  ·have a:qm (V=qc):=vv (by rw[f.o,d.o];simp);go_wp2;go_ret;exact⟨q0o (by rw[a.o];rfl),b.o⟩
  ·have F:((kind:Int)==1)=qc:=by rw[k02];omega
   have G:((kind:Int)==2)=qc:=by rw[k02];omega
   have H:((kind:Int)==3)=qc:=by rw[k02];omega
   have I:((kind:Int)==4)=qc:=by rw[k02];omega
   ·have a:qm (V=qc):=vv (by rw[f.o,d.o];simp [j,k,l,m]);go_wp2;go_ret;exact⟨q0o (by rw[a.o];rfl),b.o⟩
end R11
namespace R1
open Go Go.RowKit
theorem two_words(w:qg)(x y:Nat)(hx:x<4294967296)(hy:y<4294967296)(t:TypeId):Rd (w.alloc (.cells #[.int .u32 (x:Int),.int .u32 (y:Int)] t)) (qj ⟨w.heap.size,0,qe⟩) 2 2 [x,y]/\qf w.heap.size w (w.alloc (.cells #[.int .u32 (x:Int),.int .u32 (y:Int)] t)):=⟨(Own.lit (t:=t) [x,y] (q0B.2 ⟨hx,q0B.2 ⟨hy,q0Q⟩⟩) (by simp [q0C])).rd rfl lr (by omega),(qa _ _).alloc lr _⟩
theorem Of1(w:qg):qk qd 95 #[.int .u64 1] w fun e w'=>∃A n c,e=.returned (.agg #[.slice A n c])/\Rd w' A n c (toL 1)/\qf w.heap.size w w':=by
 go_enter func95,ntmps95;go_wp2_with fail;obtain⟨h,i⟩:=two_words (w.alloc (.cells #[.slice qe 0 0] 88)) 1 0 (by omega) (by omega) 197;have k:=(NatCell.made w 88).below i;have l:=(qa w.heap.size w).alloc (o:=.cells #[.slice qe 0 0] 88) lr;have u:=vv k;have x:=vv (l.trans (i.mono (by simp)));have m:(w.alloc (.cells #[.slice qe 0 0] 88)).heap.size=w.heap.size+1:=by simp
 rw[m] at h;clear i k l m;refine(qe0 (qj ⟨w.heap.size+1,0,qe⟩) 2 2 [1,0] _ h).mono ?_;rintro e w' ⟨b,rfl,rfl,j⟩;have y:=vv j;clear j h;go_wp2_with fail;refine(qeA _ b 2 _).mono ?_;rintro e f ⟨rfl,d⟩;have p:qm (Rd f (qj ⟨w.heap.size+1,0,qe⟩) b 2 (toL 1)):=vv (y.o.below d rfl);have g:=vv (u.o.below d);have q:=vn x d;have z:=g.o.c0;have fz:=g.o.fz;have lt:=g.o.lt;have r:qm (Rd (f.setCell ⟨w.heap.size,0,qe⟩ (.slice (qj ⟨w.heap.size+1,0,qe⟩) b 2)) (qj ⟨w.heap.size+1,0,qe⟩) b 2 (toL 1)):=vv (p.o.other _ _ _ (fun a e=>by cases e;simp));have s:qm (qf w.heap.size w (f.setCell ⟨w.heap.size,0,qe⟩ (.slice (qj ⟨w.heap.size+1,0,qe⟩) b 2))):=vv (q.o.setCell lr _);have t:(f.setCell ⟨w.heap.size,0,qe⟩ (.slice (qj ⟨w.heap.size+1,0,qe⟩) b 2)).cell? ⟨w.heap.size,0,qe⟩=qj (.slice (qj ⟨w.heap.size+1,0,qe⟩) b 2):=q0t z;clear d;go_wp2;exact qq (v:=.agg #[.slice (qj ⟨w.heap.size+1,0,qe⟩) b 2]) (by simp [results,results95,go_sem,t]) rfl ⟨_,_,_,rfl,r.o,s.o⟩
end R1
namespace R11
open Go Go.RowKit R5
theorem decimal_none(E F:Nat)(neg:Bool)(mode:Nat)(x:Int)(w:qg)(h1:2<=E)(h2:E<=11)(h3:1<=F)(h4:F<=52)(hm:mode<=4)
  (hx1:-4611686018427387904<=x) (hx2:x<=4611686018427387904) (hst:Std w) :
  qk qd 62 #[fm E F,decV neg ⟨#[]⟩ x,.int .u8 (mode:Int)] w (q1B (q0i E F qc neg mode 0 (t10 (-x))) w):=by
 have p:=vv fun(A:Option qp) n c (B':Option qp) m d w' (ha:Rd w' A n c (toL 0)) (hb:Rd w' B' m d (toL 1)) (hn:n<=16384) (hs:Std w')=>q9U E F qc neg mode A n c B' m d 0 x w' h1 h2 h3 h4 hm ha hb hn (fun _=>rfl) hx1 hx2 hs
 rw[k1K] at p;obtain⟨O,z⟩:=yx (q0i E F qc neg mode 0 (t10 (-x)));rw[<- z] at p ⊢;have G:=vv hst;obtain⟨a,b⟩:=yx (w.alloc (.cells #[.int .i64 (E:Int),.int .i64 (F:Int)] 23));obtain⟨f,h⟩:=yx (a.alloc (.cells #[.bool neg,.string ⟨#[]⟩,.int .i64 x] 85));have k:qf w.heap.size w a:=by rw[b];exact(qa _ w).alloc lr _
 have l:qf a.heap.size a f:=by rw[h];exact(qa _ a).alloc lr _
 have s:a.heap.size=w.heap.size+1:=by rw[b];simp
 have t:FmAt f w.heap.size E F:=(show FmAt a w.heap.size E F by rw[b];exact FmAt.made w _ _ _).below l;have u:DecBox f (w.heap.size+1) neg ⟨#[]⟩ x:=by rw[<- s,h];exact DecBox.made a _ _ _ _
 have C:qf w.heap.size w f:=k.trans (l.mono k.size);have q:=vv t;have r:=vv u;have g:=vv C;have H:qm (f=(w.alloc (.cells #[.int .i64 (E:Int),.int .i64 (F:Int)] 23)).alloc (.cells #[.bool neg,.string ⟨#[]⟩,.int .i64 x] 85)):=vv (by rw[h,b]);have L:(mode:Int)<=4:=by omega
 clear b h k l s t u C z hst h1 h2 h3 h4 hm;go_enter func62,ntmps62;go_wp2_with fail;rw[<- H.o];refine(R1.Of1 _).mono ?_;rintro e D ⟨A,n,c,rfl,v,i⟩;have I:=vv v;have q:=vv (q.o.below i);have r:=vv (r.o.below i);have g:=vn g i;obtain⟨M,N,P,Q⟩:=r.o;obtain⟨R,S,T⟩:=q.o;clear v i;go_wp2_with fail;have j:=(qa D.heap.size D).alloc (o:=.cells #[.bool qc,.slice qe 0 0,.slice A n c] 151) lr;refine(p.o qe 0 0 A n c _ (by rw[q35];exact Rd.nil _) (I.o.below j rfl) (by omega) (G.o.fs (Fs.of_nil (g.o.trans (j.mono g.o.size))))).mono ?_;have J:=vn g j;clear j;rintro e U ⟨rfl,y⟩;have K:=vn J y;clear y;go_wp2;go_ret3;exact⟨rfl,K.o⟩
theorem q85(hd:q8h s)(m:Nat)(h:s.size<=8*m):words (dvk s s.size)<=m:=by refine q1n (k01 (q9E s hd s.size lr) ?_);have a:(10:Nat)^s.size<=10^(8*m):=k05 (by omega) h;rw[k18] at a;exact k06 a (k2w (by decide) m)
theorem digs_bound(hd:q8h s)(h:s.size<=65536):words (dvk s s.size)<=16384:=q85 hd 16384 (by omega)
theorem dvk_pos(s:ByteArray)(hd:q8h s)(h0:0<s.size)(hf:q1P s 0≠48):0<dvk s s.size:=by
 have a:=q7i s 0 h0;rw[q3J] at a;rw[q2E h0] at hf;have c:=(hd 0 h0).1;have b:=q6E s 1 (s.size-1) (by omega);have e:1+(s.size-1)=s.size:=by omega
 rw[e] at b;have d:dvk s 1≠0:=by rw[a];omega
 have f:0<dvk s 1*10^(s.size-1):=k0w (by omega) (k1I (by omega));omega
theorem decimal_some(E F:Nat)(neg:Bool)(mode:Nat)(s:ByteArray)(x:Int)(w:qg)(h1:2<=E)(h2:E<=11)(h3:1<=F)(h4:F<=52)(hm:mode<=4)
  (hd:q8h s) (h0:0<s.size) (hsz:s.size<=65536) (hf:q1P s 0≠48) (hx1:-4611686018427387904<=x) (hx2:x<=4611686018427387904) (hst:Std w) :
  qk qd 62 #[fm E F,decV neg s x,.int .u8 (mode:Int)] w (q1B (q0i E F neg neg mode (dvk s s.size*t10 x) (t10 (-x))) w):=by
 have G:=digs_bound hd hsz;have P:=dvk_pos s hd h0 hf;have Q:=vv fun w=>R1.Parse s w hd h0 hsz
 obtain⟨N,hN⟩:=yx (dvk s s.size);rw[<- hN] at Q G P ⊢;have HS:=vv fun(A:Option qp) n c (B':Option qp) m d w' (ha:Rd w' A n c (toL N)) (hb:Rd w' B' m d (toL 1)) (hs:Std w')=>q9U E F neg neg mode A n c B' m d N x w' h1 h2 h3 h4 hm ha hb (by rw[<- ha.words];exact G) (fun h=>absurd h (by omega)) hx1 hx2 hs
 obtain⟨O,hO⟩:=yx (q0i E F neg neg mode (N*t10 x) (t10 (-x)));rw[<- hO] at HS ⊢;have a2:=vv hst;have a3:=q1R h0;obtain⟨g,r⟩:=yx (w.alloc (.cells #[.int .i64 (E:Int),.int .i64 (F:Int)] 23));obtain⟨t,z⟩:=yx (g.alloc (.cells #[.bool neg,.string s,.int .i64 x] 85));have H:qf w.heap.size w g:=by rw[r];exact(qa _ w).alloc lr _
 have I:qf g.heap.size g t:=by rw[z];exact(qa _ g).alloc lr _
 have R:g.heap.size=w.heap.size+1:=by rw[r];simp
 have S:FmAt t w.heap.size E F:=(show FmAt g w.heap.size E F by rw[r];exact FmAt.made w _ _ _).below I;have T:DecBox t (w.heap.size+1) neg s x:=by rw[<- R,z];exact DecBox.made g _ _ _ _
 have hB:qf w.heap.size w t:=H.trans (I.mono H.size);have j:=vv S;have f:=vv T;have k:=vv hB;have a4:qm (t=(w.alloc (.cells #[.int .i64 (E:Int),.int .i64 (F:Int)] 23)).alloc (.cells #[.bool neg,.string s,.int .i64 x] 85)):=vv (by rw[z,r]);have a9:(mode:Int)<=4:=by omega
 clear r z H I R S T hB hO hst h1 h2 h3 h4 hm hd hf hN G P h0 hsz;go_enter func62,ntmps62;go_wp2_with fail;rw[<- a4.o];refine(R1.Of1 _).mono ?_;rintro e b ⟨A,n,c,rfl,U,C⟩;have D:=vv U;have j:=vv (j.o.below C);have f:=vv (f.o.below C);have k:=vn k C;obtain⟨x0,x1,xl⟩:=f.o;clear U C;go_wp2_with fail;have l:=(qa b.heap.size b).alloc (o:=.cells #[.bool neg,.slice qe 0 0,.slice A n c] 151) lr;have K:(b.alloc (.cells #[.bool neg,.slice qe 0 0,.slice A n c] 151)).frozen? ⟨b.heap.size,1,qe⟩=qc:=by simp only[World.frozen?];rw[qh];simp
 have L:=RatioBox.made b neg qe 0 0 A n c 151;obtain⟨w3,V⟩:=yx (b.alloc (.cells #[.bool neg,.slice qe 0 0,.slice A n c] 151));rw[<- V] at l K L ⊢;have M:=vv L;have HZ:=vv K;have J:=vv (D.o.below l rfl);have e2:=f.o.lt;have e1:w.heap.size<b.heap.size:=by omega
 have j:=vv (j.o.below l);have f:=vv (f.o.below l);have k:=vn k l;have W:∀a,A=qj a->a.block≠b.heap.size:=fun a e=>by have h1:words 1=n:=D.o.words;have h2:words 1=1:=rfl;have:=D.o.block_lt (by omega) a e;omega
 clear l K L V D x0 x1 xl a3;refine(Q.o _).mono ?_;rintro e w4 ⟨q,u,v,rfl,X,Y,i⟩;have J:=vv (J.o.below i rfl);have a5:=vv X;have j:=vv (j.o.below i);have f:=vv (f.o.below i);have k:=vn k i;have y:=M.o.below i;have fz:=(i.frozen (p:=⟨b.heap.size,1,qe⟩) M.o.lt).trans HZ.o;have q2:=y.c2;have q1:=y.c1;have ql:=y.lt;have Z:∀a,q=qj a->a.block≠b.heap.size:=fun a e=>by have:=(Y a e).1;have:=M.o.lt;omega
 have y:=y.c0;clear X Y i;obtain⟨f0,f1,fl⟩:=j.o;obtain⟨x0,x1,x2,xl⟩:=f.o;have a0:=vv (k.o.setCell (p:=⟨b.heap.size,1,qe⟩) (by have:=e1;show w.heap.size<=b.heap.size;omega) (.slice q u v));have a6:qm (Rd (w4.setCell ⟨b.heap.size,1,qe⟩ (.slice q u v)) q u v (toL N)):=vv (a5.o.other _ _ _ Z);have a7:qm (Rd (w4.setCell ⟨b.heap.size,1,qe⟩ (.slice q u v)) A n c (toL 1)):=vv (J.o.other _ _ _ W);clear W Z;go_wp2_with fail;refine(HS.o q u v A n c _ a6.o a7.o (a2.o.fs (Fs.of_nil a0.o))).mono ?_;rintro e w5 ⟨rfl,a1⟩;have a8:=vn a0 a1;clear a1;go_wp2;go_ret3;exact⟨rfl,a8.o⟩
end R11
section
open Go Go.RowKit R5
def q2s(E F:Nat)(neg:Bool)(s:ByteArray)(x:Int)(mode:Nat):Nat × Nat:=
 q0i E F neg neg mode (dvk s s.size*t10 x) (t10 (-x))
def q1E(E F:Int)(kind:Nat)(neg dneg:Bool)(s:ByteArray)(x:Int)(hneg:Bool)(n:Nat)(xs:List Nat)(hx:Int)(p mode:Nat):Nat × Nat × Nat:=
 if R3.formOk E F=qc then(0,0,5)
 else if q1C kind neg dneg s x hneg n xs hx p=qc then(0,0,110)
 else if 4<mode then(0,0,7)
 else if kind=1 then((q2s E.toNat F.toNat dneg s x mode).1,(q2s E.toNat F.toNat dneg s x mode).2,0)
 else if kind=2 then((q0i E.toNat F.toNat hneg neg mode (val xs*p2 hx) (p2 (-hx))).1,(q0i E.toNat F.toNat hneg neg mode (val xs*p2 hx) (p2 (-hx))).2,0)
 else if kind=3 then(sgb E.toNat F.toNat neg+(2^E.toNat-1)*2^F.toNat,0,0)
 else if 2^(F.toNat-1)<=p then(0,0,115)
 else(sgb E.toNat F.toNat neg+((2^E.toNat-1)*2^F.toNat+(2^(F.toNat-1)+p)),0,0)
def q2F(o:Nat × Nat × Nat)(w:qg)(e:Ending)(w':qg):Prop:=e=.returned (.tuple #[.int .u64 (o.1:Int),.int .u8 (o.2.1:Int),.int .i64 (o.2.2:Int)])/\qf w.heap.size w w'
theorem q3U(E F:Nat)(below neg:Bool)(mode b:Nat):q0i E F below neg mode 0 b=q0i E F qc neg mode 0 b:=by unfold q0i;rw[if_pos rfl,if_pos rfl]
end
namespace R16
open Go Go.RowKit R5
theorem q2Y(E F:Int)(kind:Nat)(neg dneg:Bool)(s:ByteArray)(x:Int)(hneg:Bool)(A:Option qp)(n c:Nat)(xs:List Nat)(hx:Int)(p mode:Nat)(w:qg)(hform:R3.formOk E F=qc):qk qd 48 #[fm E F,numV kind neg dneg s x hneg A n c hx p,.int .u8 (mode:Int)] w (q2F (0,0,5) w):=by
 have l:=vv fun w=>R3.Check E F w
 rw[R3.chk_no hform] at l;obtain⟨a,b⟩:=yx (w.alloc (.cells #[.int .i64 (E:Int),.int .i64 (F:Int)] 23));obtain⟨f,g⟩:=yx (a.alloc (.cells #[.int .u8 ((kind:Int)),.bool neg,.bool dneg,.string s,.int .i64 x,.bool hneg,.slice A n c,.int .i64 hx,.int .u64 (p:Int)] 92));have i:qf w.heap.size w a:=by rw[b];exact(qa _ w).alloc lr _
 have j:qf a.heap.size a f:=by rw[g];exact(qa _ a).alloc lr _
 have m:a.heap.size=w.heap.size+1:=by rw[b];simp
 have d:FmAt f w.heap.size (E) (F):=(show FmAt a w.heap.size (E) (F) by rw[b];exact FmAt.made w _ _ _).below j;have q:NumBox f (w.heap.size+1) kind neg dneg s x hneg A n c hx p:=by rw[<- m,g];exact NumBox.made a _ _ _ _ _ _ _ _ _ _ _ _
 have r:qf w.heap.size w f:=i.trans (j.mono i.size);have t:=vv d;have u:=vv q;have k:=vv r;have v:qm (f=(w.alloc (.cells #[.int .i64 (E:Int),.int .i64 (F:Int)] 23)).alloc (.cells #[.int .u8 ((kind:Int)),.bool neg,.bool dneg,.string s,.int .i64 x,.bool hneg,.slice A n c,.int .i64 hx,.int .u64 (p:Int)] 92)):=vv (by rw[g,b]);have y:=d.c0;have z:=d.c1;have C:=d.lt;clear b g i j m d q r hform;go_enter func48,ntmps48;go_wp2_with fail;rw[<- v.o];refine(l.o _).mono ?_;rintro e D ⟨rfl,h⟩;have t:=vv (t.o.below h);have u:=vv (u.o.below h);have k:=vn k h;clear h y z C;go_wp2;go_ret3;exact⟨rfl,k.o⟩
theorem numOk_dec(h:q1C 1 neg dneg s x hneg n xs hx p=qi):q0w s x=qi:=by unfold q1C at h;rw[if_pos rfl] at h;simp only[k0C] at h;exact h.1.1.1
theorem numOk_hex(h:q1C 2 neg dneg s x hneg n xs hx p=qi):twoOk hneg n xs hx=qi:=by unfold q1C at h;rw[if_neg (by omega),if_pos rfl] at h;simp only[k0C] at h;exact h.1.1.1
theorem numOk_kind(h:q1C kind neg dneg s x hneg n xs hx p=qi):kind=1\/kind=2\/kind=3\/kind=4:=by
 unfold q1C at h;split at h
 ·omega
 ·split at h
  ·omega
  ·split at h
   ·omega
   ·split at h
    ·omega
    ·cases h
theorem decMay_facts(h:q0w s x=qi):-1073741824<=x/\x<=1073741824/\s.size<=65536/\(s.size=0\/(0<s.size/\q8h s/\q1P s 0≠48)):=by
 unfold q0w at h;simp only[k0C,k0I] at h;obtain⟨⟨⟨a,b⟩,c⟩,d⟩:=h;refine⟨b,a,c,?_⟩;by_cases h0:s.size=0
 ·exact .inl h0
 ·rw[if_neg h0] at d;simp only[k0C,Bool.not_eq_true',k0A] at d;exact .inr ⟨by omega,q2K.1 d.1.1,d.1.2⟩
theorem twoOk_facts(h:twoOk neg n xs x=qi):q1I n xs=qi /\ -1073741824<=x/\x<=1073741824:=by unfold twoOk at h;simp only[k0C,k0I] at h;exact⟨h.1.1.1,h.1.2,h.1.1.2⟩
theorem bytes_none(h:s.size=0):s=⟨#[]⟩:=by have a:s.data.size=0:=h;have b:=k1e a;cases s;simp_all
theorem natOk_facts(h:q1I n xs=qi):n<=16384/\(n=0\/nth xs (n-1)≠0):=by unfold q1I at h;simp only[k0C,k1z,k0I] at h;exact h
theorem q4u(G0 G1 kind:Nat)(neg dneg:Bool)(s:ByteArray)(x:Int)(hneg:Bool)(A:Option qp)(n c:Nat)(xs:List Nat)(hx:Int)(p mode:Nat)(w:qg)(g1:1<=G0)(g2:G0<=10)(g3:G1<=51)(hr:Rd w A n c xs)(hst:Std w):qk qd 48 #[fm ((G0:Int)+1) ((G1:Int)+1),numV kind neg dneg s x hneg A n c hx p,.int .u8 (mode:Int)] w (q2F (q1E ((G0:Int)+1) ((G1:Int)+1) kind neg dneg s x hneg n xs hx p mode) w):=by
 have e0:((G0+1:Nat):Int)=(G0:Int)+1:=by omega
 have e1:((G1+1:Nat):Int)=(G1:Int)+1:=by omega
 have R:R3.formOk ((G0:Int)+1) ((G1:Int)+1)=qi:=by unfold R3.formOk;rw[k03 (p:=(2:Int)<=(G0:Int)+1) (by omega),k03 (p:=(G0:Int)+1<=11) (by omega),k03 (p:=(1:Int)<=(G1:Int)+1) (by omega),k03 (p:=(G1:Int)+1<=52) (by omega)];rfl
 have S:=fun w=>R3.Check ((G0:Int)+1) ((G1:Int)+1) w
 rw[R3.chk_ok R] at S;have a5:=vv S;have E:=vv fun d (h:qf w.heap.size w d)=>R11.Check kind neg dneg s x hneg A n c xs hx p d (hr.below h rfl)
 obtain⟨O,v⟩:=yx (q1E ((G0:Int)+1) ((G1:Int)+1) kind neg dneg s x hneg n xs hx p mode);rw[<- v];unfold q1E at v;rw[R,if_neg (by decide),show((G0:Int)+1).toNat=G0+1 by omega,show((G1:Int)+1).toNat=G1+1 by omega,k1a] at v;obtain⟨b,T⟩:=yx (q1C kind neg dneg s x hneg n xs hx p);rw[<- T] at E v;have g:=vv v;have U:=vv T;have J:=vv hr;have V:=vv hst;obtain⟨t,F⟩:=yx (w.alloc (.cells #[.int .i64 ((G0:Int)+1),.int .i64 ((G1:Int)+1)] 23));obtain⟨Z,K⟩:=yx (t.alloc (.cells #[.int .u8 (kind:Int),.bool neg,.bool dneg,.string s,.int .i64 x,.bool hneg,.slice A n c,.int .i64 hx,.int .u64 (p:Int)] 92));have W:qf w.heap.size w t:=by rw[F];exact(qa _ w).alloc lr _
 have X:qf t.heap.size t Z:=by rw[K];exact(qa _ t).alloc lr _
 have a0:t.heap.size=w.heap.size+1:=by rw[F];simp
 have y:=vv ((show FmAt t w.heap.size ((G0:Int)+1) ((G1:Int)+1) by rw[F];exact FmAt.made w _ _ _).below X);have z:qm (NumBox Z (w.heap.size+1) kind neg dneg s x hneg A n c hx p):=vv (by rw[<- a0,K];exact NumBox.made t _ _ _ _ _ _ _ _ _ _ _ _);have a:=vv (W.trans (X.mono W.size));have a6:qm (Z=(w.alloc (.cells #[.int .i64 ((G0:Int)+1),.int .i64 ((G1:Int)+1)] 23)).alloc (.cells #[.int .u8 (kind:Int),.bool neg,.bool dneg,.string s,.int .i64 x,.bool hneg,.slice A n c,.int .i64 hx,.int .u64 (p:Int)] 92)):=vv (by rw[K,F]);have r:=vv (And.intro g1 (And.intro g2 g3));have q:=vv (And.intro e0 e1);obtain⟨f0,f1,fl⟩:=y.o;clear F K W X a0 R v T hr hst g1 g2 g3 e0 e1 S;go_enter func48,ntmps48;go_wp2_with fail;rw[<- a6.o];refine(a5.o _).mono ?_;rintro e w2 ⟨rfl,L⟩;have y:=vv (y.o.below L);have z:=vv (z.o.below L);have a:=vn a L;clear L f0 f1 fl;obtain⟨c0,c1,c2,c3,c4,c5,c6,c7,c8,cl⟩:=z.o;cases b
 ·have g:qm _:=vv (g.o.trans (if_pos rfl));rw[q3s] at E;go_wp2_with fail;refine(E.o _ a.o).mono ?_;rintro e w3 ⟨rfl,u⟩;have a:=vn a u;clear u c0 c1 c2 c3 c4 c5 c6 c7 c8 cl;go_wp2;go_ret3;rw[g.o];exact⟨rfl,a.o⟩
 rw[q45] at E;have g:qm _:=vv (g.o.trans (if_neg (by decide)));go_wp2_with fail;refine(E.o _ a.o).mono ?_;rintro e w3 ⟨rfl,u⟩;have y:=vv (y.o.below u);have z:=vv (z.o.below u);have a:=vn a u;clear u c0 c1 c2 c3 c4 c5 c6 c7 c8 cl;by_cases hm:4<mode
 ·have dm:qb ((4:Int)<(mode:Int))=qi:=k03 (by omega);have g:qm _:=vv (g.o.trans (if_pos hm));clear hm;go_wp2;go_ret3;rw[g.o];exact⟨rfl,a.o⟩
 have dm:qb ((4:Int)<(mode:Int))=qc:=k00 (by omega);have g:qm _:=vv (g.o.trans (if_neg hm));have HM:=vv (show mode<=4 by omega);clear hm;obtain⟨f0,f1,fl⟩:=y.o;obtain⟨c0,c1,c2,c3,c4,c5,c6,c7,c8,cl⟩:=z.o;rcases R16.numOk_kind U.o.symm with rfl|rfl|rfl|rfl
 ·have f:qm _:=vv (g.o.trans (if_pos rfl));obtain⟨b1,b2,b3,b4⟩:=R16.decMay_facts (R16.numOk_dec U.o.symm);have G:∀d,qf w.heap.size w d->qk qd 62 #[fm ((G0:Int)+1) ((G1:Int)+1),decV dneg s x,.int .u8 (mode:Int)] d (q1B (q2s (G0+1) (G1+1) dneg s x mode) d):=by
   intro d h;obtain⟨g1,g2,g3⟩:=r.o;rcases b4 with N|⟨N,hd,hb⟩
   ·have a7:=R16.bytes_none N;have eq:q2s (G0+1) (G1+1) dneg s x mode=q0i (G0+1) (G1+1) qc dneg mode 0 (t10 (-x)):=by unfold q2s;rw[N,q3J,k1K,q3U]
    have k:=R11.decimal_none (G0+1) (G1+1) dneg mode x d (by omega) (by omega) (by omega) (by omega) HM.o (by omega) (by omega) (V.o.fs (Fs.of_nil h));rw[eq,a7]
    simpa only[q.o.1,q.o.2] using k
   ·have k:=R11.decimal_some (G0+1) (G1+1) dneg mode s x d (by omega) (by omega) (by omega) (by omega) HM.o hd N b3 hb (by omega) (by omega) (V.o.fs (Fs.of_nil h));unfold q2s
    simpa only[q.o.1,q.o.2] using k
  have H:=vv G;obtain⟨D,m⟩:=yx (q2s (G0+1) (G1+1) dneg s x mode);rw[<- m] at H f;clear G m b1 b2 b3 b4;go_wp2_with fail;refine(H.o _ a.o).mono ?_;rintro e w4 ⟨rfl,l⟩;have a:=vn a l;clear l;go_wp2;go_ret3;rw[f.o];exact⟨rfl,a.o⟩
 ·have f:qm _:=vv (g.o.trans ((if_neg (by decide)).trans (if_pos rfl)));have P:=R16.numOk_hex U.o.symm;obtain⟨hk,b1,b2⟩:=R16.twoOk_facts P;obtain⟨a2,a3⟩:=R16.natOk_facts hk;have Y:xs=toL (val xs):=by have h5:=q1m J.o.lim (n:=n) (fun i hi=>by rw[k08,k1h (by rw[J.o.len];exact hi)];rfl) (a3.imp id (fun h=>⟨by rw[J.o.len];exact lr,h⟩));rw[<- h5,<- J.o.len,k1m]
  have G:∀d,qf w.heap.size w d->qk qd 63 #[fm ((G0:Int)+1) ((G1:Int)+1),q5s hneg A n c hx,.bool neg,.int .u8 (mode:Int)] d (q1B (q0i (G0+1) (G1+1) hneg neg mode (val xs*p2 hx) (p2 (-hx))) d):=by
   intro d h;obtain⟨g1,g2,g3⟩:=r.o;have a8:Rd d A n c (toL (val xs)):=by rw[<- Y];exact J.o.below h rfl
   rw[Y] at P;have k:=R5.Dyadic (G0+1) (G1+1) hneg neg mode A n c (val xs) hx d (by omega) (by omega) (by omega) (by omega) HM.o a8 a2 P (by omega) (by omega) (V.o.fs (Fs.of_nil h))
   simpa only[q.o.1,q.o.2] using k
  have H:=vv G;obtain⟨D,m⟩:=yx (q0i (G0+1) (G1+1) hneg neg mode (val xs*p2 hx) (p2 (-hx)));rw[<- m] at H f;clear G m b1 b2 P hk a2 a3 Y;go_wp2_with fail;refine(H.o _ a.o).mono ?_;rintro e w4 ⟨rfl,l⟩;have a:=vn a l;clear l;go_wp2;go_ret3;rw[f.o];exact⟨rfl,a.o⟩
 ·have f:qm _:=vv (g.o.trans ((if_neg (by decide)).trans ((if_neg (by decide)).trans (if_pos rfl))));have M:=fun w=>R3.Infinite (G0+1) (G1+1) neg w (by have:=r.o;omega) (by have:=r.o;omega) (by omega) (by have:=r.o;omega)
  obtain⟨D,m⟩:=yx (sgb (G0+1) (G1+1) neg+(2^(G0+1)-1)*2^(G1+1));rw[<- m] at M f;simp only[q.o.1,q.o.2] at M;have a9:=vv M;clear M m;go_wp2_with fail;refine(a9.o _).mono ?_;rintro e w4 ⟨rfl,l⟩;have a:=vn a l;clear l;go_wp2;go_ret3;rw[f.o];exact⟨rfl,a.o⟩
 ·have f:qm _:=vv (g.o.trans ((if_neg (by decide)).trans ((if_neg (by decide)).trans (if_neg (by decide)))));have hG:(G1:Int)<=51:=by have:=r.o;omega
  obtain⟨Q,C⟩:∃Q:Nat,Q=R3.tw G1:=⟨_,rfl⟩;have a1:Q<=4611686018427387904:=by rw[C];exact k06 (R3.tw_le (j:=G1) (k:=62) (by omega)) (by decide)
  have a4:qm (IntKind.u64.wrap ((2:Int)^G1)=(Q:Int)):=vv (by
   have e:((2:Int)^G1)=(Q:Int):=by rw[C];unfold R3.tw;rw[k0v];rfl
   rw[e,qn];omega)
  by_cases hp:R3.tw G1<=p
  ·have dq:qb (IntKind.u64.wrap ((2:Int)^G1)<=(p:Int))=qi:=k03 (by rw[a4.o];rw[<- C] at hp;omega);have f:qm _:=vv (f.o.trans (if_pos hp));clear C a1 hp;go_wp2;go_ret3;rw[f.o];exact⟨rfl,a.o⟩
  ·have dq:qb (IntKind.u64.wrap ((2:Int)^G1)<=(p:Int))=qc:=k00 (by rw[a4.o];rw[<- C] at hp;omega);have f:qm _:=vv (f.o.trans (if_neg hp));have I:=fun w=>R3.None_ (G0+1) (G1+1) p neg w (by have:=r.o;omega) (by have:=r.o;omega) (by omega) (by have:=r.o;omega) (by rw[k1a];exact k2d hp)
   rw[k1a] at I;obtain⟨D,m⟩:=yx (sgb (G0+1) (G1+1) neg+((2^(G0+1)-1)*2^(G1+1)+(2^G1+p)));rw[<- m] at I f;simp only[q.o.1,q.o.2] at I;have b0:=vv I;clear I m C a1 hp;go_wp2_with fail;refine(b0.o _).mono ?_;rintro e w4 ⟨rfl,l⟩;have a:=vn a l;clear l;go_wp2;go_ret3;rw[f.o];exact⟨rfl,a.o⟩
theorem Number(E F:Int)(kind:Nat)(neg dneg:Bool)(s:ByteArray)(x:Int)(hneg:Bool)(A:Option qp)(n c:Nat)(xs:List Nat)(hx:Int)(p mode:Nat)(w:qg)(hr:Rd w A n c xs)(hst:Std w):qk qd 48 #[fm E F,numV kind neg dneg s x hneg A n c hx p,.int .u8 (mode:Int)] w (q2F (q1E E F kind neg dneg s x hneg n xs hx p mode) w):=by
 rcases(k2I (R3.formOk E F)).symm with a|a
 ·have e:q1E E F kind neg dneg s x hneg n xs hx p mode=(0,0,5):=by unfold q1E;rw[if_pos a]
  rw[e];exact q2Y E F kind neg dneg s x hneg A n c xs hx p mode w a
 obtain⟨e,f,rfl,rfl,h,i,j,l⟩:=R3.formOk_nat a;obtain⟨g,rfl⟩:∃g,e=g+1:=⟨e-1,by omega⟩;obtain⟨k,rfl⟩:∃k,f=k+1:=⟨f-1,by omega⟩;have b:((g+1:Nat):Int)=(g:Int)+1:=by omega
 have d:((k+1:Nat):Int)=(k:Int)+1:=by omega
 rw[b,d];exact q4u g k kind neg dneg s x hneg A n c xs hx p mode w (by omega) (by omega) (by omega) hr hst
end R16
namespace R1
open Go Go.RowKit
end R1
namespace Fms
open Go Go.RowKit R5
theorem qcd:∀n:Fin 64,bits .andNot .u64 18446744073709551615 (IntKind.u64.wrap (18446744073709551615*2^n.val))=((R3.tw n.val-1:Nat):Int):=by decide +kernel
theorem qed(n:Nat)(w:qg)(hn:n<=63):qk qd 81 #[.int .i64 (n:Int)] w fun e w'=>e=.returned (.int .u64 ((R3.tw n-1:Nat):Int))/\w=w':=by have a:=vv (qcd ⟨n,by omega⟩);go_enter func81,ntmps81;go_wp2;go_ret;exact⟨q0o a.o,rfl⟩
theorem qcG{b y:Nat}(hb:b<2^p)(hy:y%2^p=2^p-1):b &&& y=b:=by have d:b &&& y<=b:=Nat.and_le_left;have c:=Nat.and_mod_two_pow (a:=b) (b:=y) (n:=p);rw[k0F (by omega),k0F hb,hy,Nat.and_two_pow_sub_one_eq_mod,k0F hb] at c;exact c
theorem qaQ{m:Nat}(hp:p<=64)(hm:m+1<=2^(64-p)):(18446744073709551615-m*2^p)%2^p=2^p-1:=by
 have e:(18446744073709551616:Nat)=2^(64-p)*2^p:=by rw[<- k0q,show 64-p+p=64 by omega]
 obtain⟨q,a⟩:∃q,2^(64-p)=m+1+q:=⟨2^(64-p)-(m+1),by omega⟩;have d:=k0m p;rw[a] at e;have b:(m+1+q)*2^p=m*2^p+(q*2^p+2^p):=by rw[k0U,k0U,k0N];omega
 rw[b] at e;have c:18446744073709551615-m*2^p=2^p-1+q*2^p:=by omega
 rw[c,Nat.add_mul_mod_self_right,k0F (by omega)]
theorem put(p sz b v:Nat)(w:qg)(hs:sz<=63)(hp:p+sz<=64)(h1:1<=sz)(hb:b<2^p)(hv:v<2^sz):qk qd 133 #[.agg #[.int .i64 (p:Int),.int .i64 (sz:Int)],.int .u64 (b:Int),.int .u64 (v:Int)] w fun e w'=>e=.returned (.int .u64 ((b+v*2^p:Nat):Int))/\qf w.heap.size w w':=by
 have r:=vv fun w=>qed sz w hs
 obtain⟨M,s⟩:=yx (R3.tw sz-1);rw[<- s] at r;have t:M+1=2^sz:=by have:=R3.tw_pos sz;unfold R3.tw at *;omega
 have u:2^sz<=2^(64-p):=k05 (by omega) (by omega);have c:(18446744073709551616:Nat)=2^(64-p)*2^p:=by rw[<- k0q,show 64-p+p=64 by omega]
 have m:(M+1)*2^p<=18446744073709551616:=by rw[c];exact k0r _ (by omega)
 have n:(v+1)*2^p<=18446744073709551616:=by rw[c];exact k0r _ (by omega)
 rw[k0U,k0N] at m n;have x:=k0m p;have y:=vv (q30 M p (by omega));have z:=vv (q30 v p (by omega));have C:qm (bits .andNot .u64 (b:Int) ((M:Int)*2^p)=(b:Int)):=vv (by
  have e:(M:Int)*2^p=((M*2^p:Nat):Int):=by rw[k0a,k0v];rfl
  rw[e,u64_andNot_nat _ _ (by omega) (by omega),qcG hb (qaQ (by omega) (by omega))])
 have D:qm (bits .or .u64 (b:Int) ((v*2^p:Nat):Int)=((b+v*2^p:Nat):Int)):=vv (by rw[u64_or_nat _ _ (by omega) (by omega),Nat.or_comm,k0h v,<- k17 hb,k1v]);have G:(p:Int)<=63:=by omega
 have f:=(qa w.heap.size w).alloc (o:=.cells #[.int .i64 (p:Int),.int .i64 (sz:Int)] 208) lr;obtain⟨j,a⟩:=yx (w.alloc (.cells #[.int .i64 (p:Int),.int .i64 (sz:Int)] 208));have k:j.cell? ⟨w.heap.size,0,qe⟩=qj (.int .i64 (p:Int)):=by rw[a];simp only[World.cell?];rw[qh];rfl
 have l:j.cell? ⟨w.heap.size,1,qe⟩=qj (.int .i64 (sz:Int)):=by rw[a];simp only[World.cell?];rw[qh];rfl
 have I:w.heap.size<j.heap.size:=by rw[a];simp
 have g:=vv k;have i:=vv l;rw[<- a] at f;have E:=vv f;have F:=vv a;clear hs hp h1 hb hv s t u c m n x f a k l;go_enter func133,ntmps133;go_wp2_with fail;rw[<- F.o];refine q02 (fun w'=>w'.cell? ⟨w.heap.size,0,qe⟩=qj (.int .i64 (p:Int))/\w'.cell? ⟨w.heap.size,1,qe⟩=qj (.int .i64 (sz:Int))) 8
  (.still 0 (.still 1 (.still 2 (.still 4 (.still 5 (.one 3 (.still 6 (.still 7 .done)))))))) (by kernel_rfl) (by kernel_rfl) (fun _ _ d _ _ h=>by cases d<;>exact h) ⟨g.o,i.o⟩ (fun hS0=>?_)
 iterate 5
  refine q01 (v:=?_) rfl (by rfl) ?_ ?_;rotate_left
  ·intro w q;go_simp;with_reducible rfl
  simp only[Act.put,sa,sb,sc]
 refine q04 rfl (by rfl) (fun K hK=>?_);go_simp;refine(r.o _).mono ?_;rintro e w' ⟨rfl,rfl⟩;go_wp2_with fail;refine hK.out _ _ ⟨g.o,i.o⟩ (fun H=>?_);clear hK
 iterate 1
  refine q01 (v:=?_) rfl (by rfl) ?_ ?_;rotate_left
  ·intro w q;go_simp;with_reducible rfl
  simp only[Act.put,sa,sb,sc]
 rw[y.o]
 iterate 1
  refine q01 (v:=?_) rfl (by rfl) ?_ ?_;rotate_left
  ·intro w q;go_simp;with_reducible rfl
  simp only[Act.put,sa,sb,sc]
 rw[C.o];refine q0a ?_;have k:=g.o;have l:=i.o;go_wp2;go_ret;exact⟨q0o (by rw[z.o,D.o]),q07 E.o⟩
abbrev qeD(E F:Int):qs:=.agg #[.int .i64 0,.int .i64 F,.int .i64 F,.int .i64 E,.int .i64 (F+E),.int .i64 1]
structure LayBox(w:qg)(g:Nat)(E F:Int):Prop where
 c0:w.cell? ⟨g,0,qe⟩=qj (.int .i64 0)
 c1:w.cell? ⟨g,1,qe⟩=qj (.int .i64 F)
 c2:w.cell? ⟨g,2,qe⟩=qj (.int .i64 F)
 c3:w.cell? ⟨g,3,qe⟩=qj (.int .i64 E)
 c4:w.cell? ⟨g,4,qe⟩=qj (.int .i64 (F+E))
 c5:w.cell? ⟨g,5,qe⟩=qj (.int .i64 1)
 lt:g<w.heap.size
theorem LayBox.made(w:qg)(E F:Int)(t:TypeId):LayBox (w.alloc (.cells #[.int .i64 0,.int .i64 F,.int .i64 F,.int .i64 E,.int .i64 (F+E),.int .i64 1] t)) w.heap.size E F:=by constructor<;>first|(simp only[World.cell?];rw[qh];rfl)|simp
theorem LayBox.below(h:LayBox w g E F)(hb:qf w.heap.size w w'):LayBox w' g E F:=⟨(hb.cell (p:=⟨g,0,qe⟩) h.lt).trans h.c0,(hb.cell (p:=⟨g,1,qe⟩) h.lt).trans h.c1,(hb.cell (p:=⟨g,2,qe⟩) h.lt).trans h.c2,(hb.cell (p:=⟨g,3,qe⟩) h.lt).trans h.c3,(hb.cell (p:=⟨g,4,qe⟩) h.lt).trans h.c4,(hb.cell (p:=⟨g,5,qe⟩) h.lt).trans h.c5,k01 h.lt hb.size⟩
theorem qdG(E F:Nat)(w:qg)(h2:E<=11)(h4:F<=52):qk qd 132 #[fm E F] w fun e w'=>e=.returned (qeD E F)/\qf w.heap.size w w':=by
 have a:(E:Int)<=11:=by omega
 have b:(F:Int)<=52:=by omega
 clear h2 h4;go_enter func132,ntmps132;go_wp2;exact qq (v:=qeD E F) (by simp [results,results132,go_sem]) rfl ⟨rfl,((qa _ _).alloc lr _).alloc (by simp) _⟩
theorem qeF(E F x f:Nat)(neg:Bool)(w:qg)(h1:2<=E)(h2:E<=11)(h3:1<=F)(h4:F<=52)(hx:x<2^E)(hf:f<2^F):qk qd 82 #[fm E F,.bool neg,.int .u64 (x:Int),.int .u64 (f:Int)] w fun e w'=>e=.returned (.int .u64 ((sgb E F neg+(x*2^F+f):Nat):Int))/\qf w.heap.size w w':=by
 have M:=vv fun w=>qdG E F w h2 h4
 have q:=vv fun w=>put 0 F 0 f w (by omega) (by omega) (by omega) (k0m 0) hf
 have r:=vv fun w=>put F E f x w (by omega) (by omega) (by omega) hf hx
 have D:x*2^F+f<2^(F+E):=by have:(x+1)*2^F<=2^E*2^F:=k0r _ hx;rw[k0q,k0h (2^F)];rw[k0U,k0N] at this;omega
 have i:=fun w=>put (F+E) 1 (x*2^F+f) 1 w (by omega) (by omega) (by omega) D (by omega)
 obtain⟨V,j⟩:=yx (x*2^F+f);have G:f+x*2^F=V:=by rw[j,k1v]
 have H:0+f*2^0=f:=by omega
 have I:((F+E:Nat):Int)=(F:Int)+(E:Int):=by omega
 obtain⟨W,m⟩:=yx (V+1*2^(F+E));simp only[H] at q;simp only[G] at r;simp only[<- j,<- m,I] at i;have i:=vv i;rw[<- j];have s:qm (sgb E F neg+V=if neg then W else V):=vv (by unfold sgb;cases neg<;>simp [m];rw[k1v E F,k1v]);obtain⟨N,k⟩:=yx (w.alloc (.cells #[.int .i64 (E:Int),.int .i64 (F:Int)] 23));have t:qf w.heap.size w N:=by rw[k];exact(qa _ w).alloc lr _
 have b:=vv t;have L:=vv k;clear h1 h2 h3 h4 hx hf D j G H I m k t;go_enter func82,ntmps82;go_wp2_with fail;rw[<- L.o];refine(M.o _).mono ?_;rintro e g ⟨rfl,u⟩;have b:=vn b u;clear u;go_wp2_with fail;have n:=(qa g.heap.size g).alloc (o:=.cells #[.int .i64 0,.int .i64 (F:Int),.int .i64 (F:Int),.int .i64 (E:Int),.int .i64 ((F:Int)+(E:Int)),.int .i64 1] 209) lr;have p:=LayBox.made g (E:Int) (F:Int) 209;obtain⟨J,y⟩:=yx (g.alloc (.cells #[.int .i64 0,.int .i64 (F:Int),.int .i64 (F:Int),.int .i64 (E:Int),.int .i64 ((F:Int)+(E:Int)),.int .i64 1] 209));rw[<- y] at n p ⊢;have a:=vv p;have b:=vn b n;clear n p y;refine q02 (fun w'=>w'.cell? ⟨g.heap.size,0,qe⟩=qj (.int .i64 0)/\w'.cell? ⟨g.heap.size,1,qe⟩=qj (.int .i64 (F:Int))/\w'.cell? ⟨g.heap.size,2,qe⟩=qj (.int .i64 (F:Int))/\w'.cell? ⟨g.heap.size,3,qe⟩=qj (.int .i64 (E:Int))) 8
  (.still 0 (.still 1 (.still 2 (.still 3 (.still 4 (.still 6 (.one 5 (.one 7 .done)))))))) (by kernel_rfl) (by kernel_rfl) (fun _ _ d _ _ h=>by cases d<;>exact h) ⟨a.o.c0,a.o.c1,a.o.c2,a.o.c3⟩ (fun hS0=>?_)
 iterate 6
  refine q01 (v:=?_) rfl (by rfl) ?_ ?_;rotate_left
  ·intro w P;go_simp;with_reducible rfl
  simp only[Act.put,sa,sb,sc]
 refine q04 rfl (by rfl) (fun K hK=>?_);go_simp;refine(q.o _).mono ?_;rintro e O ⟨rfl,c⟩;have c:qf J.heap.size J O:=⟨c.os,c.tape,c.output,c.size,c.block⟩;have a:=vv (a.o.below c);have b:=vn b c;clear c;go_wp2_with fail;refine hK.out _ _ ⟨a.o.c0,a.o.c1,a.o.c2,a.o.c3⟩ (fun z=>?_);clear hK;refine q04 rfl (by rfl) (fun K hK=>?_);go_simp;refine(r.o _).mono ?_;rintro e Q ⟨rfl,l⟩;have a:=vv (a.o.below l);have b:=vn b l;clear l;go_wp2_with fail;refine hK.out _ _ ⟨a.o.c0,a.o.c1,a.o.c2,a.o.c3⟩ (fun z=>?_);clear hK;refine q0a ?_;clear z hS0;have R:=a.o.c4;have S:=a.o.c5;have T:=a.o.lt;cases neg
 ·go_wp2;go_ret;exact⟨q0o (by rw[s.o];rfl),b.o⟩
 ·go_wp2_with fail;refine(i.o _).mono ?_;rintro e U ⟨rfl,C⟩;have b:=vn b C;clear C;go_wp2;go_ret;exact⟨q0o (by rw[s.o];rfl),b.o⟩
theorem Check(E F:Int)(w:qg):qk qd 15 #[fm E F] w fun e w'=>e=.returned (.int .i64 (R3.chk E F))/\qf w.heap.size w w':=by
 by_cases h1:E<2
 ·have a:qm (R3.formOk E F=qc):=vv (by unfold R3.formOk;rw[k00 (p:=2<=E) (by omega)];rfl);have b:qb (E<2)=qi:=k03 h1;clear h1;go_enter func15,ntmps15;go_wp2;go_ret;exact⟨q0o (R3.chk_no a.o).symm,(qa _ _).alloc lr _⟩
 have b:qb (E<2)=qc:=k00 h1;by_cases h2:11<E
 ·have a:qm (R3.formOk E F=qc):=vv (by unfold R3.formOk;rw[k00 (p:=E<=11) (by omega)];simp);have c:qb (11<E)=qi:=k03 h2;clear h1 h2;go_enter func15,ntmps15;go_wp2;go_ret;exact⟨q0o (R3.chk_no a.o).symm,(qa _ _).alloc lr _⟩
 have c:qb (11<E)=qc:=k00 h2;by_cases h3:F<1
 ·have a:qm (R3.formOk E F=qc):=vv (by unfold R3.formOk;rw[k00 (p:=1<=F) (by omega)];simp);have d:qb (F<1)=qi:=k03 h3;clear h1 h2 h3;go_enter func15,ntmps15;go_wp2;go_ret;exact⟨q0o (R3.chk_no a.o).symm,(qa _ _).alloc lr _⟩
 have d:qb (F<1)=qc:=k00 h3;by_cases h4:52<F
 ·have a:qm (R3.formOk E F=qc):=vv (by unfold R3.formOk;rw[k00 (p:=F<=52) (by omega)];simp);have f:qb (52<F)=qi:=k03 h4;clear h1 h2 h3 h4;go_enter func15,ntmps15;go_wp2;go_ret;exact⟨q0o (R3.chk_no a.o).symm,(qa _ _).alloc lr _⟩
 have f:qb (52<F)=qc:=k00 h4;have a:qm (R3.formOk E F=qi):=vv (by unfold R3.formOk;rw[k03 (p:=2<=E) (by omega),k03 (p:=E<=11) (by omega),k03 (p:=1<=F) (by omega),k03 (p:=F<=52) (by omega)];rfl);clear h1 h2 h3 h4;go_enter func15,ntmps15;go_wp2;go_ret;exact⟨q0o (R3.chk_ok a.o).symm,(qa _ _).alloc lr _⟩
theorem formOk_in{E F:Nat}(h1:2<=E)(h2:E<=11)(h3:1<=F)(h4:F<=52):R3.formOk (E:Int) (F:Int)=qi:=by unfold R3.formOk;rw[k03 (p:=(2:Int)<=E) (by omega),k03 (p:=(E:Int)<=11) (by omega),k03 (p:=(1:Int)<=F) (by omega),k03 (p:=(F:Int)<=52) (by omega)];rfl
theorem qf9(g E F:Nat)(w:qg)(h2:E<=11)(hf:FmAt w g E F):qk qd 80 #[.pointer (qj ⟨g,0,qe⟩)] w fun e w'=>e=.returned (.tuple #[.int .u64 ((R3.tw E-1:Nat):Int),.int .u64 0])/\w=w':=by
 have a:=vv fun w=>qed E w (by omega)
 obtain⟨M,b⟩:=yx (R3.tw E-1);rw[<- b] at a ⊢;have c:=hf.c0;have d:=hf.lt;clear b h2 hf;go_enter func80,ntmps80;go_wp2_with fail;refine(a.o _).mono ?_;rintro e w' ⟨rfl,rfl⟩;go_wp2;go_ret2;exact⟨rfl,rfl⟩
theorem qaL(g E F:Nat)(neg:Bool)(w:qg)(h1:2<=E)(h2:E<=11)(h3:1<=F)(h4:F<=52)(hf:FmAt w g E F):qk qd 79 #[fm E F,.bool neg,.func (.func 80) #[] #[.pointer (qj ⟨g,0,qe⟩)]] w fun e w'=>e=.returned (.tuple #[.int .u64 ((sgb E F neg+((2^E-1)*2^F):Nat):Int),.int .i64 0])/\qf w.heap.size w w':=by
 have l:=vv fun w=>Check (E:Int) (F:Int) w
 rw[R3.chk_ok (formOk_in h1 h2 h3 h4)] at l;have n:=vv fun w (hf:FmAt w g E F)=>qf9 g E F w h2 hf
 obtain⟨M,i⟩:=yx (R3.tw E-1);have j:=vv fun w=>qeF E F M 0 neg w h1 h2 h3 h4 (by have:=R3.tw_pos E;unfold R3.tw at *;omega) (k0m _)
 have e:M*2^F+0=(2^E-1)*2^F:=by rw[i];rfl
 rw[e] at j;rw[<- i] at n;obtain⟨O,p⟩:=yx (sgb E F neg+(2^E-1)*2^F);rw[<- p] at j ⊢;have c:=(qa w.heap.size w).alloc (o:=.cells #[.int .i64 (E:Int),.int .i64 (F:Int)] 23) lr;have a:=FmAt.made w (E:Int) (F:Int) 23;obtain⟨u,f⟩:=yx (w.alloc (.cells #[.int .i64 (E:Int),.int .i64 (F:Int)] 23));rw[<- f] at c a;have h:=vv (hf.below c);have k:=vv a;have b:=vv c;have q:=vv f;have r:=a.c0;have s:=a.c1;have t:=a.lt;clear i p hf f c a e h1 h2 h3 h4;go_enter func79,ntmps79;go_wp2_with fail;rw[<- q.o];refine(l.o _).mono ?_;rintro e v ⟨rfl,d⟩;have h:=vv (h.o.below d);have k:=vv (k.o.below d);have b:=vn b d;obtain⟨r,s,t⟩:=k.o;clear d;go_wp2_with fail;refine(n.o _ h.o).mono ?_;rintro e w' ⟨rfl,rfl⟩;go_wp2_with fail;refine(j.o _).mono ?_;rintro e x ⟨rfl,m⟩;have b:=vn b m;clear m;go_wp2;go_ret2;exact⟨rfl,b.o⟩
theorem Inf(E F:Nat)(neg:Bool)(w:qg)(h1:2<=E)(h2:E<=11)(h3:1<=F)(h4:F<=52):qk qd 54 #[fm E F,.bool neg] w fun e w'=>e=.returned (.tuple #[.int .u64 ((sgb E F neg+((2^E-1)*2^F):Nat):Int),.int .i64 0])/\qf w.heap.size w w':=by
 have b:=vv fun w' (hf:FmAt w' w.heap.size E F)=>qaL w.heap.size E F neg w' h1 h2 h3 h4 hf
 obtain⟨O,c⟩:=yx (sgb E F neg+(2^E-1)*2^F);rw[<- c] at b ⊢;clear c h1 h2 h3 h4;go_enter func54,ntmps54;go_wp2_with fail;refine(b.o _ (FmAt.made w _ _ _)).mono ?_;rintro e d ⟨rfl,a⟩;have f:qm (qf w.heap.size w d):=vv (((qa _ w).alloc lr _).trans (a.mono (by simp)));clear a;go_wp2;go_ret2;exact⟨rfl,f.o⟩
theorem NaN(E G p:Nat)(neg:Bool)(w:qg)(h1:2<=E)(h2:E<=11)(h4:G<=51)(hp:p<R3.tw G):qk qd 55 #[fm E ((G:Int)+1),.bool neg,.int .u64 (p:Int)] w fun e w'=>e=.returned (.tuple #[.int .u64 ((sgb E (G+1) neg+((2^E-1)*2^(G+1)+(2^G+p)):Nat):Int),.int .i64 0])/\qf w.heap.size w w':=by
 have n:((G+1:Nat):Int)=(G:Int)+1:=by omega
 have q:=formOk_in (F:=G+1) h1 h2 (by omega) (by omega);rw[n] at q;have y:=vv fun w=>Check (E:Int) ((G:Int)+1) w
 rw[R3.chk_ok q] at y;have C:=vv fun w=>qed E w (by omega)
 obtain⟨M,u⟩:=yx (R3.tw E-1);rw[<- u] at C;obtain⟨Q,f⟩:∃Q:Nat,Q=R3.tw G:=⟨_,rfl⟩;have L:Q<=4611686018427387904:=by rw[f];exact k06 (R3.tw_le (j:=G) (k:=62) (by omega)) (by decide)
 have N:Q*2=2^(G+1):=by rw[f,k0f];rfl
 rw[<- f] at hp;have l:=fun w=>qeF E (G+1) M (Q+p) neg w h1 h2 (by omega) (by omega) (by have:=R3.tw_pos E;unfold R3.tw at *;omega) (by omega)
 have e:M*2^(G+1)+(Q+p)=(2^E-1)*2^(G+1)+(2^G+p):=by rw[u,f];rfl
 simp only[e,n] at l;obtain⟨O,x⟩:=yx (sgb E (G+1) neg+((2^E-1)*2^(G+1)+(2^G+p)));simp only[<- x] at l;have l:=vv l;rw[<- x];have z:qm (IntKind.u64.wrap ((2:Int)^G)=(Q:Int)):=vv (by
  have e:((2:Int)^G)=(Q:Int):=by rw[f];unfold R3.tw;rw[k0v];rfl
  rw[e,qn];omega)
 have X:qb (IntKind.u64.wrap ((2:Int)^G)<=(p:Int))=qc:=k00 (by rw[z.o];omega);have P:qm (bits .or .u64 (Q:Int) (p:Int)=((Q+p:Nat):Int)):=vv (by rw[u64_or_nat _ _ (by omega) (by omega)];have h:=k17 (i:=G) (b:=p) (by rw[f] at hp;exact hp) 1;rw[k0H] at h;have U:2^G=Q:=f.symm;rw[U] at h;rw[<- h]);have W:(G:Int)<=51:=by omega
 have r:=(qa w.heap.size w).alloc (o:=.cells #[.int .i64 (E:Int),.int .i64 ((G:Int)+1)] 23) lr;have g:=FmAt.made w (E:Int) ((G:Int)+1) 23;obtain⟨Y,s⟩:=yx (w.alloc (.cells #[.int .i64 (E:Int),.int .i64 ((G:Int)+1)] 23));rw[<- s] at r g;have a:=vv g;have m:=vv r;have R:=vv s;have D:=g.c0;have H:=g.c1;have I:=g.lt;clear u x s r g e h1 h2 h4 f L N hp n q;go_enter func55,ntmps55;go_wp2_with fail;rw[<- R.o];refine(y.o _).mono ?_;rintro e J ⟨rfl,t⟩;have a:=vv (a.o.below t);have m:=vn m t;obtain⟨D,H,I⟩:=a.o;clear t;go_wp2_with fail;rw[z.o];clear D H I;refine q02 (fun w'=>w'.cell? ⟨w.heap.size,0,qe⟩=qj (.int .i64 (E:Int))/\w'.cell? ⟨w.heap.size,1,qe⟩=qj (.int .i64 ((G:Int)+1))) 9
  (.still 0 (.still 1 (.still 2 (.still 3 (.still 5 (.still 6 (.still 7 (.one 4 (.one 8 .done))))))))) (by kernel_rfl) (by kernel_rfl) (fun _ _ d _ _ h=>by cases d<;>exact h) ⟨a.o.c0,a.o.c1⟩ (fun hS0=>?_)
 iterate 6
  refine q01 (v:=?_) rfl (by rfl) ?_ ?_;rotate_left
  ·intro w S;go_simp;with_reducible rfl
  simp only[Act.put,sa,sb,sc]
 iterate 1
  refine q01 (v:=?_) rfl (by rfl) ?_ ?_;rotate_left
  ·intro w S;go_simp;with_reducible rfl
  simp only[Act.put,sa,sb,sc]
 rw[P.o];refine q04 rfl (by rfl) (fun K hK=>?_);go_simp;refine(C.o _).mono ?_;rintro e w' ⟨rfl,rfl⟩;go_wp2_with fail;refine hK.out _ _ ⟨a.o.c0,a.o.c1⟩ (fun T=>?_);clear hK;refine q04 rfl (by rfl) (fun K hK=>?_);go_simp;refine(l.o _).mono ?_;rintro e V ⟨rfl,c⟩;have c:qf J.heap.size J V:=⟨c.os,c.tape,c.output,c.size,c.block⟩;have a:=vv (a.o.below c);have m:=vn m c;clear c;go_wp2_with fail;refine hK.out _ _ ⟨a.o.c0,a.o.c1⟩ (fun T=>?_);clear hK;refine q0a ?_;go_wp2;go_ret2;exact⟨rfl,m.o⟩
end Fms
namespace Dec
open Go Go.RowKit R5
theorem qaa(h1:48<=c)(h2:c<=57):qb (9<((c:Int)-48)%256)=qc:=k00 (by omega)
theorem qa9(h:c<256)(h1:¬(48<=c/\c<=57)):qb (9<((c:Int)-48)%256)=qi:=k03 (by omega)
theorem digits(s:ByteArray)(w:qg)(hsz:s.size<=65536):qk qd 117 #[.string s] w fun e w'=>e=.returned (.bool (q4k s))/\w=w':=by
 have m:(s.size:Int)<=65536:=by omega
 clear hsz;go_enter func117,ntmps117;go_wp2;go_loop [6] (fun t=>∃k:Nat,k<=s.size/\t=.int .i64 k/\(∀j (h:j<s.size),j<k->48<=s[j].toNat/\s[j].toNat<=57)) (fun t=>s.size-(intOf t).toNat)
 case atStart=>exact⟨0,k0d _,rfl,fun j _ h=>absurd h (by omega)⟩
 case round =>
  obtain⟨k,f,rfl,a⟩:=hrel;have b:=vv a;clear a;by_cases hks:k<s.size
  ·by_cases hd:48<=s[k].toNat/\s[k].toNat<=57
   ·have g:=vv hd;have d:=qaa hd.1 hd.2;clear hd;go_wp2;go_round
    case rel =>
     refine⟨k+1,by omega,by go_num,fun j h hj=>?_⟩;rcases(by omega:j<k\/j=k) with h|rfl
     ·exact b.o j _ h
     ·exact g.o
    case measure=>simp [intOf];omega
   ·have i:=vv (q4j hks hd);have d:=qa9 (k1q _) hd;clear hd;go_wp2;go_ret;exact⟨q1L i.o.symm,rfl⟩
  ·have c:k=s.size:=by omega
   subst c;have l:qm (q4k s=qi):=vv (q2K.2 (fun j h=>b.o j h h));clear f hks;go_wp2;go_ret;exact⟨q1L l.o.symm,rfl⟩
def farB(x:Int):Bool:=qb (x < -1073741824) || decide (1073741824<x)
theorem far(x:Int)(w:qg):qk qd 118 #[.int .i64 x] w fun e w'=>e=.returned (.bool (farB x))/\w=w':=by
 by_cases h1:x < -1073741824
 ·have a:qm (farB x=qi):=vv (by unfold farB;rw[k03 h1];rfl);have b:qb (x < -1073741824)=qi:=k03 h1;clear h1;go_enter func118,ntmps118;go_wp2;go_ret;exact⟨q1L a.o.symm,rfl⟩
 ·have a:qm (farB x=qb (1073741824<x)):=vv (by unfold farB;rw[k00 h1];rfl);have b:qb (x < -1073741824)=qc:=k00 h1;clear h1;go_enter func118,ntmps118;go_wp2;go_ret;exact⟨q1L a.o.symm,rfl⟩
def decErr(s:ByteArray)(x:Int):Int:=if 65536<s.size then 4 else if q0w s x then 0 else 100
theorem decErr_zero(s:ByteArray)(x:Int):(decErr s x==0)=q0w s x:=by
 unfold decErr;by_cases h:65536<s.size
 ·rw[if_pos h];unfold q0w;rw[k00 (p:=s.size<=65536) (by omega)];simp
 ·rw[if_neg h];cases q0w s x<;>rfl
theorem q69(h:s.size<=65536)(hd:q0w s x=qc):decErr s x=100:=by unfold decErr;rw[if_neg (by omega),hd];rfl
theorem q4Z(h:s.size<=65536)(hd:q0w s x=qi):decErr s x=0:=by unfold decErr;rw[if_neg (by omega),hd];rfl
theorem q86(h:s.size<=65536)(h0:0<s.size):q0w s x=(q4k s && !qb (q1P s 0=48) && !qb (q1P s (s.size-1)=48) && !farB x):=by
 unfold q0w farB;rw[k03 h,if_neg (by omega)];by_cases h1:x < -1073741824
 ·rw[k03 h1,k00 (p:=-1073741824<=x) (by omega)];simp
 ·rw[k00 h1,k03 (p:=-1073741824<=x) (by omega)];by_cases h2:1073741824<x
  ·rw[k03 h2,k00 (p:=x<=1073741824) (by omega)];simp
  ·rw[k00 h2,k03 (p:=x<=1073741824) (by omega)];simp
theorem q8k(neg:Bool)(s:ByteArray)(x:Int)(w:qg)(h:65536<s.size)(hmax:(s.size:Int)<=4611686018427387904):qk qd 68 #[decV neg s x] w fun e w'=>e=.returned (.int .i64 (decErr s x))/\qf w.heap.size w w':=by have a:qm (decErr s x=4):=vv (by unfold decErr;rw[if_pos h]);have b:qb ((65536:Int)<(s.size:Int))=qi:=k03 (by omega);clear h;go_enter func68,ntmps68;go_wp2;go_ret;exact⟨q0o a.o.symm,(qa _ _).alloc lr _⟩
theorem q8j(neg:Bool)(x:Int)(w:qg):qk qd 68 #[decV neg ⟨#[]⟩ x] w fun e w'=>e=.returned (.int .i64 (decErr ⟨#[]⟩ x))/\qf w.heap.size w w':=by
 have a:q0w ⟨#[]⟩ x=(x==0):=by
  unfold q0w;by_cases h:x=0
  ·subst h;rfl
  ·have e:(x==0)=qc:=by rw[k02];exact h
   rw[e,if_pos (by rfl),k00 h];simp
 cases t:(x==0)
 ·rw[t] at a;have b:=vv (q69 (s:=⟨#[]⟩) (x:=x) (by decide) a);clear a;go_enter func68,ntmps68;go_wp2;go_ret;exact⟨q0o b.o.symm,(qa _ _).alloc lr _⟩
 ·rw[t] at a;have b:=vv (q4Z (s:=⟨#[]⟩) (x:=x) (by decide) a);clear a;go_enter func68,ntmps68;go_wp2;go_ret;exact⟨q0o b.o.symm,(qa _ _).alloc lr _⟩
theorem q8i(neg:Bool)(s:ByteArray)(x:Int)(w:qg)(h:s.size<=65536)(h0:0<s.size):qk qd 68 #[decV neg s x] w fun e w'=>e=.returned (.int .i64 (decErr s x))/\qf w.heap.size w w':=by
 have m:=q86 (x:=x) h h0;have t:qb ((65536:Int)<(s.size:Int))=qc:=k00 (by omega);have u:((s.size:Int)==0)=qc:=by rw[k02];omega
 have r:(s.size:Int)<=65536:=by omega
 have b:=vv fun w=>digits s w h
 have i:=vv fun(hd:q0w s x=qc)=>q69 h hd
 have n:=vv fun(hd:q0w s x=qi)=>q4Z h hd
 have k:=(qa w.heap.size w).alloc (o:=.cells #[.bool neg,.string s,.int .i64 x] 85) lr;have c:=DecBox.made w neg s x 85;obtain⟨v,l⟩:=yx (w.alloc (.cells #[.bool neg,.string s,.int .i64 x] 85));rw[<- l] at k c;have f:=vv k;have d:=vv l;have y:=c.c1;have z:=c.c2;have C:=c.lt;have p:s.size-1<s.size:=by omega
 rw[q2E h0,q2E p] at m;have g:=vv m;clear l k c h m;cases hdg:q4k s
 ·rw[hdg] at b;have a:=vv (i.o (by rw[g.o,hdg];rfl));clear hdg;go_enter func68,ntmps68;go_wp2_with fail;rw[<- d.o];go_wp2_with fail;refine(b.o _).mono ?_;rintro e w' ⟨rfl,rfl⟩;go_wp2;go_ret;exact⟨q0o a.o.symm,f.o⟩
 rw[hdg] at b;by_cases e0:s[0].toNat=48
 ·have a:=vv (i.o (by rw[g.o,k03 e0];simp));clear hdg;go_enter func68,ntmps68;go_wp2_with fail;rw[<- d.o];go_wp2_with fail;refine(b.o _).mono ?_;rintro e w' ⟨rfl,rfl⟩;go_wp2;go_ret;exact⟨q0o a.o.symm,f.o⟩
 have D:((s[0].toNat:Int)==48)=qc:=by rw[k02];omega
 by_cases e1:s[s.size-1].toNat=48
 ·have a:=vv (i.o (by rw[g.o,k03 e1];simp));have q:((s[s.size-1].toNat:Int)==48)=qi:=by rw[e1];rfl
  clear hdg e0 e1;go_enter func68,ntmps68;go_wp2_with fail;rw[<- d.o];go_wp2_with fail;refine(b.o _).mono ?_;rintro e w' ⟨rfl,rfl⟩;go_wp2;go_ret;exact⟨q0o a.o.symm,f.o⟩
 have q:((s[s.size-1].toNat:Int)==48)=qc:=by rw[k02];omega
 have j:=vv fun w=>far x w
 cases hf:farB x
 ·rw[hf] at j;have a:=vv (n.o (by rw[g.o,hdg,hf,k00 e0,k00 e1];rfl));clear hdg hf e0 e1;go_enter func68,ntmps68;go_wp2_with fail;rw[<- d.o];go_wp2_with fail;refine(b.o _).mono ?_;rintro e w' ⟨rfl,rfl⟩;go_wp2_with fail;refine(j.o _).mono ?_;rintro e w' ⟨rfl,rfl⟩;go_wp2;go_ret;exact⟨q0o a.o.symm,f.o⟩
 ·rw[hf] at j;have a:=vv (i.o (by rw[g.o,hf];simp));clear hdg hf e0 e1;go_enter func68,ntmps68;go_wp2_with fail;rw[<- d.o];go_wp2_with fail;refine(b.o _).mono ?_;rintro e w' ⟨rfl,rfl⟩;go_wp2_with fail;refine(j.o _).mono ?_;rintro e w' ⟨rfl,rfl⟩;go_wp2;go_ret;exact⟨q0o a.o.symm,f.o⟩
theorem Check(neg:Bool)(s:ByteArray)(x:Int)(w:qg)(hmax:(s.size:Int)<=4611686018427387904):qk qd 68 #[decV neg s x] w fun e w'=>e=.returned (.int .i64 (decErr s x))/\qf w.heap.size w w':=by
 by_cases h:s.size<=65536
 ·by_cases h0:0<s.size
  ·exact q8i neg s x w h h0
  ·have e:s=⟨#[]⟩:=R16.bytes_none (by omega);rw[e];exact q8j neg x w
 ·exact q8k neg s x w (by omega) hmax
end Dec
namespace Nat_
open Go Go.RowKit R5
def natErr(n:Nat)(xs:List Nat):Int:=if 16384<n then 4 else if q1I n xs then 0 else 10
theorem natErr_ok(h:q1I n xs=qi):natErr n xs=0:=by unfold natErr;have:=(R16.natOk_facts h).1;rw[if_neg (by omega),h];rfl
theorem natErr_zero(n:Nat)(xs:List Nat):(natErr n xs==0)=q1I n xs:=by
 unfold natErr;by_cases h:16384<n
 ·rw[if_pos h];unfold q1I;rw[k00 (p:=n<=16384) (by omega)];rfl
 ·rw[if_neg h];cases q1I n xs<;>rfl
theorem Check(A:Option qp)(n c:Nat)(xs:List Nat)(w:qg)(hr:Rd w A n c xs):qk qd 119 #[q4w A n c] w fun e w'=>e=.returned (.int .i64 (natErr n xs))/\qf w.heap.size w w':=by
 have k:=hr.sm;by_cases h:16384<n
 ·have d:qm (natErr n xs=4):=vv (by unfold natErr;rw[if_pos h]);have i:qb ((16384:Int)<(n:Int))=qi:=k03 (by omega);clear h hr;go_enter func119,ntmps119;go_wp2;go_ret;exact⟨q0o d.o.symm,(qa _ _).alloc lr _⟩
 have i:qb ((16384:Int)<(n:Int))=qc:=k00 (by omega);have l:(n:Int)<=16384:=by omega
 rcases k04 n with a|a
 ·subst a;have d:qm (natErr 0 xs=0):=vv rfl;clear h hr;go_enter func119,ntmps119;go_wp2;go_ret;exact⟨q0o d.o.symm,(qa _ _).alloc lr _⟩
 obtain⟨m,rfl⟩:∃m,n=m+1:=⟨n-1,by omega⟩;obtain⟨b,off,rfl,r,g⟩:=hr.cell a;have hx:=g m (by omega);have s:(m:Int)+1<=16384:=by omega
 have t:((m:Int)+1==0)=qc:=by rw[k02];omega
 have j:qm (natErr (m+1) xs=if nth xs m=0 then 10 else 0):=vv (by
  unfold natErr;rw[if_neg h];unfold q1I;rw[k03 (p:=m+1<=16384) (by omega),k00 (p:=m+1=0) (by omega),k1a];by_cases hz:nth xs m=0
  ·rw[if_pos hz,k00 (p:=nth xs m≠0) (by omega)];rfl
  ·rw[if_neg hz,k03 (p:=nth xs m≠0) hz];rfl)
 have u:qb ((16384:Int)<(m:Int)+1)=qc:=k00 (by omega);have v:qb ((0:Int)<(m:Int)+1)=qi:=k03 (by omega);clear h g hr a l i k;by_cases hz:nth xs m=0
 ·have f:qm (natErr (m+1) xs=10):=vv (by rw[j.o,if_pos hz]);have q:(((nth xs m:Nat):Int)==0)=qi:=by rw[hz];rfl
  clear hz;go_enter func119,ntmps119;go_wp2;go_ret;exact⟨q0o f.o.symm,(qa _ _).alloc lr _⟩
 ·have f:qm (natErr (m+1) xs=0):=vv (by rw[j.o,if_neg hz]);have q:(((nth xs m:Nat):Int)==0)=qc:=by rw[k02];omega
  clear hz;go_enter func119,ntmps119;go_wp2;go_ret;exact⟨q0o f.o.symm,(qa _ _).alloc lr _⟩
end Nat_
namespace Exa
open Go Go.RowKit R5
theorem none_(A:Option qp)(n c:Nat)(w:qg):qk qd 120 #[q4w A n c] w fun e w'=>e=.returned (.bool ((n:Int)==0))/\qf w.heap.size w w':=by go_enter func120,ntmps120;go_wp2;go_ret;exact⟨rfl,(qa _ _).alloc lr _⟩
theorem far(x:Int)(w:qg):qk qd 121 #[.int .i64 x] w fun e w'=>e=.returned (.bool (Dec.farB x))/\w=w':=by
 by_cases h1:x < -1073741824
 ·have a:qm (Dec.farB x=qi):=vv (by unfold Dec.farB;rw[k03 h1];rfl);have b:qb (x < -1073741824)=qi:=k03 h1;clear h1;go_enter func121,ntmps121;go_wp2;go_ret;exact⟨q1L a.o.symm,rfl⟩
 ·have a:qm (Dec.farB x=qb (1073741824<x)):=vv (by unfold Dec.farB;rw[k00 h1];rfl);have b:qb (x < -1073741824)=qc:=k00 h1;clear h1;go_enter func121,ntmps121;go_wp2;go_ret;exact⟨q1L a.o.symm,rfl⟩
end Exa
end Go.Proofs.YthopehoklmgphaaGreatDoor
