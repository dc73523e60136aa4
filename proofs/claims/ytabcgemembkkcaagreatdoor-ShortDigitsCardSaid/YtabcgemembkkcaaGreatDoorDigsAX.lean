/- Lemmas. -/
import Derived.Maps.AppendAt
import Derived.Test.YtabcgemembkkcaaGreatDoorDigsAW
set_option linter.all false
set_option maxHeartbeats 4000000
set_option maxRecDepth 100000
open Go.Proofs.Tryz
open Decidable renaming decide->qa
open Go renaming RowKit.Below.refl->qb,World->qf,heap_alloc_new->qh,Calls->qk,bodyPost_ret->ql,wpList_append_own->qn,Addr->qo,cell_one_new->qp,IntKind.wrap_i64->qq,IntKind.wrap_u32->qr,Value->qs
open Option renaming none->qc,some->qi
open Go.Proofs.Tryz renaming prog->qd
open Bool renaming false->qe,true->qj
open Go.RowKit renaming Below->qg,Hid->qm
namespace Go.Proofs.YtabcgemembkkcaaGreatDoor
variable{w w':qf}{n N j g c k:Nat}{U xs:List Nat}{E F x:Int}{neg:Bool}{s:ByteArray}
section
open Go Go.RowKit
theorem q2x{base:Nat}{e:TypeId}{v:qs}(h:w.ownsRow base e 1 v n (q0k U))(hl:Lim U)(hn:n<=35184372088832):∃A c,v=.slice A n c/\Rd w A n c U/\Fr base A:=by
 have a:U.length=n:=by have:=h.1;simpa [q0k] using this
 rcases h.2 with ⟨rfl,rfl⟩|⟨g,cap,m,rfl,f,b,k,o,p,l⟩
 ·have:U=[]:=k1L.1 a;subst this;exact⟨qc,0,rfl,Rd.nil _,Fr.none_ _⟩
 ·refine⟨_,cap,rfl,⟨a,k,hn,hl,fun _=>⟨g,0,rfl,(k0P.1 b).1,fun j hj=>?_⟩⟩,Fr.at_ f⟩;have d:=q2b U (i:=j) (by omega);rw[<- l,k0G,k1d,k0p hj] at d;simp only[World.cell?,b,k10];rw[<- d];simp
end
namespace R1
open Go Go.RowKit
theorem qbB(A:Option qo)(n c:Nat)(xs:List Nat)(w:qf)(hr:Rd w A n c xs):qk qd 306 #[.slice A n c] w (AB.TrimPost A c xs w):=by
 have q:=hr.sm;have r:=hr.len;have s:=hr.le;go_enter func306,ntmps306;go_wp2;go_loop [3] (fun t=>∃k:Nat,k<=n/\t=.int .i64 k/\∀i,k<=i->nth xs i=0) (fun t=>(intOf t).toNat)
 case atStart=>exact⟨n,lr,rfl,fun i hi=>q0U xs i (by omega)⟩
 case round =>
  obtain⟨k,v,rfl,d⟩:=hrel;have fin:∀m,m<=n->(∀i,m<=i->nth xs i=0)->(m=0\/nth xs (m-1)≠0)->Rd w A m c (toL (val xs)):=by intro m p a f;have e:=q1C hr.lim (n:=m) a (f.imp id fun h=>⟨by omega,h⟩);rw[<- e];exact hr.take p
  have j:=vv fin;clear fin;rcases k01 k with rfl|u
  ·go_wp2;go_ret;exact⟨0,rfl,rfl,j.o 0 (k0x _) d (.inl rfl)⟩
  ·obtain⟨m,rfl⟩:∃m,k=m+1:=⟨k-1,by omega⟩;obtain⟨b,off,rfl,x,l⟩:=hr.cell (by omega);have hx:=l m (by omega);clear l;by_cases a:nth xs m=0
   ·have f:(((nth xs m:Nat):Int)==0)=qj:=by rw[a];rfl
    have g:=vv a;clear a;go_wp2;go_round
    case rel=>exact⟨m,by omega,by go_num,fun i hi=>by
     rcases k1W hi with rfl|h
     ·exact g.o
     ·exact d i (by omega)⟩
    case measure=>simp [intOf]
   ·have f:(((nth xs m:Nat):Int)==0)=qe:=by rw[k05];omega
    have g:=vv a;clear a;go_wp2;go_ret;exact⟨m+1,rfl,rfl,j.o _ (by omega) d (.inr g.o)⟩
theorem qa5(A:Option qo)(n c k:Nat)(xs:List Nat)(w:qf)(hr:Rd w A n c xs)(hk:k<=35184372088832):qk qd 348 #[.slice A n c,.int .i64 (k:Int)] w fun e w'=>e=.returned (.int .u64 ((nth xs k:Nat):Int))/\w=w':=by
 have f:=hr.sm;rcases k0A k n with h|h
 ·obtain⟨b,off,rfl,g,a⟩:=hr.cell (by omega);have hx:=a k h;have i:=hr.nth_lt k;clear a hr;go_enter func348,ntmps348;go_wp2;go_ret;exact⟨rfl,rfl⟩
 ·have d:qm (nth xs k=0):=vv (q0U xs k (by rw[hr.len];exact h));have j:qa (k<n)=qe:=k02 (by omega);clear hr h;go_enter func348,ntmps348;go_wp2;go_ret;exact⟨q0X (by rw[d.o];rfl),rfl⟩
theorem times(A B:Option qo)(n m c d:Nat)(xs ys:List Nat)(w:qf)(ha:Rd w A n c xs)(hb:Rd w B m d ys)(hs:n+m<=35184372088832):qk qd 315 #[.slice A n c,.slice B m d] w (q0g (val xs*val ys) w):=by
 have L:=Go.Proofs.YtabcgemembkkcaaGreatDoor.AB.mk (n+m) hs;have H:((n+m:Nat):Int)=(n:Int)+(m:Int):=by omega
 rw[H] at L;clear H;go_enter func315,ntmps315;go_wp2;go_loopw [6] (fun i wr=>∃(k:Nat) (U:List Nat),i=.int .i64 k/\k<=n/\U.length=n+m/\Own wr w.heap.size 54 U /\val (U.take (k+m))=val (xs.take k)*val ys/\qg w.heap.size w wr) (fun i _=>n-(intOf i).toNat)
 case atStart=>exact⟨0,List.replicate (n+m) 0,rfl,k0x _,by simp,Own.made _ _ _,by simp [val,k2k,q0d],(qb _ _).alloc lr _⟩
 case round =>
  obtain⟨k,U,rfl,hk,s,t,g,u⟩:=hrel;have I:=vv g;have l:=vv s;clear g s;obtain⟨wo,rfl⟩:∃wo:qf,wo=wr:=⟨_,rfl⟩;by_cases hkn:k<n
  ·obtain⟨b,off,rfl,M,v⟩:=ha.cell (by omega);have N:=v k hkn;clear v;have x:=ha.nth_lt k;go_wp2;go_loopw [7,8] (fun q i wr=>∃(j y:Nat) (V:List Nat),i=.int .i64 j/\j<=m/\q=.int .u64 y/\y<4294967296/\V.length=n+m/\Own wr w.heap.size 54 V /\(∀p,k+j<=p->nth V p=nth U p)/\val (V.take (k+j))+4294967296^(k+j)*y=val (U.take (k+j))+4294967296^k*(nth xs k*val (ys.take j))/\qg w.heap.size w wr) (fun _ i _=>m-(intOf i).toNat)
   case atStart=>exact⟨0,0,U,rfl,k0x _,rfl,by omega,l.o,t,fun _ _=>rfl,by simp [val],u⟩
   case round =>
    obtain⟨j,y,V,rfl,hj,rfl,Q,z,a,C,g,h⟩:=hrel;have D:=vv g;have f:=vv z;have J:=vv C;clear g z C;have hg:=a.lt;by_cases hjm:j<m
    ·have hx:wr.cell? ⟨b,off+k,qc⟩=qi (.int .u32 ((nth xs k:Nat):Int)):=(h.cell (p:=⟨b,off+k,qc⟩) M).trans N;obtain⟨K,E,rfl,O,F⟩:=hb.cell (by omega);have Z:wr.cell? ⟨K,E+j,qc⟩=qi (.int .u32 ((nth ys j:Nat):Int)):=(h.cell (p:=⟨K,E+j,qc⟩) O).trans (F j hjm);clear F;have G:=hb.nth_lt j;have R:=a.cell (i:=k+j) (by rw[f.o];omega);have S:=a.frozen (k+j);have a1:=a.nth_lt (k+j);have a2:((nth xs k:Nat):Int)*((nth ys j:Nat):Int)<=18446744065119617025:=by have:=q1i x G;omega
     have a0:(0:Int)<=((nth xs k:Nat):Int)*((nth ys j:Nat):Int):=k18 (k0k _) (k0k _);have i1:(j:Int)<(m:Int):=by omega
     have i2:(0:Int)<=(j:Int):=by omega
     have i3:(k:Int)+(j:Int)<(n:Int)+(m:Int):=by omega
     have i4:(0:Int)<=(k:Int)+(j:Int):=by omega
     have i5:(k:Int)<(n:Int):=by omega
     have i6:(0:Int)<=(k:Int):=by omega
     go_wp2_with fail;go_quiet (fail);have T:=vv (q1i x G);have r:=vv a;clear a;go_wp2;go_roundw
     case rel =>
      have W:(nth xs k*nth ys j+nth V (k+j)+y)/4294967296<4294967296:=by have:=T.o;omega
      refine⟨j+1,(nth xs k*nth ys j+nth V (k+j)+y)/4294967296,V.set (k+j) ((nth xs k*nth ys j+nth V (k+j)+y)%4294967296),by go_num,by omega,k0z _ (by omega),W,by rw[k0c];exact f.o,(r.o.drewN _).set (by rw[f.o];omega) (k0i _ (by omega)) (by omega),fun p hp=>?_,q4m (by rw[f.o];omega) (J.o _ lr) D.o,(q0n h _).setCell lr _⟩;rw[q0i _ _ (by omega)];exact J.o p (by omega)
     case measure=>simp [intOf];omega
    ·obtain rfl:j=m:=by omega
     have R:=a.cell (i:=k+j) (by rw[f.o];omega);have S:=a.frozen (k+j);have r:=vv a;clear a;go_wp2;go_roundw
     case rel =>exact⟨k+1,V.set (k+j) y,by go_num,by omega,by rw[k0c];exact f.o,r.o.set (by rw[f.o];omega) Q rfl,q5r hb.len (by rw[f.o];omega) I.o D.o,h.setCell lr _⟩
     case measure=>simp [intOf];omega
  ·obtain rfl:k=n:=by omega
   have X:=vv (t.rd (n:=k+m) (c:=k+m) l.o.symm lr (by omega));go_wp2_with fail;refine(qbB _ _ _ _ _ X.o).mono ?_;rintro e w' ⟨Y,rfl,rfl,P⟩;go_wp2;go_ret;refine⟨_,Y,k+m,rfl,?_,Fr.at_ lr,u⟩;have e:=I.o;rw[q0f (xs:=U) (by rw[l.o];omega),q0f (xs:=xs) (by rw[ha.len];omega)] at e;rw[<- e];exact P
theorem q6z(hl:Lim U)(hv:val U=N)(ht:U=[]\/4294967296^(U.length-1)<=N):U=toL N:=by
 rcases ht with rfl|ht
 ·have:N=0:=hv.symm;subst this;rfl
 ·rcases k01 U.length with a|a
  ·have:U=[]:=k1L.1 a;subst this;have:N=0:=hv.symm;subst this;rfl
  ·have e:=q1C hl (n:=U.length) (fun i hi=>q0U U i hi) (.inr ⟨lr,fun hz=>by have b:=q07 U (U.length-1);rw[show U.length-1+1=U.length by omega,q0f lr] at b;have c:nth U (U.length-1)=0:=hz;rw[c,k1m,k1u] at b;have d:=q0Y (q0C hl (U.length-1));rw[k0v,k0Y (by omega)] at d;omega⟩);rw[q0f lr,hv] at e;exact e
theorem qep(A A':Option qo)(n m c d N M:Nat)(w:qf)(ha:Rd w A n c (toL N))(hb:Rd w A' m d (toL M))(hn:n<=17592186044416)(hm:m<=17592186044416):qk qd 312 #[.slice A n c,.slice A' m d] w (q0g (N+M) w):=by
 have a9:qm (∀k,k<n->4294967296^k<=N):=vv fun k hk=>by
  have hN:0<N:=by
   rcases k01 N with e|e
   ·have:=ha.words;rw[e,q0h] at this;omega
   ·exact e
  have:=q1V hN;rw[ha.words] at this;exact k07 (k00 (by omega) (by omega)) this
 have b0:qm (∀k,k<m->4294967296^k<=M):=vv fun k hk=>by
  have hM:0<M:=by
   rcases k01 M with e|e
   ·have:=hb.words;rw[e,q0h] at this;omega
   ·exact e
  have:=q1V hM;rw[hb.words] at this;exact k07 (k00 (by omega) (by omega)) this
 have W:=vv fun j (h:qg w.heap.size w j)=>ha.below h rfl
 have X:=vv fun j (h:qg w.heap.size w j)=>hb.below h rfl
 have O:=vv ha.len;have Q:=vv hb.len;obtain⟨Y,hi,R,S,T⟩:=info_parts Go.Proofs.YtabcgemembkkcaaGreatDoor.AB.inf;have a4:=ha.nth_lt;have a5:=hb.nth_lt;have b1:=vv a4;have b2:=vv a5;clear ha hb a4 a5;go_enter func312,ntmps312;go_wp2;go_loopw [5,6,7] (fun v q i wr=>∃(k y:Nat) (U:List Nat),i=.int .i64 k/\q=.int .u64 y/\y<=1/\k<=max n m+1/\(max n m<k->y=0)/\U.length=k/\Lim U/\wr.ownsRow w.heap.size 54 1 v k (q0k U) /\val U+4294967296^k*y=val ((toL N).take k)+val ((toL M).take k)/\(U=[]\/4294967296^(k-1)<=N+M)/\qg w.heap.size w wr) (fun _ _ i _=>max n m+1-(intOf i).toNat)
 case atStart=>exact⟨0,0,[],rfl,rfl,by omega,k0x _,fun _=>rfl,rfl,q0L,World.ownsRow_nil _ _ _ _,by simp [val],.inl rfl,qb _ _⟩
 case round =>
  obtain⟨k,y,U,rfl,rfl,hy,hk,a6,a7,a0,V,a1,a2,a3⟩:=hrel;have F:=vv a1;have x:=vv a7;have HT:=vv a2;have b3:=vv a6;have z:=vv V;have G:=vv a0;have f:=vv a3;clear a1 a7 a2 a6 a0 a3;by_cases g:k<n\/k<m\/0<y
  ·have b6:k<=max n m:=by
    rcases g with h|h|h
    ·omega
    ·omega
    ·by_cases hh:max n m<k
     ·have:=b3.o hh;omega
     ·omega
   have Z:qm (4294967296^k<=N+M):=by
    refine vv ?_;rcases g with h|h|h
    ·have:=a9.o k h;omega
    ·have:=b0.o k h;omega
    ·have t:=F.o;have C:=q1x (toL N) k;have H:=q1x (toL M) k;rw[q04] at C H;have h4:4294967296^k*1<=4294967296^k*y:=k0m _ h;omega
   have hx:=b1.o k;have hz:=b2.o k;clear V;rcases(by omega:k<n\/(¬k<n/\k<m)\/(¬k<n/\¬k<m/\0<y)) with t|⟨t,C⟩|⟨t,C,H⟩
   ·have t1:qa (k<n)=qj:=k04 t;clear g;go_wp2_with fail;refine(qa5 A n c k (toL N) _ (W.o _ f.o) (by omega)).mono ?_;rintro e j ⟨rfl,rfl⟩;go_wp2_with fail;refine(qa5 A' m d k (toL M) _ (X.o _ f.o) (by omega)).mono ?_;rintro e j ⟨rfl,rfl⟩;go_wp2_with (at_builtin;refine qn _ rfl _ _ 35 rfl w.heap.size 54 Y (.int .u32 0) 1 4 underlying35 hi R S T rfl (by decide) _ k (q0k U) rfl (z.o.alloc _) ⟨wr.heap.size,0,qc⟩ 1 1 [.int .u32 ((((nth (toL N) k:Nat):Int)+((nth (toL M) k:Nat):Int)+(y:Int))%4294967296)] rfl rfl (qp _ _ _) (by simp [Value.oneCell']) (by unfold maxLen;omega) (by omega) (by have:=f.o.size;simp;omega) ?_);intro I u l a _;have p:u.ownsRow w.heap.size 54 1 I (k+1) (q0k (U++[(nth (toL N) k+nth (toL M) k+y)%4294967296])):=by
     have e:q0k (U++[(nth (toL N) k+nth (toL M) k+y)%4294967296])=q0k U++[.int .u32 ((((nth (toL N) k:Nat):Int)+((nth (toL M) k:Nat):Int)+(y:Int))%4294967296)]:=by simp [q0k]
     rw[e];exact l
    have s:qg w.heap.size w u:=by have b:qg w.heap.size w (wr.alloc (.cells #[.int .u32 ((((nth (toL N) k:Nat):Int)+((nth (toL M) k:Nat):Int)+(y:Int))%4294967296)] 54)):=f.o.alloc f.o.size _;exact⟨a.os.trans b.os,a.tape.trans b.tape,a.output.trans b.output,k07 b.size a.size,fun i hi=>(a.block i (k03 hi b.size) (fun e=>by have:=(z.o.lt i e.symm).1;omega)).trans (b.block i hi)⟩
    have D:=vv p;have E:=vv s;clear l a p s;go_wp2;go_roundw
    case rel =>
     refine⟨k+1,(nth (toL N) k+nth (toL M) k+y)/4294967296,U++[(nth (toL N) k+nth (toL M) k+y)%4294967296],by go_num,k0z _ (by omega),by omega,by omega,fun h=>?_,by rw[k16,x.o];rfl,q0R.2 ⟨G.o,q0y.2 ⟨k0i _ (by omega),q0L⟩⟩,D.o,?_,.inr (by rw[k0T];exact Z.o),E.o⟩
     ·have J:nth (toL N) k=0:=q0U _ _ (by rw[O.o];omega);have K:nth (toL M) k=0:=q0U _ _ (by rw[Q.o];omega);rw[J,K];omega
     ·have e:=F.o;rw[q1t,x.o,q07,q07,k0d];have L:=k0F (nth (toL N) k+nth (toL M) k+y) 4294967296;generalize (nth (toL N) k+nth (toL M) k+y)/4294967296=q at *
      generalize (nth (toL N) k+nth (toL M) k+y)%4294967296=r at *
      have e4:4294967296^k*(4294967296*q+r)=4294967296^k*(nth (toL N) k+nth (toL M) k+y):=by rw[L]
      generalize 4294967296^k=P at *
      grind
    case measure=>simp [intOf];omega
   ·have t1:qa (k<n)=qe:=k02 t;have t2:qa (k<m)=qj:=k04 C;clear g;go_wp2_with fail;refine(qa5 A n c k (toL N) _ (W.o _ f.o) (by omega)).mono ?_;rintro e j ⟨rfl,rfl⟩;go_wp2_with fail;refine(qa5 A' m d k (toL M) _ (X.o _ f.o) (by omega)).mono ?_;rintro e j ⟨rfl,rfl⟩;go_wp2_with (at_builtin;refine qn _ rfl _ _ 35 rfl w.heap.size 54 Y (.int .u32 0) 1 4 underlying35 hi R S T rfl (by decide) _ k (q0k U) rfl (z.o.alloc _) ⟨wr.heap.size,0,qc⟩ 1 1 [.int .u32 ((((nth (toL N) k:Nat):Int)+((nth (toL M) k:Nat):Int)+(y:Int))%4294967296)] rfl rfl (qp _ _ _) (by simp [Value.oneCell']) (by unfold maxLen;omega) (by omega) (by have:=f.o.size;simp;omega) ?_);intro I u l a _;have p:u.ownsRow w.heap.size 54 1 I (k+1) (q0k (U++[(nth (toL N) k+nth (toL M) k+y)%4294967296])):=by
     have e:q0k (U++[(nth (toL N) k+nth (toL M) k+y)%4294967296])=q0k U++[.int .u32 ((((nth (toL N) k:Nat):Int)+((nth (toL M) k:Nat):Int)+(y:Int))%4294967296)]:=by simp [q0k]
     rw[e];exact l
    have s:qg w.heap.size w u:=by have b:qg w.heap.size w (wr.alloc (.cells #[.int .u32 ((((nth (toL N) k:Nat):Int)+((nth (toL M) k:Nat):Int)+(y:Int))%4294967296)] 54)):=f.o.alloc f.o.size _;exact⟨a.os.trans b.os,a.tape.trans b.tape,a.output.trans b.output,k07 b.size a.size,fun i hi=>(a.block i (k03 hi b.size) (fun e=>by have:=(z.o.lt i e.symm).1;omega)).trans (b.block i hi)⟩
    have D:=vv p;have E:=vv s;clear l a p s;go_wp2;go_roundw
    case rel =>
     refine⟨k+1,(nth (toL N) k+nth (toL M) k+y)/4294967296,U++[(nth (toL N) k+nth (toL M) k+y)%4294967296],by go_num,k0z _ (by omega),by omega,by omega,fun h=>?_,by rw[k16,x.o];rfl,q0R.2 ⟨G.o,q0y.2 ⟨k0i _ (by omega),q0L⟩⟩,D.o,?_,.inr (by rw[k0T];exact Z.o),E.o⟩
     ·have J:nth (toL N) k=0:=q0U _ _ (by rw[O.o];omega);have K:nth (toL M) k=0:=q0U _ _ (by rw[Q.o];omega);rw[J,K];omega
     ·have e:=F.o;rw[q1t,x.o,q07,q07,k0d];have L:=k0F (nth (toL N) k+nth (toL M) k+y) 4294967296;generalize (nth (toL N) k+nth (toL M) k+y)/4294967296=q at *
      generalize (nth (toL N) k+nth (toL M) k+y)%4294967296=r at *
      have e4:4294967296^k*(4294967296*q+r)=4294967296^k*(nth (toL N) k+nth (toL M) k+y):=by rw[L]
      generalize 4294967296^k=P at *
      grind
    case measure=>simp [intOf];omega
   ·have t1:qa (k<n)=qe:=k02 t;have t2:qa (k<m)=qe:=k02 C;have t3:qa (0<y)=qj:=k04 H;clear g;go_wp2_with fail;refine(qa5 A n c k (toL N) _ (W.o _ f.o) (by omega)).mono ?_;rintro e j ⟨rfl,rfl⟩;go_wp2_with fail;refine(qa5 A' m d k (toL M) _ (X.o _ f.o) (by omega)).mono ?_;rintro e j ⟨rfl,rfl⟩;go_wp2_with (at_builtin;refine qn _ rfl _ _ 35 rfl w.heap.size 54 Y (.int .u32 0) 1 4 underlying35 hi R S T rfl (by decide) _ k (q0k U) rfl (z.o.alloc _) ⟨wr.heap.size,0,qc⟩ 1 1 [.int .u32 ((((nth (toL N) k:Nat):Int)+((nth (toL M) k:Nat):Int)+(y:Int))%4294967296)] rfl rfl (qp _ _ _) (by simp [Value.oneCell']) (by unfold maxLen;omega) (by omega) (by have:=f.o.size;simp;omega) ?_);intro I u l a _;have p:u.ownsRow w.heap.size 54 1 I (k+1) (q0k (U++[(nth (toL N) k+nth (toL M) k+y)%4294967296])):=by
     have e:q0k (U++[(nth (toL N) k+nth (toL M) k+y)%4294967296])=q0k U++[.int .u32 ((((nth (toL N) k:Nat):Int)+((nth (toL M) k:Nat):Int)+(y:Int))%4294967296)]:=by simp [q0k]
     rw[e];exact l
    have s:qg w.heap.size w u:=by have b:qg w.heap.size w (wr.alloc (.cells #[.int .u32 ((((nth (toL N) k:Nat):Int)+((nth (toL M) k:Nat):Int)+(y:Int))%4294967296)] 54)):=f.o.alloc f.o.size _;exact⟨a.os.trans b.os,a.tape.trans b.tape,a.output.trans b.output,k07 b.size a.size,fun i hi=>(a.block i (k03 hi b.size) (fun e=>by have:=(z.o.lt i e.symm).1;omega)).trans (b.block i hi)⟩
    have D:=vv p;have E:=vv s;clear l a p s;go_wp2;go_roundw
    case rel =>
     refine⟨k+1,(nth (toL N) k+nth (toL M) k+y)/4294967296,U++[(nth (toL N) k+nth (toL M) k+y)%4294967296],by go_num,k0z _ (by omega),by omega,by omega,fun h=>?_,by rw[k16,x.o];rfl,q0R.2 ⟨G.o,q0y.2 ⟨k0i _ (by omega),q0L⟩⟩,D.o,?_,.inr (by rw[k0T];exact Z.o),E.o⟩
     ·have J:nth (toL N) k=0:=q0U _ _ (by rw[O.o];omega);have K:nth (toL M) k=0:=q0U _ _ (by rw[Q.o];omega);rw[J,K];omega
     ·have e:=F.o;rw[q1t,x.o,q07,q07,k0d];have L:=k0F (nth (toL N) k+nth (toL M) k+y) 4294967296;generalize (nth (toL N) k+nth (toL M) k+y)/4294967296=q at *
      generalize (nth (toL N) k+nth (toL M) k+y)%4294967296=r at *
      have e4:4294967296^k*(4294967296*q+r)=4294967296^k*(nth (toL N) k+nth (toL M) k+y):=by rw[L]
      generalize 4294967296^k=P at *
      grind
    case measure=>simp [intOf];omega
  ·have t:¬k<n:=fun h=>g (.inl h)
   have C:¬k<m:=fun h=>g (.inr (.inl h))
   have H:y=0:=by
    rcases k01 y with h|h
    ·exact h
    ·exact absurd (.inr (.inr h)) g
   subst H;have t1:qa (k<n)=qe:=k02 t;have t2:qa (k<m)=qe:=k02 C;have HE:qm (U=toL (N+M)):=by have e:=F.o;rw[q0f (xs:=toL N) (by rw[O.o];omega),q0f (xs:=toL M) (by rw[Q.o];omega),q04,q04,k1m,k1u] at e;exact vv (q6z G.o e (HT.o.imp id fun h=>by rw[x.o];exact h))
   obtain⟨Av,cv,rfl,a8,b4⟩:=q2x z.o G.o (by omega);have b5:=vv a8;clear g a8 V;go_wp2;go_ret;exact⟨_,_,_,rfl,by rw[<- HE.o];exact b5.o,b4,f.o⟩
end R1
section
open Go Go.RowKit
def dv(l:List UInt8):Nat:=l.foldl (fun a c=>10*a+(c.toNat-48)) 0
theorem q5C(l:List UInt8)(c:UInt8):dv (l++[c])=10*dv l+(c.toNat-48):=by simp [dv,List.foldl_append]
theorem qbc(l:List UInt8):∀a,l.foldl (fun a c=>10*a+(c.toNat-48)) a=a*10^l.length+dv l:=by
 induction l with
 | nil=>intro a;simp [dv]
 | cons c l ih =>
  intro a;unfold dv;rw[List.foldl_cons,List.foldl_cons,ih,ih (10*0+(c.toNat-48)),k2o,k0d]
  grind
theorem q8f(l m:List UInt8):dv (l++m)=dv l*10^m.length+dv m:=by unfold dv;rw[List.foldl_append,qbc];rfl
def q8F(s:ByteArray):Prop:=∀k (h:k<s.size),48<=s[k].toNat/\s[k].toNat<=57
theorem q5k(s:ByteArray)(k:Nat)(h:k<s.size):s.data.toList.take (k+1)=s.data.toList.take k++[s[k]]:=by rw[k1P (by simpa using h)];rfl
def dvk(s:ByteArray)(k:Nat):Nat:=dv (s.data.toList.take k)
theorem q9D(s:ByteArray):dvk s 0=0:=rfl
theorem q9E(s:ByteArray)(k:Nat)(h:k<s.size):dvk s (k+1)=10*dvk s k+(s[k].toNat-48):=by unfold dvk;rw[q5k s k h,q5C]
theorem q8e(s:ByteArray)(hd:q8F s):∀k,k<=s.size->dvk s k<10^k
 | 0,_=>by simp [q9D]
 | k+1,h=>by have:=q8e s hd k (by omega);have h2:=hd k (by omega);rw[q9E s k (by omega),k0d];omega
def dvm(s:ByteArray)(i j:Nat):Nat:=dv ((s.data.toList.drop i).take j)
theorem q9C(s:ByteArray)(i:Nat):dvm s i 0=0:=rfl
theorem q6k(s:ByteArray)(i j:Nat)(h:i+j<s.size):dvm s i (j+1)=10*dvm s i j+(s[i+j].toNat-48):=by
 unfold dvm;have a:j<(s.data.toList.drop i).length:=by rw[k0t];simp;omega
 rw[k1P a,q5C,List.getElem_drop];rfl
theorem q8c(s:ByteArray)(hd:q8F s)(i:Nat):∀j,i+j<=s.size->dvm s i j<10^j
 | 0,_=>by simp [q9C]
 | j+1,h=>by have:=q8c s hd i j (by omega);have h2:=hd (i+j) (by omega);rw[q6k s i j (by omega),k0d];omega
theorem qbb(s:ByteArray)(i j:Nat)(h:i+j<=s.size):dvk s (i+j)=dvk s i*10^j+dvm s i j:=by
 unfold dvk dvm;have e:s.data.toList.length=s.size:=Array.length_toList;have a:((s.data.toList.drop i).take j).length=j:=by rw[k0v,k0t];omega
 rw[List.take_add,q8f,a]
theorem q8d(s:ByteArray)(hd:q8F s)(k:Nat)(h:k<=s.size):words (dvk s k)<=k:=by refine q15 (k03 (q8e s hd k h) ?_);exact k1j (by omega) k
theorem q5U(h:j<=9):(10:Nat)^j<=1000000000:=k07 (k00 (by omega) h) (by decide)
def tn(j:Nat):Nat:=10^j
theorem qav(j:Nat):tn (j+1)=10*tn j:=by unfold tn;rw[k0d,k0g]
structure NatCell(w:qf)(g:Nat):Prop where
 c0:w.cell? ⟨g,0,qc⟩=qi (.slice qc 0 0)
 fz:w.frozen? ⟨g,0,qc⟩=qe
 lt:g<w.heap.size
theorem NatCell.made(w:qf)(t:TypeId):NatCell (w.alloc (.cells #[.slice qc 0 0] t)) w.heap.size:=⟨by simp only[World.cell?];rw[qh];rfl,by simp only[World.frozen?];rw[qh];simp,by simp⟩
theorem NatCell.below(h:NatCell w g)(hb:qg w.heap.size w w'):NatCell w' g:=⟨(hb.cell (p:=⟨g,0,qc⟩) h.lt).trans h.c0,(hb.frozen (p:=⟨g,0,qc⟩) h.lt).trans h.fz,k03 h.lt hb.size⟩
theorem Rd.other{A:Option qo}(h:Rd w A n c xs)(g o:Nat)(v:qs)(hf:∀a,A=qi a->a.block≠g):Rd (w.setCell ⟨g,o,qc⟩ v) A n c xs:=h.fm (Fm.set0 (g:=g) (o:=o) w v (.inl rfl)) (fun _=>hf)
end
namespace R1
open Go Go.RowKit
theorem qaP(A:Option qo)(n c:Nat)(w:qf):qk qd 305 #[.slice A n c] w fun e w'=>e=.returned (.agg #[.slice A n c])/\qg w.heap.size w w':=by go_enter func305,ntmps305;go_wp2;exact ql (v:=.agg #[.slice A n c]) (by simp [results,results305,go_sem]) rfl ⟨rfl,by first|exact(qb _ _).alloc lr _|exact((qb _ _).alloc lr _).setCell lr _⟩
end R1
namespace R3
open Go Go.RowKit R5
def formOk(E F:Int):Bool:=qa (2<=E) && qa (E<=11) && qa (1<=F) && qa (F<=52)
def chk(E F:Int):Int:=if formOk E F then 0 else 5
theorem chk_ok(h:formOk E F=qj):chk E F=0:=k0p h
theorem chk_no(h:formOk E F=qe):chk E F=5:=by unfold chk;rw[h];rfl
theorem formOk_nat(h:formOk E F=qj):∃e f:Nat,E=e/\F=f/\2<=e/\e<=11/\1<=f/\f<=52:=by unfold formOk at h;simp only[k13,k12] at h;exact⟨E.toNat,F.toNat,by omega,by omega,by omega,by omega,by omega,by omega⟩
theorem Check(E F:Int)(w:qf):qk qd 35 #[fm E F] w fun e w'=>e=.returned (.int .i64 (chk E F))/\qg w.heap.size w w':=by
 by_cases h1:E<2
 ·have a:qm (formOk E F=qe):=vv (by unfold formOk;rw[k02 (p:=2<=E) (by omega)];rfl);have b:qa (E<2)=qj:=k04 h1;clear h1;go_enter func35,ntmps35;go_wp2;go_ret;exact⟨q0X (chk_no a.o).symm,(qb _ _).alloc lr _⟩
 have b:qa (E<2)=qe:=k02 h1;by_cases h2:11<E
 ·have a:qm (formOk E F=qe):=vv (by unfold formOk;rw[k02 (p:=E<=11) (by omega)];simp);have c:qa (11<E)=qj:=k04 h2;clear h1 h2;go_enter func35,ntmps35;go_wp2;go_ret;exact⟨q0X (chk_no a.o).symm,(qb _ _).alloc lr _⟩
 have c:qa (11<E)=qe:=k02 h2;by_cases h3:F<1
 ·have a:qm (formOk E F=qe):=vv (by unfold formOk;rw[k02 (p:=1<=F) (by omega)];simp);have d:qa (F<1)=qj:=k04 h3;clear h1 h2 h3;go_enter func35,ntmps35;go_wp2;go_ret;exact⟨q0X (chk_no a.o).symm,(qb _ _).alloc lr _⟩
 have d:qa (F<1)=qe:=k02 h3;by_cases h4:52<F
 ·have a:qm (formOk E F=qe):=vv (by unfold formOk;rw[k02 (p:=F<=52) (by omega)];simp);have f:qa (52<F)=qj:=k04 h4;clear h1 h2 h3 h4;go_enter func35,ntmps35;go_wp2;go_ret;exact⟨q0X (chk_no a.o).symm,(qb _ _).alloc lr _⟩
 have f:qa (52<F)=qe:=k02 h4;have a:qm (formOk E F=qj):=vv (by unfold formOk;rw[k04 (p:=2<=E) (by omega),k04 (p:=E<=11) (by omega),k04 (p:=1<=F) (by omega),k04 (p:=F<=52) (by omega)];rfl);clear h1 h2 h3 h4;go_enter func35,ntmps35;go_wp2;go_ret;exact⟨q0X (chk_ok a.o).symm,(qb _ _).alloc lr _⟩
def tw(j:Nat):Nat:=2^j
theorem tw_succ(j:Nat):tw (j+1)=tw j*2:=by unfold tw;rw[k0d]
theorem tw_le(h:j<=k):tw j<=tw k:=k00 (by omega) h
theorem tw_pos(j:Nat):0<tw j:=k0a j
theorem Pow(n:Nat)(w:qf)(hn:n<=63):qk qd 76 #[.int .i64 (n:Int)] w fun e w'=>e=.returned (.int .u64 (tw n:Nat))/\w=w':=by
 have c:(n:Int)<=63:=by omega
 go_enter func76,ntmps76;go_wp2;go_loop [3,4] (fun a t=>∃k:Nat,k<=n/\t=.int .i64 k/\a=.int .u64 (tw k:Nat)) (fun _ t=>n-(intOf t).toNat)
 case atStart=>exact⟨0,k0x _,rfl,rfl⟩
 case round =>
  obtain⟨k,d,rfl,rfl⟩:=hrel;by_cases hkn:k<n
  ·have f:((tw k:Nat):Int)<=4611686018427387904:=by have:=tw_le (j:=k) (k:=62) (by omega);have g:tw 62=4611686018427387904:=rfl;omega
   have b:=vv (tw_succ k);go_wp2;go_round
   case rel=>exact⟨k+1,by omega,by go_num,k0z _ (by rw[b.o];omega)⟩
   case measure=>simp [intOf];omega
  ·obtain rfl:k=n:=by omega
   clear hkn;go_wp2;go_ret;exact⟨rfl,rfl⟩
theorem Top(E:Nat)(F:Int)(w:qf)(h1:2<=E)(h2:E<=11):qk qd 236 #[fm E F] w fun e w'=>e=.returned (.int .i64 ((tw E-1:Nat):Int))/\qg w.heap.size w w':=by
 have c:((tw E:Nat):Int)<=2048:=by have:=tw_le h2;have d:tw 11=2048:=rfl;omega
 have b:(1:Int)<=((tw E:Nat):Int):=by have:=tw_pos E;omega
 have a:=vv fun w=>Pow E w (by omega)
 clear h1 h2;go_enter func236,ntmps236;go_wp2_with fail;refine(a.o _).mono ?_;rintro e w' ⟨rfl,rfl⟩;go_wp2;go_ret;exact⟨q0X (by omega),(qb _ _).alloc lr _⟩
structure PartsBox(w:qf)(g:Nat)(neg:Bool)(x f:Nat):Prop where
 c0:w.cell? ⟨g,0,qc⟩=qi (.bool neg)
 c1:w.cell? ⟨g,1,qc⟩=qi (.int .i64 (x:Int))
 c2:w.cell? ⟨g,2,qc⟩=qi (.int .u64 (f:Int))
 lt:g<w.heap.size
theorem PartsBox.made(w:qf)(neg:Bool)(x f:Nat)(t:TypeId):PartsBox (w.alloc (.cells #[.bool neg,.int .i64 (x:Int),.int .u64 (f:Int)] t)) w.heap.size neg x f:=⟨by simp only[World.cell?];rw[qh];rfl,by simp only[World.cell?];rw[qh];rfl,by simp only[World.cell?];rw[qh];rfl,by simp⟩
theorem PartsBox.below{x f:Nat}(h:PartsBox w g neg x f)(hb:qg w.heap.size w w'):PartsBox w' g neg x f:=⟨(hb.cell (p:=⟨g,0,qc⟩) h.lt).trans h.c0,(hb.cell (p:=⟨g,1,qc⟩) h.lt).trans h.c1,(hb.cell (p:=⟨g,2,qc⟩) h.lt).trans h.c2,k03 h.lt hb.size⟩
end R3
section
open Go Go.RowKit
def q3v(s:ByteArray):Bool:=s.data.toList.all fun c=>qa (48<=c.toNat) && qa (c.toNat<=57)
theorem q9G(s:ByteArray)(k:Nat)(h:k<s.size):s[k]∈s.data.toList:=by have:s[k]=s.data.toList[k]'(by simpa using h):=rfl;rw[this];exact k2F _
theorem q2g:q3v s=qj↔q8F s:=by
 unfold q3v q8F;rw[k29];constructor
 ·intro h k a;have:=h _ (q9G s k a)
  simpa using this
 ·intro h c d;obtain⟨k,a,e⟩:=List.getElem_of_mem d;have b:k<s.size:=by simpa using a
  have:=h k b;have f:s[k]=c:=e;rw[f] at this
  simpa using this
theorem q5D(hk:k<s.size)(h:¬(48<=s[k].toNat/\s[k].toNat<=57)):q3v s=qe:=by
 rcases Bool.eq_false_or_eq_true (q3v s) with e|e
 ·exact absurd (q2g.1 e k hk) h
 ·exact e
def q3z(s:ByteArray)(k:Nat):Nat:=if h:k<s.size then s[k].toNat else 0
theorem q2H(h:k<s.size):q3z s k=s[k].toNat:=dif_pos h
def q1j(s:ByteArray)(x:Int):Bool:=
 qa (x<=1073741824) && qa (-1073741824<=x) && qa (s.size<=65536) &&
  (if s.size=0 then qa (x=0) else q3v s && !qa (q3z s 0=48) && !qa (q3z s (s.size-1)=48))
structure DecBox(w:qf)(g:Nat)(neg:Bool)(s:ByteArray)(x:Int):Prop where
 c0:w.cell? ⟨g,0,qc⟩=qi (.bool neg)
 c1:w.cell? ⟨g,1,qc⟩=qi (.string s)
 c2:w.cell? ⟨g,2,qc⟩=qi (.int .i64 x)
 lt:g<w.heap.size
theorem DecBox.made(w:qf)(neg:Bool)(s:ByteArray)(x:Int)(t:TypeId):DecBox (w.alloc (.cells #[.bool neg,.string s,.int .i64 x] t)) w.heap.size neg s x:=⟨by simp only[World.cell?];rw[qh];rfl,by simp only[World.cell?];rw[qh];rfl,by simp only[World.cell?];rw[qh];rfl,by simp⟩
theorem DecBox.below(h:DecBox w g neg s x)(hb:qg w.heap.size w w'):DecBox w' g neg s x:=⟨(hb.cell (p:=⟨g,0,qc⟩) h.lt).trans h.c0,(hb.cell (p:=⟨g,1,qc⟩) h.lt).trans h.c1,(hb.cell (p:=⟨g,2,qc⟩) h.lt).trans h.c2,k03 h.lt hb.size⟩
abbrev q3J(neg:Bool)(s:ByteArray)(x:Int):qs:=.agg #[.bool neg,.string s,.int .i64 x]
end
namespace R11
open Go Go.RowKit R5
def noTwoB(neg:Bool)(n:Nat)(x:Int):Bool:=qa (n=0) && qa (x=0) && !neg
end R11
section
open Go Go.RowKit
theorem q4c(h:0<s.size):s.toList.isEmpty=qe:=by
 rw[ByteArray.toList_eq];have e:s.data.toList.length=s.size:=Array.length_toList;cases hl:s.data.toList with
 | nil=>rw[hl] at e;simp at e;omega
 | cons _ _=>rfl
end
namespace R11
open Go Go.RowKit R5
end R11
section
open Go Go.RowKit
abbrev qeW(kind:Nat)(neg dneg:Bool)(s:ByteArray)(x:Int)(hneg:Bool)(A:Option qo)(n c:Nat)(hx:Int)(p:Nat):qs:=
 .agg #[.int .u8 (kind:Int),.bool neg,.bool dneg,.string s,.int .i64 x,.bool hneg,.slice A n c,.int .i64 hx,.int .u64 (p:Int)]
structure NumBox(w:qf)(g:Nat)(kind:Nat)(neg dneg:Bool)(s:ByteArray)(x:Int)(hneg:Bool)(A:Option qo)(n c:Nat)(hx:Int)(p:Nat):Prop where
 c0:w.cell? ⟨g,0,qc⟩=qi (.int .u8 (kind:Int))
 c1:w.cell? ⟨g,1,qc⟩=qi (.bool neg)
 c2:w.cell? ⟨g,2,qc⟩=qi (.bool dneg)
 c3:w.cell? ⟨g,3,qc⟩=qi (.string s)
 c4:w.cell? ⟨g,4,qc⟩=qi (.int .i64 x)
 c5:w.cell? ⟨g,5,qc⟩=qi (.bool hneg)
 c6:w.cell? ⟨g,6,qc⟩=qi (.slice A n c)
 c7:w.cell? ⟨g,7,qc⟩=qi (.int .i64 hx)
 c8:w.cell? ⟨g,8,qc⟩=qi (.int .u64 (p:Int))
 lt:g<w.heap.size
theorem NumBox.made(w:qf)(kind:Nat)(neg dneg:Bool)(s:ByteArray)(x:Int)(hneg:Bool)(A:Option qo)(n c:Nat)(hx:Int)(p:Nat)(t:TypeId):NumBox (w.alloc (.cells #[.int .u8 (kind:Int),.bool neg,.bool dneg,.string s,.int .i64 x,.bool hneg,.slice A n c,.int .i64 hx,.int .u64 (p:Int)] t)) w.heap.size kind neg dneg s x hneg A n c hx p:=by constructor<;>first|(simp only[World.cell?];rw[qh];rfl)|simp
theorem NumBox.below{kind:Nat}{dneg:Bool}{hneg:Bool}{A:Option qo}{hx:Int}{p:Nat}(h:NumBox w g kind neg dneg s x hneg A n c hx p)(hb:qg w.heap.size w w'):NumBox w' g kind neg dneg s x hneg A n c hx p:=⟨(hb.cell (p:=⟨g,0,qc⟩) h.lt).trans h.c0,(hb.cell (p:=⟨g,1,qc⟩) h.lt).trans h.c1,(hb.cell (p:=⟨g,2,qc⟩) h.lt).trans h.c2,(hb.cell (p:=⟨g,3,qc⟩) h.lt).trans h.c3,(hb.cell (p:=⟨g,4,qc⟩) h.lt).trans h.c4,(hb.cell (p:=⟨g,5,qc⟩) h.lt).trans h.c5,(hb.cell (p:=⟨g,6,qc⟩) h.lt).trans h.c6,(hb.cell (p:=⟨g,7,qc⟩) h.lt).trans h.c7,(hb.cell (p:=⟨g,8,qc⟩) h.lt).trans h.c8,k03 h.lt hb.size⟩
def q8b(neg:Bool)(s:ByteArray)(x:Int):Bool:=!neg && s.toList.isEmpty && (x==0)
def qdv(kind:Nat)(neg dneg:Bool)(s:ByteArray)(x:Int)(hneg:Bool)(n:Nat)(xs:List Nat)(hx:Int)(p:Nat):Bool:=
 if kind=1 then q1j s x && (dneg==neg) && R11.noTwoB hneg n hx && qa (p=0)
 else if kind=2 then R5.twoOk hneg n xs hx && q8b dneg s x && qa (p=0) && ((hneg==neg) || decide (n=0))
 else if kind=3 then q8b dneg s x && R11.noTwoB hneg n hx && qa (p=0)
 else if kind=4 then q8b dneg s x && R11.noTwoB hneg n hx && qa (p<=2251799813685247)
 else qe
def qdX(b:Bool):Int:=if b then 0 else 110
end
namespace R11
open Go Go.RowKit R5
end R11
namespace R1
open Go Go.RowKit
theorem two_words(w:qf)(x y:Nat)(hx:x<4294967296)(hy:y<4294967296)(t:TypeId):Rd (w.alloc (.cells #[.int .u32 (x:Int),.int .u32 (y:Int)] t)) (qi ⟨w.heap.size,0,qc⟩) 2 2 [x,y]/\qg w.heap.size w (w.alloc (.cells #[.int .u32 (x:Int),.int .u32 (y:Int)] t)):=⟨(Own.lit (t:=t) [x,y] (q0y.2 ⟨hx,q0y.2 ⟨hy,q0L⟩⟩) (by simp [q0k])).rd rfl lr (by omega),(qb _ _).alloc lr _⟩
theorem Of1(w:qf):qk qd 240 #[.int .u64 1] w fun e w'=>∃A n c,e=.returned (.agg #[.slice A n c])/\Rd w' A n c (toL 1)/\qg w.heap.size w w':=by
 go_enter func240,ntmps240;go_wp2_with fail;obtain⟨h,i⟩:=two_words (w.alloc (.cells #[.slice qc 0 0] 37)) 1 0 (by omega) (by omega) 54;have k:=(NatCell.made w 37).below i;have l:=(qb w.heap.size w).alloc (o:=.cells #[.slice qc 0 0] 37) lr;have u:=vv k;have x:=vv (l.trans (i.mono (by simp)));have m:(w.alloc (.cells #[.slice qc 0 0] 37)).heap.size=w.heap.size+1:=by simp
 rw[m] at h;clear i k l m;refine(qbB (qi ⟨w.heap.size+1,0,qc⟩) 2 2 [1,0] _ h).mono ?_;rintro e w' ⟨b,rfl,rfl,j⟩;have y:=vv j;clear j h;go_wp2_with fail;refine(qaP _ b 2 _).mono ?_;rintro e f ⟨rfl,d⟩;have p:qm (Rd f (qi ⟨w.heap.size+1,0,qc⟩) b 2 (toL 1)):=vv (y.o.below d rfl);have g:=vv (u.o.below d);have q:=vn x d;have z:=g.o.c0;have fz:=g.o.fz;have lt:=g.o.lt;have r:qm (Rd (f.setCell ⟨w.heap.size,0,qc⟩ (.slice (qi ⟨w.heap.size+1,0,qc⟩) b 2)) (qi ⟨w.heap.size+1,0,qc⟩) b 2 (toL 1)):=vv (p.o.other _ _ _ (fun a e=>by cases e;simp));have s:qm (qg w.heap.size w (f.setCell ⟨w.heap.size,0,qc⟩ (.slice (qi ⟨w.heap.size+1,0,qc⟩) b 2))):=vv (q.o.setCell lr _);have t:(f.setCell ⟨w.heap.size,0,qc⟩ (.slice (qi ⟨w.heap.size+1,0,qc⟩) b 2)).cell? ⟨w.heap.size,0,qc⟩=qi (.slice (qi ⟨w.heap.size+1,0,qc⟩) b 2):=q0v z;clear d;go_wp2;exact ql (v:=.agg #[.slice (qi ⟨w.heap.size+1,0,qc⟩) b 2]) (by simp [results,results240,go_sem,t]) rfl ⟨_,_,_,rfl,r.o,s.o⟩
end R1
namespace R11
open Go Go.RowKit R5
end R11
section
open Go Go.RowKit R5
def qaf(E F:Nat)(neg:Bool)(s:ByteArray)(x:Int)(mode:Nat):Nat × Nat:=
 q0V E F neg neg mode (dvk s s.size*t10 x) (t10 (-x))
def qdY(E F:Int)(kind:Nat)(neg dneg:Bool)(s:ByteArray)(x:Int)(hneg:Bool)(n:Nat)(xs:List Nat)(hx:Int)(p mode:Nat):Nat × Nat × Nat:=
 if R3.formOk E F=qe then(0,0,5)
 else if qdv kind neg dneg s x hneg n xs hx p=qe then(0,0,110)
 else if 4<mode then(0,0,7)
 else if kind=1 then((qaf E.toNat F.toNat dneg s x mode).1,(qaf E.toNat F.toNat dneg s x mode).2,0)
 else if kind=2 then((q0V E.toNat F.toNat hneg neg mode (val xs*p2 hx) (p2 (-hx))).1,(q0V E.toNat F.toNat hneg neg mode (val xs*p2 hx) (p2 (-hx))).2,0)
 else if kind=3 then(sgb E.toNat F.toNat neg+(2^E.toNat-1)*2^F.toNat,0,0)
 else if 2^(F.toNat-1)<=p then(0,0,115)
 else(sgb E.toNat F.toNat neg+((2^E.toNat-1)*2^F.toNat+(2^(F.toNat-1)+p)),0,0)
def qdR(o:Nat × Nat × Nat)(w:qf)(e:Ending)(w':qf):Prop:=e=.returned (.tuple #[.int .u64 (o.1:Int),.int .u8 (o.2.1:Int),.int .i64 (o.2.2:Int)])/\qg w.heap.size w w'
end
namespace R16
open Go Go.RowKit R5
theorem bytes_none(h:s.size=0):s=⟨#[]⟩:=by have a:s.data.size=0:=h;have b:=Array.eq_empty_of_size_eq_zero a;cases s;simp_all
theorem natOk_facts(h:q2A n xs=qj):n<=16384/\(n=0\/nth xs (n-1)≠0):=by unfold q2A at h;simp only[k13,k2e,k12] at h;exact h
end R16
namespace R1
open Go Go.RowKit
end R1
namespace Fms
open Go Go.RowKit R5
theorem qaS:∀n:Fin 64,bits .andNot .u64 18446744073709551615 (IntKind.u64.wrap (18446744073709551615*2^n.val))=((R3.tw n.val-1:Nat):Int):=by decide +kernel
theorem qdy(n:Nat)(w:qf)(hn:n<=63):qk qd 132 #[.int .i64 (n:Int)] w fun e w'=>e=.returned (.int .u64 ((R3.tw n-1:Nat):Int))/\w=w':=by have a:=vv (qaS ⟨n,by omega⟩);go_enter func132,ntmps132;go_wp2;go_ret;exact⟨q0X a.o,rfl⟩
abbrev qe1(E F:Int):qs:=.agg #[.int .i64 0,.int .i64 F,.int .i64 F,.int .i64 E,.int .i64 (F+E),.int .i64 1]
structure LayBox(w:qf)(g:Nat)(E F:Int):Prop where
 c0:w.cell? ⟨g,0,qc⟩=qi (.int .i64 0)
 c1:w.cell? ⟨g,1,qc⟩=qi (.int .i64 F)
 c2:w.cell? ⟨g,2,qc⟩=qi (.int .i64 F)
 c3:w.cell? ⟨g,3,qc⟩=qi (.int .i64 E)
 c4:w.cell? ⟨g,4,qc⟩=qi (.int .i64 (F+E))
 c5:w.cell? ⟨g,5,qc⟩=qi (.int .i64 1)
 lt:g<w.heap.size
theorem LayBox.made(w:qf)(E F:Int)(t:TypeId):LayBox (w.alloc (.cells #[.int .i64 0,.int .i64 F,.int .i64 F,.int .i64 E,.int .i64 (F+E),.int .i64 1] t)) w.heap.size E F:=by constructor<;>first|(simp only[World.cell?];rw[qh];rfl)|simp
theorem LayBox.below(h:LayBox w g E F)(hb:qg w.heap.size w w'):LayBox w' g E F:=⟨(hb.cell (p:=⟨g,0,qc⟩) h.lt).trans h.c0,(hb.cell (p:=⟨g,1,qc⟩) h.lt).trans h.c1,(hb.cell (p:=⟨g,2,qc⟩) h.lt).trans h.c2,(hb.cell (p:=⟨g,3,qc⟩) h.lt).trans h.c3,(hb.cell (p:=⟨g,4,qc⟩) h.lt).trans h.c4,(hb.cell (p:=⟨g,5,qc⟩) h.lt).trans h.c5,k03 h.lt hb.size⟩
theorem qcv(E F:Nat)(w:qf)(h2:E<=11)(h4:F<=52):qk qd 62 #[fm E F] w fun e w'=>e=.returned (qe1 E F)/\qg w.heap.size w w':=by
 have a:(E:Int)<=11:=by omega
 have b:(F:Int)<=52:=by omega
 clear h2 h4;go_enter func62,ntmps62;go_wp2;exact ql (v:=qe1 E F) (by simp [results,results62,go_sem]) rfl ⟨rfl,((qb _ _).alloc lr _).alloc (by simp) _⟩
theorem Check(E F:Int)(w:qf):qk qd 32 #[fm E F] w fun e w'=>e=.returned (.int .i64 (R3.chk E F))/\qg w.heap.size w w':=by
 by_cases h1:E<2
 ·have a:qm (R3.formOk E F=qe):=vv (by unfold R3.formOk;rw[k02 (p:=2<=E) (by omega)];rfl);have b:qa (E<2)=qj:=k04 h1;clear h1;go_enter func32,ntmps32;go_wp2;go_ret;exact⟨q0X (R3.chk_no a.o).symm,(qb _ _).alloc lr _⟩
 have b:qa (E<2)=qe:=k02 h1;by_cases h2:11<E
 ·have a:qm (R3.formOk E F=qe):=vv (by unfold R3.formOk;rw[k02 (p:=E<=11) (by omega)];simp);have c:qa (11<E)=qj:=k04 h2;clear h1 h2;go_enter func32,ntmps32;go_wp2;go_ret;exact⟨q0X (R3.chk_no a.o).symm,(qb _ _).alloc lr _⟩
 have c:qa (11<E)=qe:=k02 h2;by_cases h3:F<1
 ·have a:qm (R3.formOk E F=qe):=vv (by unfold R3.formOk;rw[k02 (p:=1<=F) (by omega)];simp);have d:qa (F<1)=qj:=k04 h3;clear h1 h2 h3;go_enter func32,ntmps32;go_wp2;go_ret;exact⟨q0X (R3.chk_no a.o).symm,(qb _ _).alloc lr _⟩
 have d:qa (F<1)=qe:=k02 h3;by_cases h4:52<F
 ·have a:qm (R3.formOk E F=qe):=vv (by unfold R3.formOk;rw[k02 (p:=F<=52) (by omega)];simp);have f:qa (52<F)=qj:=k04 h4;clear h1 h2 h3 h4;go_enter func32,ntmps32;go_wp2;go_ret;exact⟨q0X (R3.chk_no a.o).symm,(qb _ _).alloc lr _⟩
 have f:qa (52<F)=qe:=k02 h4;have a:qm (R3.formOk E F=qj):=vv (by unfold R3.formOk;rw[k04 (p:=2<=E) (by omega),k04 (p:=E<=11) (by omega),k04 (p:=1<=F) (by omega),k04 (p:=F<=52) (by omega)];rfl);clear h1 h2 h3 h4;go_enter func32,ntmps32;go_wp2;go_ret;exact⟨q0X (R3.chk_ok a.o).symm,(qb _ _).alloc lr _⟩
theorem formOk_in{E F:Nat}(h1:2<=E)(h2:E<=11)(h3:1<=F)(h4:F<=52):R3.formOk (E:Int) (F:Int)=qj:=by unfold R3.formOk;rw[k04 (p:=(2:Int)<=E) (by omega),k04 (p:=(E:Int)<=11) (by omega),k04 (p:=(1:Int)<=F) (by omega),k04 (p:=(F:Int)<=52) (by omega)];rfl
end Fms
namespace Dec
open Go Go.RowKit R5
theorem q8R(h1:48<=c)(h2:c<=57):qa (9<((c:Int)-48)%256)=qe:=k02 (by omega)
theorem q8Q(h:c<256)(h1:¬(48<=c/\c<=57)):qa (9<((c:Int)-48)%256)=qj:=k04 (by omega)
theorem qae(s:ByteArray)(w:qf)(hsz:s.size<=65536):qk qd 49 #[.string s] w fun e w'=>e=.returned (.bool (q3v s))/\w=w':=by
 have m:(s.size:Int)<=65536:=by omega
 clear hsz;go_enter func49,ntmps49;go_wp2;go_loop [6] (fun t=>∃k:Nat,k<=s.size/\t=.int .i64 k/\(∀j (h:j<s.size),j<k->48<=s[j].toNat/\s[j].toNat<=57)) (fun t=>s.size-(intOf t).toNat)
 case atStart=>exact⟨0,k0x _,rfl,fun j _ h=>absurd h (by omega)⟩
 case round =>
  obtain⟨k,f,rfl,a⟩:=hrel;have b:=vv a;clear a;by_cases hks:k<s.size
  ·by_cases hd:48<=s[k].toNat/\s[k].toNat<=57
   ·have g:=vv hd;have d:=q8R hd.1 hd.2;clear hd;go_wp2;go_round
    case rel =>
     refine⟨k+1,by omega,by go_num,fun j h hj=>?_⟩;rcases(by omega:j<k\/j=k) with h|rfl
     ·exact b.o j _ h
     ·exact g.o
    case measure=>simp [intOf];omega
   ·have i:=vv (q5D hks hd);have d:=q8Q (UInt8.toNat_lt _) hd;clear hd;go_wp2;go_ret;exact⟨q56 i.o.symm,rfl⟩
  ·have c:k=s.size:=by omega
   subst c;have l:qm (q3v s=qj):=vv (q2g.2 (fun j h=>b.o j h h));clear f hks;go_wp2;go_ret;exact⟨q56 l.o.symm,rfl⟩
def farB(x:Int):Bool:=qa (x < -1073741824) || decide (1073741824<x)
theorem far(x:Int)(w:qf):qk qd 50 #[.int .i64 x] w fun e w'=>e=.returned (.bool (farB x))/\w=w':=by
 by_cases h1:x < -1073741824
 ·have a:qm (farB x=qj):=vv (by unfold farB;rw[k04 h1];rfl);have b:qa (x < -1073741824)=qj:=k04 h1;clear h1;go_enter func50,ntmps50;go_wp2;go_ret;exact⟨q56 a.o.symm,rfl⟩
 ·have a:qm (farB x=qa (1073741824<x)):=vv (by unfold farB;rw[k02 h1];rfl);have b:qa (x < -1073741824)=qe:=k02 h1;clear h1;go_enter func50,ntmps50;go_wp2;go_ret;exact⟨q56 a.o.symm,rfl⟩
def q1R(s:ByteArray)(x:Int):Int:=if 65536<s.size then 4 else if q1j s x then 0 else 100
theorem q4W(h:s.size<=65536)(hd:q1j s x=qe):q1R s x=100:=by unfold q1R;rw[k0r (by omega),hd];rfl
theorem decErr_yes(h:s.size<=65536)(hd:q1j s x=qj):q1R s x=0:=by unfold q1R;rw[k0r (by omega),hd];rfl
theorem q6S(h:s.size<=65536)(h0:0<s.size):q1j s x=(q3v s && !qa (q3z s 0=48) && !qa (q3z s (s.size-1)=48) && !farB x):=by
 unfold q1j farB;rw[k04 h,k0r (by omega)];by_cases h1:x < -1073741824
 ·rw[k04 h1,k02 (p:=-1073741824<=x) (by omega)];simp
 ·rw[k02 h1,k04 (p:=-1073741824<=x) (by omega)];by_cases h2:1073741824<x
  ·rw[k04 h2,k02 (p:=x<=1073741824) (by omega)];simp
  ·rw[k02 h2,k04 (p:=x<=1073741824) (by omega)];simp
theorem q73(neg:Bool)(s:ByteArray)(x:Int)(w:qf)(h:65536<s.size)(hmax:(s.size:Int)<=4611686018427387904):qk qd 18 #[q3J neg s x] w fun e w'=>e=.returned (.int .i64 (q1R s x))/\qg w.heap.size w w':=by have a:qm (q1R s x=4):=vv (by unfold q1R;rw[k0p h]);have b:qa ((65536:Int)<(s.size:Int))=qj:=k04 (by omega);clear h;go_enter func18,ntmps18;go_wp2;go_ret;exact⟨q0X a.o.symm,(qb _ _).alloc lr _⟩
theorem q72(neg:Bool)(x:Int)(w:qf):qk qd 18 #[q3J neg ⟨#[]⟩ x] w fun e w'=>e=.returned (.int .i64 (q1R ⟨#[]⟩ x))/\qg w.heap.size w w':=by
 have a:q1j ⟨#[]⟩ x=(x==0):=by
  unfold q1j;by_cases h:x=0
  ·subst h;rfl
  ·have e:(x==0)=qe:=by rw[k05];exact h
   rw[e,k0p (by rfl),k02 h];simp
 cases t:(x==0)
 ·rw[t] at a;have b:=vv (q4W (s:=⟨#[]⟩) (x:=x) (by decide) a);clear a;go_enter func18,ntmps18;go_wp2;go_ret;exact⟨q0X b.o.symm,(qb _ _).alloc lr _⟩
 ·rw[t] at a;have b:=vv (decErr_yes (s:=⟨#[]⟩) (x:=x) (by decide) a);clear a;go_enter func18,ntmps18;go_wp2;go_ret;exact⟨q0X b.o.symm,(qb _ _).alloc lr _⟩
theorem q71(neg:Bool)(s:ByteArray)(x:Int)(w:qf)(h:s.size<=65536)(h0:0<s.size):qk qd 18 #[q3J neg s x] w fun e w'=>e=.returned (.int .i64 (q1R s x))/\qg w.heap.size w w':=by
 have m:=q6S (x:=x) h h0;have t:qa ((65536:Int)<(s.size:Int))=qe:=k02 (by omega);have u:((s.size:Int)==0)=qe:=by rw[k05];omega
 have r:(s.size:Int)<=65536:=by omega
 have b:=vv fun w=>qae s w h
 have i:=vv fun(hd:q1j s x=qe)=>q4W h hd
 have n:=vv fun(hd:q1j s x=qj)=>decErr_yes h hd
 have k:=(qb w.heap.size w).alloc (o:=.cells #[.bool neg,.string s,.int .i64 x] 27) lr;have c:=DecBox.made w neg s x 27;obtain⟨v,l⟩:=yx (w.alloc (.cells #[.bool neg,.string s,.int .i64 x] 27));rw[<- l] at k c;have f:=vv k;have d:=vv l;have y:=c.c1;have z:=c.c2;have C:=c.lt;have p:s.size-1<s.size:=by omega
 rw[q2H h0,q2H p] at m;have g:=vv m;clear l k c h m;cases hdg:q3v s
 ·rw[hdg] at b;have a:=vv (i.o (by rw[g.o,hdg];rfl));clear hdg;go_enter func18,ntmps18;go_wp2_with fail;rw[<- d.o];go_wp2_with fail;refine(b.o _).mono ?_;rintro e w' ⟨rfl,rfl⟩;go_wp2;go_ret;exact⟨q0X a.o.symm,f.o⟩
 rw[hdg] at b;by_cases e0:s[0].toNat=48
 ·have a:=vv (i.o (by rw[g.o,k04 e0];simp));clear hdg;go_enter func18,ntmps18;go_wp2_with fail;rw[<- d.o];go_wp2_with fail;refine(b.o _).mono ?_;rintro e w' ⟨rfl,rfl⟩;go_wp2;go_ret;exact⟨q0X a.o.symm,f.o⟩
 have D:((s[0].toNat:Int)==48)=qe:=by rw[k05];omega
 by_cases e1:s[s.size-1].toNat=48
 ·have a:=vv (i.o (by rw[g.o,k04 e1];simp));have q:((s[s.size-1].toNat:Int)==48)=qj:=by rw[e1];rfl
  clear hdg e0 e1;go_enter func18,ntmps18;go_wp2_with fail;rw[<- d.o];go_wp2_with fail;refine(b.o _).mono ?_;rintro e w' ⟨rfl,rfl⟩;go_wp2;go_ret;exact⟨q0X a.o.symm,f.o⟩
 have q:((s[s.size-1].toNat:Int)==48)=qe:=by rw[k05];omega
 have j:=vv fun w=>far x w
 cases hf:farB x
 ·rw[hf] at j;have a:=vv (n.o (by rw[g.o,hdg,hf,k02 e0,k02 e1];rfl));clear hdg hf e0 e1;go_enter func18,ntmps18;go_wp2_with fail;rw[<- d.o];go_wp2_with fail;refine(b.o _).mono ?_;rintro e w' ⟨rfl,rfl⟩;go_wp2_with fail;refine(j.o _).mono ?_;rintro e w' ⟨rfl,rfl⟩;go_wp2;go_ret;exact⟨q0X a.o.symm,f.o⟩
 ·rw[hf] at j;have a:=vv (i.o (by rw[g.o,hf];simp));clear hdg hf e0 e1;go_enter func18,ntmps18;go_wp2_with fail;rw[<- d.o];go_wp2_with fail;refine(b.o _).mono ?_;rintro e w' ⟨rfl,rfl⟩;go_wp2_with fail;refine(j.o _).mono ?_;rintro e w' ⟨rfl,rfl⟩;go_wp2;go_ret;exact⟨q0X a.o.symm,f.o⟩
theorem Check(neg:Bool)(s:ByteArray)(x:Int)(w:qf)(hmax:(s.size:Int)<=4611686018427387904):qk qd 18 #[q3J neg s x] w fun e w'=>e=.returned (.int .i64 (q1R s x))/\qg w.heap.size w w':=by
 by_cases h:s.size<=65536
 ·by_cases h0:0<s.size
  ·exact q71 neg s x w h h0
  ·have e:s=⟨#[]⟩:=R16.bytes_none (by omega);rw[e];exact q72 neg x w
 ·exact q73 neg s x w (by omega) hmax
end Dec
namespace Nat_
open Go Go.RowKit R5
def natErr(n:Nat)(xs:List Nat):Int:=if 16384<n then 4 else if q2A n xs then 0 else 10
theorem natErr_ok(h:q2A n xs=qj):natErr n xs=0:=by unfold natErr;have:=(R16.natOk_facts h).1;rw[k0r (by omega),h];rfl
theorem natErr_zero(n:Nat)(xs:List Nat):(natErr n xs==0)=q2A n xs:=by
 unfold natErr;by_cases h:16384<n
 ·rw[k0p h];unfold q2A;rw[k02 (p:=n<=16384) (by omega)];rfl
 ·rw[k0r h];cases q2A n xs<;>rfl
theorem Check(A:Option qo)(n c:Nat)(xs:List Nat)(w:qf)(hr:Rd w A n c xs):qk qd 118 #[q0x A n c] w fun e w'=>e=.returned (.int .i64 (natErr n xs))/\qg w.heap.size w w':=by
 have k:=hr.sm;by_cases h:16384<n
 ·have d:qm (natErr n xs=4):=vv (by unfold natErr;rw[k0p h]);have i:qa ((16384:Int)<(n:Int))=qj:=k04 (by omega);clear h hr;go_enter func118,ntmps118;go_wp2;go_ret;exact⟨q0X d.o.symm,(qb _ _).alloc lr _⟩
 have i:qa ((16384:Int)<(n:Int))=qe:=k02 (by omega);have l:(n:Int)<=16384:=by omega
 rcases k01 n with a|a
 ·subst a;have d:qm (natErr 0 xs=0):=vv rfl;clear h hr;go_enter func118,ntmps118;go_wp2;go_ret;exact⟨q0X d.o.symm,(qb _ _).alloc lr _⟩
 obtain⟨m,rfl⟩:∃m,n=m+1:=⟨n-1,by omega⟩;obtain⟨b,off,rfl,r,g⟩:=hr.cell a;have hx:=g m (by omega);have s:(m:Int)+1<=16384:=by omega
 have t:((m:Int)+1==0)=qe:=by rw[k05];omega
 have j:qm (natErr (m+1) xs=if nth xs m=0 then 10 else 0):=vv (by
  unfold natErr;rw[k0r h];unfold q2A;rw[k04 (p:=m+1<=16384) (by omega),k02 (p:=m+1=0) (by omega),k0T];by_cases hz:nth xs m=0
  ·rw[k0p hz,k02 (p:=nth xs m≠0) (by omega)];rfl
  ·rw[k0r hz,k04 (p:=nth xs m≠0) hz];rfl)
 have u:qa ((16384:Int)<(m:Int)+1)=qe:=k02 (by omega);have v:qa ((0:Int)<(m:Int)+1)=qj:=k04 (by omega);clear h g hr a l i k;by_cases hz:nth xs m=0
 ·have f:qm (natErr (m+1) xs=10):=vv (by rw[j.o,k0p hz]);have q:(((nth xs m:Nat):Int)==0)=qj:=by rw[hz];rfl
  clear hz;go_enter func118,ntmps118;go_wp2;go_ret;exact⟨q0X f.o.symm,(qb _ _).alloc lr _⟩
 ·have f:qm (natErr (m+1) xs=0):=vv (by rw[j.o,k0r hz]);have q:(((nth xs m:Nat):Int)==0)=qe:=by rw[k05];omega
  clear hz;go_enter func118,ntmps118;go_wp2;go_ret;exact⟨q0X f.o.symm,(qb _ _).alloc lr _⟩
end Nat_
namespace Exa
open Go Go.RowKit R5
theorem none_(A:Option qo)(n c:Nat)(w:qf):qk qd 133 #[q0x A n c] w fun e w'=>e=.returned (.bool ((n:Int)==0))/\qg w.heap.size w w':=by go_enter func133,ntmps133;go_wp2;go_ret;exact⟨rfl,(qb _ _).alloc lr _⟩
theorem far(x:Int)(w:qf):qk qd 135 #[.int .i64 x] w fun e w'=>e=.returned (.bool (Dec.farB x))/\w=w':=by
 by_cases h1:x < -1073741824
 ·have a:qm (Dec.farB x=qj):=vv (by unfold Dec.farB;rw[k04 h1];rfl);have b:qa (x < -1073741824)=qj:=k04 h1;clear h1;go_enter func135,ntmps135;go_wp2;go_ret;exact⟨q56 a.o.symm,rfl⟩
 ·have a:qm (Dec.farB x=qa (1073741824<x)):=vv (by unfold Dec.farB;rw[k02 h1];rfl);have b:qa (x < -1073741824)=qe:=k02 h1;clear h1;go_enter func135,ntmps135;go_wp2;go_ret;exact⟨q56 a.o.symm,rfl⟩
def q1r(neg:Bool)(n:Nat)(xs:List Nat)(x:Int):Int:=
 if q2A n xs=qe then Nat_.natErr n xs else if twoOk neg n xs x then 0 else 40
theorem q5B(neg:Bool)(n:Nat)(xs:List Nat)(x:Int):(q1r neg n xs x==0)=twoOk neg n xs x:=by
 unfold q1r;cases h:q2A n xs
 ·rw[k0p rfl,Nat_.natErr_zero,h];unfold twoOk;rw[h];rfl
 ·rw[k0r (by decide)];cases twoOk neg n xs x<;>rfl
theorem q2i(A:Option qo)(c:Nat)(w:qf):qk qd 133 #[q0x A 0 c] w fun e w'=>e=.returned (.bool qj)/\qg w.heap.size w w':=none_ A 0 c w
theorem q11(A:Option qo)(n c:Nat)(w:qf)(h:0<n):qk qd 133 #[q0x A n c] w fun e w'=>e=.returned (.bool qe)/\qg w.heap.size w w':=by
 have e:((n:Int)==0)=qe:=by rw[k05];omega
 have:=none_ A n c w;rw[e] at this;exact this
theorem Check(neg:Bool)(A:Option qo)(n c:Nat)(xs:List Nat)(x:Int)(w:qf)(hr:Rd w A n c xs):qk qd 66 #[q0q neg A n c x] w fun e w'=>e=.returned (.int .i64 (q1r neg n xs x))/\qg w.heap.size w w':=by
 have t:=vv fun w' (h:qg w.heap.size w w')=>Nat_.Check A n c xs w' (hr.below h rfl)
 obtain⟨T,H⟩:=yx (w.alloc (.cells #[.bool neg,.slice A n c,.int .i64 x] 62));have O:qg w.heap.size w T:=by rw[H];exact(qb _ w).alloc lr _
 have I:DyadBox T w.heap.size neg A n c x:=by rw[H];exact DyadBox.made w _ _ _ _ _ _
 have d:=vv I;have a:=vv O;have z:=vv H;have i:=I.c1;have j:=I.lt;clear H O I;cases hok:q2A n xs
 ·have l:qm (q1r neg n xs x=Nat_.natErr n xs):=vv (by unfold q1r;rw[k0p hok]);obtain⟨v,u⟩:=yx (Nat_.natErr n xs);have Y:(v != 0)=qj:=by have:=Nat_.natErr_zero n xs;rw[<- u,hok] at this;rw[bne,this];rfl
  rw[<- u] at t l;clear u hok;go_enter func66,ntmps66;go_wp2_with fail;rw[<- z.o];refine(t.o _ a.o).mono ?_;rintro e D ⟨rfl,f⟩;have a:=vn a f;clear f;go_wp2;go_ret;exact⟨q0X l.o.symm,a.o⟩
 have l:qm (q1r neg n xs x=if twoOk neg n xs x then 0 else 40):=vv (by unfold q1r;rw[k0r (by rw[hok];decide)]);have P:twoOk neg n xs x=(qa (x<=1073741824) && qa (-1073741824<=x) && (if n=0 then qa (x=0) && !neg else qa (nth xs 0%2=1))):=by unfold twoOk;rw[hok];rfl
 have y:=vv P;rw[Nat_.natErr_ok hok] at t;have U:=(R16.natOk_facts hok).1;have Z:(n:Int)<=16384:=by omega
 clear P U hok;rcases k01 n with E|E
 ·subst E;have r:=vv fun w=>q2i A c w
  cases neg
  ·cases tx:(x==0)
   ·have s:qm (q1r qe 0 xs x=40):=vv (by
     have hx:x≠0:=by rw[k05] at tx;exact tx
     rw[l.o,y.o,k0p rfl,k02 hx];simp)
    have a0:(x != 0)=qj:=by rw[bne,tx];rfl
    clear l y;go_enter func66,ntmps66;go_wp2_with fail;rw[<- z.o];refine(t.o _ a.o).mono ?_;rintro e D ⟨rfl,f⟩;have d:=vv (d.o.below f);have a:=vn a f;obtain⟨m,i,q,j⟩:=d.o;clear f;go_wp2_with fail;refine(r.o _).mono ?_;rintro e G ⟨rfl,g⟩;have d:=vv (d.o.below g);have a:=vn a g;obtain⟨m,i,q,j⟩:=d.o;clear g;go_wp2;go_ret;exact⟨q0X s.o.symm,a.o⟩
   ·have hx:x=0:=by rw[k1D] at tx;exact tx
    subst hx;have s:qm (q1r qe 0 xs 0=0):=vv (by rw[l.o,y.o,k0p rfl];rfl);clear l y;go_enter func66,ntmps66;go_wp2_with fail;rw[<- z.o];refine(t.o _ a.o).mono ?_;rintro e D ⟨rfl,f⟩;have d:=vv (d.o.below f);have a:=vn a f;obtain⟨m,i,q,j⟩:=d.o;clear f;go_wp2_with fail;refine(r.o _).mono ?_;rintro e G ⟨rfl,g⟩;have d:=vv (d.o.below g);have a:=vn a g;obtain⟨m,i,q,j⟩:=d.o;clear g;go_wp2_with fail;refine(r.o _).mono ?_;rintro e N ⟨rfl,k⟩;have d:=vv (d.o.below k);have a:=vn a k;obtain⟨m,i,q,j⟩:=d.o;clear k;go_wp2;go_ret;exact⟨q0X s.o.symm,a.o⟩
  ·have s:qm (q1r qj 0 xs x=40):=vv (by rw[l.o,y.o,k0p rfl];simp);clear l y;go_enter func66,ntmps66;go_wp2_with fail;rw[<- z.o];refine(t.o _ a.o).mono ?_;rintro e D ⟨rfl,f⟩;have d:=vv (d.o.below f);have a:=vn a f;obtain⟨m,i,q,j⟩:=d.o;clear f;go_wp2_with fail;refine(r.o _).mono ?_;rintro e G ⟨rfl,g⟩;have d:=vv (d.o.below g);have a:=vn a g;obtain⟨m,i,q,j⟩:=d.o;clear g;go_wp2;go_ret;exact⟨q0X s.o.symm,a.o⟩
 have r:=vv fun w=>q11 A n c w E
 obtain⟨b,off,rfl,Q,R⟩:=hr.cell E;have L:=R 0 E;rw[k1u] at L;have J:=vv L;have F:=hr.nth_lt 0;have M:=vv Q;have C:qm (twoOk neg n xs x=(qa (nth xs 0%2=1) && !Dec.farB x)):=vv (by
  rw[y.o,k0r (by omega)];unfold Dec.farB;by_cases q1:x < -1073741824
  ·rw[k04 q1,k02 (p:=-1073741824<=x) (by omega)];simp
  ·rw[k02 q1,k04 (p:=-1073741824<=x) (by omega)];by_cases q2:1073741824<x
   ·rw[k04 q2,k02 (p:=x<=1073741824) (by omega)];simp
   ·rw[k02 q2,k04 (p:=x<=1073741824) (by omega)];simp)
 have V:qa ((0:Int)<(n:Int))=qj:=k04 (by omega);clear y R hr E Q L;have K:=vv fun w=>far x w
 obtain⟨v,u⟩:=yx (nth xs 0);rw[<- u] at J C F;have S:qm (bits .and .u32 (v:Int) 1=((v%2:Nat):Int)):=vv (by have:=u32_and_nat v 1 F (by omega);rw[Nat.and_one_is_mod] at this;exact this);have a1:(0:Int)<(n:Int):=by simpa using V
 clear u;by_cases hp:v%2=0
 ·have s:qm (q1r neg n xs x=40):=vv (by rw[l.o,C.o,k02 (p:=v%2=1) (by omega)];rfl);have W:(bits .and .u32 (v:Int) 1==0)=qj:=by rw[S.o,hp];rfl
  have X:((v:Int)%2==0)=qj:=by rw[k1D];omega
  clear hp l C F;go_enter func66,ntmps66;go_wp2_with fail;rw[<- z.o];refine(t.o _ a.o).mono ?_;rintro e D ⟨rfl,f⟩;have d:=vv (d.o.below f);have a:=vn a f;obtain⟨m,i,q,j⟩:=d.o;clear f;go_wp2_with fail;refine(r.o _).mono ?_;rintro e G ⟨rfl,g⟩;have d:=vv (d.o.below g);have a:=vn a g;obtain⟨m,i,q,j⟩:=d.o;clear g;go_wp2_with fail;refine(r.o _).mono ?_;rintro e N ⟨rfl,k⟩;have d:=vv (d.o.below k);have a:=vn a k;obtain⟨m,i,q,j⟩:=d.o;clear k;have u:=(a.o.cell (p:=⟨b,off,qc⟩) M.o).trans J.o;go_wp2;go_ret;exact⟨q0X s.o.symm,a.o⟩
 have W:(bits .and .u32 (v:Int) 1==0)=qe:=by rw[S.o,k05];omega
 have X:((v:Int)%2==0)=qe:=by rw[k05];omega
 cases hf:Dec.farB x
 ·rw[hf] at K;have s:qm (q1r neg n xs x=0):=vv (by rw[l.o,C.o,hf,k04 (p:=v%2=1) (by omega)];rfl);clear hp l C F hf;go_enter func66,ntmps66;go_wp2_with fail;rw[<- z.o];refine(t.o _ a.o).mono ?_;rintro e D ⟨rfl,f⟩;have d:=vv (d.o.below f);have a:=vn a f;obtain⟨m,i,q,j⟩:=d.o;clear f;go_wp2_with fail;refine(r.o _).mono ?_;rintro e G ⟨rfl,g⟩;have d:=vv (d.o.below g);have a:=vn a g;obtain⟨m,i,q,j⟩:=d.o;clear g;go_wp2_with fail;refine(r.o _).mono ?_;rintro e N ⟨rfl,k⟩;have d:=vv (d.o.below k);have a:=vn a k;obtain⟨m,i,q,j⟩:=d.o;clear k;have u:=(a.o.cell (p:=⟨b,off,qc⟩) M.o).trans J.o;go_wp2_with fail;refine(K.o _).mono ?_;rintro e w' ⟨rfl,rfl⟩;go_wp2;go_ret;exact⟨q0X s.o.symm,a.o⟩
 ·rw[hf] at K;have s:qm (q1r neg n xs x=40):=vv (by rw[l.o,C.o,hf,k04 (p:=v%2=1) (by omega)];rfl);clear hp l C F hf;go_enter func66,ntmps66;go_wp2_with fail;rw[<- z.o];refine(t.o _ a.o).mono ?_;rintro e D ⟨rfl,f⟩;have d:=vv (d.o.below f);have a:=vn a f;obtain⟨m,i,q,j⟩:=d.o;clear f;go_wp2_with fail;refine(r.o _).mono ?_;rintro e G ⟨rfl,g⟩;have d:=vv (d.o.below g);have a:=vn a g;obtain⟨m,i,q,j⟩:=d.o;clear g;go_wp2_with fail;refine(r.o _).mono ?_;rintro e N ⟨rfl,k⟩;have d:=vv (d.o.below k);have a:=vn a k;obtain⟨m,i,q,j⟩:=d.o;clear k;have u:=(a.o.cell (p:=⟨b,off,qc⟩) M.o).trans J.o;go_wp2_with fail;refine(K.o _).mono ?_;rintro e w' ⟨rfl,rfl⟩;go_wp2;go_ret;exact⟨q0X s.o.symm,a.o⟩
end Exa
namespace Nat_
open Go Go.RowKit R5
theorem Rd.cap{A:Option qo}(h:Rd w A n c xs):Rd w A n n xs:=⟨h.len,lr,h.sm,h.lim,h.cell⟩
theorem trimmed(A:Option qo)(n c:Nat)(xs:List Nat)(w:qf)(hr:Rd w A n c xs):qk qd 125 #[.slice A n c] w fun e w'=>∃A' m,e=.returned (q0x A' m m)/\Rd w' A' m m (toL (val xs))/\(∀a,A'=qi a->A=qi a)/\qg w.heap.size w w':=by
 have K:=hr.sm;have L:=hr.len;have M:=hr.le;have f:=(qb w.heap.size w).alloc (o:=.cells #[.slice qc 0 0] 37) lr;have j:=NatCell.made w 37;obtain⟨r,s⟩:=yx (w.alloc (.cells #[.slice qc 0 0] 37));rw[<- s] at f j;have l:=hr.below f rfl;have F:=vv s;have D:=vv f;have z:=vv hr;have E:=j.c0;have fz:=j.fz;have Q:=j.lt;clear s j;go_enter func125,ntmps125;go_wp2_with fail;rw[<- F.o];go_loop [3] (fun t=>∃k:Nat,k<=n/\t=.int .i64 k/\∀i,k<=i->nth xs i=0) (fun t=>(intOf t).toNat)
 case atStart=>exact⟨n,lr,rfl,fun i hi=>q0U xs i (by omega)⟩
 case round =>
  obtain⟨k,R,rfl,q⟩:=hrel;have fin:∀m,m<=n->(∀i,m<=i->nth xs i=0)->(m=0\/nth xs (m-1)≠0)->Rd r A m c (toL (val xs)):=by intro m I d y;have e:=q1C hr.lim (n:=m) d (y.imp id fun h=>⟨by omega,h⟩);rw[<- e];exact l.take I
  have C:=vv fin;clear fin;rcases k01 k with rfl|N
  ·have u:=vv (C.o 0 (k0x _) q (.inl rfl));have x:=vv (D.o.setCell (p:=⟨w.heap.size,0,qc⟩) lr (.slice qc 0 0));have g:(r.setCell ⟨w.heap.size,0,qc⟩ (.slice qc 0 0)).cell? ⟨w.heap.size,0,qc⟩=qi (.slice qc 0 0):=q0v E;clear q l hr f;go_wp2;refine ql (v:=q0x qc 0 0) (by simp [results,results125,go_sem,g]) rfl ⟨qc,0,rfl,?_,fun a h=>(by cases h),x.o⟩;have e:toL (val xs)=[]:=k1G u.o.len;rw[e];exact Rd.nil _
  ·obtain⟨m,rfl⟩:∃m,k=m+1:=⟨k-1,by omega⟩;have G:=z.o;obtain⟨b,off,rfl,S,g⟩:=l.cell (by omega);have hx:=g m (by omega);clear g;by_cases d:nth xs m=0
   ·have y:(((nth xs m:Nat):Int)==0)=qj:=by rw[d];rfl
    have J:=vv d;clear d l hr f;go_wp2;go_round
    case rel=>exact⟨m,by omega,by go_num,fun i hi=>by
     rcases k1W hi with rfl|h
     ·exact J.o
     ·exact q i (by omega)⟩
    case measure=>simp [intOf]
   ·have y:(((nth xs m:Nat):Int)==0)=qe:=by rw[k05];omega
    have u:=vv (Rd.cap (C.o (m+1) (by omega) q (.inr d)));have O:b<w.heap.size:=by obtain⟨T,P,e,h,_⟩:=z.o.cell (by omega);cases e;exact h
    have x:=vv (D.o.setCell (p:=⟨w.heap.size,0,qc⟩) lr (.slice (qi ⟨b,off,qc⟩) (m+1) (m+1)));have g:(r.setCell ⟨w.heap.size,0,qc⟩ (.slice (qi ⟨b,off,qc⟩) (m+1) (m+1))).cell? ⟨w.heap.size,0,qc⟩=qi (.slice (qi ⟨b,off,qc⟩) (m+1) (m+1)):=q0v E;have H:qm (Rd (r.setCell ⟨w.heap.size,0,qc⟩ (.slice (qi ⟨b,off,qc⟩) (m+1) (m+1))) (qi ⟨b,off,qc⟩) (m+1) (m+1) (toL (val xs))):=vv (u.o.other _ _ _ (fun a e=>by cases e;show b≠w.heap.size;omega));clear d q l hr f G;go_wp2;exact ql (v:=q0x (qi ⟨b,off,qc⟩) (m+1) (m+1)) (by simp [results,results125,go_sem,g]) rfl ⟨qi ⟨b,off,qc⟩,m+1,rfl,H.o,fun a h=>by simpa using h,x.o⟩
theorem Of1(w:qf):qk qd 55 #[.int .u64 1] w fun e w'=>∃A,e=.returned (q0x A 1 1)/\Rd w' A 1 1 (toL 1)/\qg w.heap.size w w':=by
 go_enter func55,ntmps55;go_wp2_with fail;obtain⟨g,h⟩:=R1.two_words (w.alloc (.cells #[.slice qc 0 0] 37)) 1 0 (by omega) (by omega) 54;have j:=(NatCell.made w 37).below h;have k:=(qb w.heap.size w).alloc (o:=.cells #[.slice qc 0 0] 37) lr;have u:=vv j;have x:=vv (k.trans (h.mono (by simp)));have l:(w.alloc (.cells #[.slice qc 0 0] 37)).heap.size=w.heap.size+1:=by simp
 rw[l] at g;clear h j k l;refine(trimmed (qi ⟨w.heap.size+1,0,qc⟩) 2 2 [1,0] _ g).mono ?_;rintro e c ⟨b,m,rfl,i,n,d⟩;have y:m=1:=i.words.symm;subst y;have p:qm (Rd c b 1 1 (toL 1)):=vv i;have f:=vv (u.o.below d);have q:=vn x d;have z:=f.o.c0;have fz:=f.o.fz;have lt:=f.o.lt;have r:qm (Rd (c.setCell ⟨w.heap.size,0,qc⟩ (.slice b 1 1)) b 1 1 (toL 1)):=vv (p.o.other _ _ _ (fun a e=>by have:=n a e;cases this;simp));have s:qm (qg w.heap.size w (c.setCell ⟨w.heap.size,0,qc⟩ (.slice b 1 1))):=vv (q.o.setCell lr _);have t:(c.setCell ⟨w.heap.size,0,qc⟩ (.slice b 1 1)).cell? ⟨w.heap.size,0,qc⟩=qi (.slice b 1 1):=q0v z;clear d i n g;go_wp2;exact ql (v:=q0x b 1 1) (by simp [results,results55,go_sem,t]) rfl ⟨b,rfl,r.o,s.o⟩
end Nat_
namespace Rtp
open Go Go.RowKit R5
theorem qbU{W:List Nat}(hl:Lim W)(hv:val W=N)(hw:W.length=words N):W=toL N:=q3u hw fun i _=>by rw[q19,<- hv,q3l hl]
theorem q59(N:Nat):((bl N+7)/8+3)/4=words N:=by
 have b:=A.bl_words N;have a:N<4294967296^(((bl N+7)/8+3)/4):=by rw[qce];exact k03 (A.lt_bytes N) (k00 (by decide) (by omega))
 have c:=q15 a;omega
theorem qaY(g o:Nat)(u:Int)(w:qf)(h:IntAt w g o u)(sN:bl u.natAbs<=4294967296):qk qd 213 #[.pointer (qi ⟨g,o,qc⟩)] w fun e w'=>∃A n,e=.returned (q0x A n n)/\Rd w' A n n (toL u.natAbs)/\Fr w.heap.size A/\qg w.heap.size w w':=by
 obtain⟨K,l⟩:=yx (w.alloc (.cells #[.slice qc 0 0] 37));have M:qg w.heap.size w K:=by rw[l];exact(qb _ w).alloc lr _
 have c0:NatCell K w.heap.size:=by rw[l];exact NatCell.made _ _
 have V:=vv (A.Bytes g o u K (h.below M) sN);have X:=vv (q59 u.natAbs);obtain⟨N,hN⟩:=yx (u.natAbs);rw[<- hN] at V X sN ⊢;have b2:=vv l;have Y:=vv M;have b3:=vv c0;have b4:=vv sN;clear h l M c0 sN hN;go_enter func213,ntmps213;go_wp2_with fail;rw[<- b2.o];refine V.o.mono ?_;rintro e a ⟨B,m,rfl,hm,Z,G⟩;have a2:=vv Z;have b5:=vv G;have a3:=vv (b3.o.below G);have H:qm (w.heap.size<a.heap.size):=vv a3.o.lt;obtain⟨L,O⟩:=yx ((m+3)/4);have b6:qm (L=words N):=vv (by rw[O,hm];exact X.o);have d2:m<=4294967296:=by have:=b4.o;omega
 have a4:L<=35184372088832:=by omega
 have d3:(L:Int)<=35184372088832:=by omega
 have b7:((m:Int)+3)/4=(L:Int):=by omega
 have d4:(m:Int)<=4294967296:=by omega
 have d5:=AB.mk L a4;have HL:=vv O;have H1:qm (Own (a.alloc (.cells (madeCells #[.int .u32 0] L) 54)) a.heap.size 54 (List.replicate L 0)):=vv (Own.made a L 54);have H3:qm (qg a.heap.size a (a.alloc (.cells (madeCells #[.int .u32 0] L) 54))):=vv ((qb _ a).alloc lr _);clear Z G O hm;go_wp2;clear b7;go_loopw [17] (fun t wr=>∃(i:Nat) (W:List Nat),t=.int .i64 i/\i<=m/\Own wr a.heap.size 54 W/\W.length=L/\val W=hi N (m-i)/\qg a.heap.size a wr) (fun t _=>m-(intOf t).toNat)
 case atStart=>exact⟨0,List.replicate L 0,rfl,k0x _,H1.o,k0H,by rw[q0d,Nat.sub_zero,qa8 a2.o.lt],H3.o⟩
 case round =>
  obtain⟨i,W,rfl,b8,c,y,d,j⟩:=hrel;have a0:=vv c;have a5:=vv y;have HB:=vv j;by_cases him:i<m
  ·obtain⟨k,P⟩:=yx (m-1-i);have a6:val W=hi N (k+1):=by rw[d];congr 1;omega
   have d6:(m:Int)-1-(i:Int)=(k:Int):=by omega
   obtain⟨b,off,e,a7,a8⟩:=a2.o.cell (by omega);subst e;have a9:=(j.cell (p:=⟨b,off+i,qc⟩) a7).trans (a8 i him);rw[<- P] at a9;obtain⟨q,hq⟩:=yx (k/4);have d7:q<L:=by have:=HL.o;omega
   have I:q<W.length:=by omega
   have d8:(k:Int)/4=(q:Int):=by omega
   have c9:(k:Int)<=4294967296:=by omega
   have d0:(q:Int)<(L:Int):=by omega
   obtain⟨r,hr⟩:=yx (k%4);have d9:(k:Int).tmod 4=(r:Int):=by rw[k0Q (by omega)];omega
   have e0:IntKind.i64.wrap (q:Int)=(q:Int):=by rw[qq];omega
   have e1:(0:Int)<=(q:Int):=by omega
   obtain⟨s1,E,Q,F⟩:=q4Z c.2 I (show k=4*q+r by omega) (by omega) a6;have b1:=c.cell I;have e3:=c.frozen q;have e4:=c.lt;have R:=vv (c.set (x:=nth W q+bt N k*256^r) I E rfl);have b9:=qbj N k;obtain⟨C,S⟩:=yx (bt N k);obtain⟨x,hx⟩:=yx (nth W q);rw[<- S,<- hx] at s1 E F R;rw[<- S] at Q b9 a9;rw[<- hx] at b1;have e5:IntKind.u32.wrap (C:Int)=(C:Int):=by rw[qr];omega
   obtain⟨D,T⟩:=yx (C*256^r);rw[<- T] at s1 E Q F R;obtain⟨s,hs⟩:=yx (8*r);have e6:IntKind.i64.wrap (8*(r:Int))=(s:Int):=by rw[qq];omega
   have e7:(0:Int)<=(s:Int):=by omega
   have d1:(s:Int)<=32:=by omega
   have e8:IntKind.u32.wrap ((C:Int)*2^s)=(D:Int):=by
    have e:(C:Int)*2^s=(D:Int):=by
     have e2:(2:Int)^s=((256^r:Nat):Int):=by rw[hs,k0C,Int.pow_mul];rfl
     rw[e2,T,k0f]
    rw[e,qr];omega
   have c2:qm (hi N k=hi N (m-(i+1))):=vv (by rw[P];congr 1;omega);have c3:=vv F;clear a7 a8 j c a6 d y hr hq P S hx T hs E Q F;go_wp2;refine q02 (fun w'=>w'.cell? ⟨a.heap.size,q,qc⟩=qi (.int .u32 (x:Int))) 13
    (.still 0 (.still 1 (.still 2 (.still 3 (.still 4 (.still 5 (.still 6 (.still 7 (.still 8 (.still 9 (.still 10 (.still 11 (.still 12 .done))))))))))))) b1 (fun e9=>?_)
   iterate 13
    refine q03 ?_
   refine q08 ?_;go_wp2;go_roundw
   case rel=>exact⟨i+1,W.set q (x+D),by go_num,by omega,R.o,by rw[k0c];exact a5.o,c3.o.trans c2.o,(HB.o.drew).setCell lr _⟩
   case measure=>simp [intOf];omega
  ·obtain rfl:i=m:=by omega
   rw[Nat.sub_self,q81] at d;have J:=a3.o.below j;have c1:=J.c0;have l1:=J.lt;have f0:=J.fz;have a1:(i:Int)<=(i:Int):=Int.le_refl _;have c4:=vv (qbU c.2 d (by rw[y];exact b6.o));obtain⟨U,f⟩:=yx (wr.setCell ⟨w.heap.size,0,qc⟩ (.slice (qi ⟨a.heap.size,0,qc⟩) L L));have z:U.cell? ⟨w.heap.size,0,qc⟩=qi (.slice (qi ⟨a.heap.size,0,qc⟩) L L):=by rw[f];exact q0v c1
   have c5:qm (Rd U (qi ⟨a.heap.size,0,qc⟩) L L (toL N)):=vv (by rw[<- c4.o,f];exact(a0.o.setOther (by show a.heap.size≠w.heap.size;have:=H.o;omega) _).rd a5.o.symm lr a4);have c6:qm (qg w.heap.size w U):=vv (by rw[f];exact(Y.o.trans ((b5.o.mono Y.o.size).trans (HB.o.mono (by have:=H.o;omega)))).setCell lr _);have c7:=vv f;have c8:=vv z;clear c d y j him b8 a1 f z;go_wp2;rw[<- c7.o];have z:=c8.o;exact ql (v:=q0x (qi ⟨a.heap.size,0,qc⟩) L L) (by simp [results,results213,go_sem,z]) rfl ⟨_,_,rfl,c5.o,Fr.at_ (by show w.heap.size<=a.heap.size;have:=H.o;omega),c6.o⟩
end Rtp
namespace Lex
open Go Go.RowKit R5
theorem zero_or(p:Nat):(p=0/\((p:Int)==0)=qj)\/(p≠0/\((p:Int)==0)=qe):=by
 rcases k01 p with h|h
 ·exact .inl ⟨h,by rw[h];rfl⟩
 ·exact .inr ⟨by omega,by rw[k05];omega⟩
end Lex
end Go.Proofs.YtabcgemembkkcaaGreatDoor
