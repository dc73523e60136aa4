/- Lemmas. -/
import Derived.Test.YtabcgemembkkcaaGreatDoorDigsAX
set_option linter.all false
set_option maxRecDepth 100000
open Go.Proofs.Tryz
namespace Go.Proofs.YtabcgemembkkcaaGreatDoor
namespace Lex
open Go Go.RowKit R5
end Lex
namespace Rtp
open Go Go.RowKit R5
set_option maxHeartbeats 1000000 in
theorem q3G(Ad:Option Addr)(n c N:Nat)(w:World)(hr:Rd w Ad n c (toL N))(hn:n<=1000000):Calls Tryz.prog 119 #[q0x Ad n c] w (q0W (N:Int) w):=by
 obtain⟨k,r⟩:=yx (w.alloc (.cells #[.slice Ad n c] 37));have b0:Below w.heap.size w k:=by rw[r];exact(Below.refl _ w).alloc lr _
 have c0:k.cell? ⟨w.heap.size,0,none⟩=some (.slice Ad n c):=by rw[r];simp only[World.cell?];rw[heap_alloc_new];rfl
 have l0:w.heap.size<k.heap.size:=by rw[r];simp
 obtain⟨m,M⟩:=yx (4*n);have a1:m<=35184372088832:=by omega
 have e7:=A.mk8 m a1;have c6:4*(n:Int)=(m:Int):=by omega
 have e8:(m:Int)<=4000000:=by omega
 have e9:(n:Int)<=1000000:=by omega
 have a2:N<256^m:=by have:=q0p N;rw[hr.words,qce,<- M] at this;exact this
 have O:=vv M;have c7:=vv a2;have HR:=vv hr;have c8:=vv r;have a3:=vv b0;have s0:k.heap.size=w.heap.size+1:=by rw[r];simp
 have s:=q28.made k m 5;have X:=(Below.refl k.heap.size k).alloc (o:=.cells (madeCells #[.int .u8 0] m) 5) lr;rw[s0] at s X;have H1:=vv s;have H3:=vv X;clear s X s0;clear hr r b0 M a2;go_enter func119,ntmps119;go_wp2;rw[<- c8.o];clear c6 c0 l0;go_loopw [15] (fun t wr=>∃(i:Nat) (U:List Nat),t=.int .i64 i/\i<=n/\q28 wr (w.heap.size+1) 5 U/\U.length=m/\(∀j,m-4*i<=j->j<m->nth U j=bt N (m-1-j))/\Below (w.heap.size+1) k wr) (fun t _=>n-(intOf t).toNat)
 case atStart=>exact⟨0,List.replicate m 0,rfl,k0x _,H1.o,k0H,fun j s h2=>absurd s (by omega),H3.o⟩
 case round =>
  obtain⟨i,U,rfl,a4,q,P,Q,D⟩:=hrel;have a0:=vv q;have a5:=vv P;have a6:=vv Q;by_cases him:i<n
  ·obtain⟨b,off,e,a7,a8⟩:=HR.o.cell (by omega);subst e;have a9:b<w.heap.size+1:=by omega
   have c9:=(D.cell (p:=⟨b,off+i,none⟩) a9).trans ((a3.o.cell (p:=⟨b,off+i,none⟩) a7).trans (a8 i him));have b1:nth (toL N) i<4294967296:=HR.o.nth_lt i;have v:=q21 (q1H N) i 0 (by omega);have y:=q21 (q1H N) i 1 (by omega);have z:=q21 (q1H N) i 2 (by omega);have C:=q21 (q1H N) i 3 (by omega);rw[q04] at v y z C;rw[k0B,k1b] at v;rw[k1A] at y;rw[show 256^2=65536 from rfl] at z;rw[show 256^3=16777216 from rfl] at C;obtain⟨x,hx⟩:=yx (nth (toL N) i);obtain⟨f,R⟩:=yx (bt N (4*i+0));obtain⟨l,S⟩:=yx (bt N (4*i+1));obtain⟨u,T⟩:=yx (bt N (4*i+2));obtain⟨E,V⟩:=yx (bt N (4*i+3));rw[<- hx] at c9 b1 v y z C;rw[<- R] at v;rw[<- S] at y;rw[<- T] at z;rw[<- V] at C;have v0:(x:Int)%256=(f:Int):=by omega
   have v1:(x:Int)/256%256=(l:Int):=by omega
   have v2:(x:Int)/65536%256=(u:Int):=by omega
   have v3:(x:Int)/16777216=(E:Int):=by omega
   obtain⟨a,ha⟩:=yx (m-4*i);have d0:4<=a:=by have:=O.o;omega
   have d1:a<=m:=by omega
   obtain⟨p,hp⟩:=yx (a-4);have f0:(m:Int)-4*(i:Int)=(a:Int):=by have:=O.o;omega
   have q1:(a:Int)-1=((p+3:Nat):Int):=by omega
   have q2:(a:Int)-2=((p+2:Nat):Int):=by omega
   have q3:(a:Int)-3=((p+1:Nat):Int):=by omega
   have q4:(a:Int)-4=(p:Int):=by omega
   obtain⟨d,b2⟩:=yx (p+3);obtain⟨p2,b3⟩:=yx (p+2);obtain⟨g,b4⟩:=yx (p+1);rw[<- b2] at q1;rw[<- b3] at q2;rw[<- b4] at q3;have m1:(d:Int)<(m:Int):=by omega
   have m2:(p2:Int)<(m:Int):=by omega
   have m3:(g:Int)<(m:Int):=by omega
   have m4:(p:Int)<(m:Int):=by omega
   obtain⟨w1,I⟩:=yx (wr.setCell ⟨w.heap.size+1,d,none⟩ (.int .u8 (f:Int)));obtain⟨w2,J⟩:=yx (w1.setCell ⟨w.heap.size+1,p2,none⟩ (.int .u8 (l:Int)));obtain⟨w3,K⟩:=yx (w2.setCell ⟨w.heap.size+1,g,none⟩ (.int .u8 (u:Int)));have F:q28 w1 (w.heap.size+1) 5 (U.set d f):=by rw[I];exact q.set (by omega) rfl
   have G:q28 w2 (w.heap.size+1) 5 ((U.set d f).set p2 l):=by rw[J];exact F.set (by rw[k0c];omega) rfl
   have H:q28 w3 (w.heap.size+1) 5 (((U.set d f).set p2 l).set g u):=by rw[K];exact G.set (by simp only[k0c];omega) rfl
   have HS:=vv (H.set (i:=p) (x:=E) (by simp only[k0c];omega) rfl);have c1:=q.cell (i:=d) (by omega);have f1:=q.frozen d;have l1:=q.lt;have c2:=F.cell (i:=p2) (by simp only[k0c];omega);have f2:=F.frozen p2;have l2:=F.lt;have c3:=G.cell (i:=g) (by simp only[k0c];omega);have f3:=G.frozen g;have l3:=G.lt;have c4:=H.cell (i:=p) (by simp only[k0c];omega);have f4:=H.frozen p;have l4:=H.lt;have d2:Hid (Below (w.heap.size+1) k (w3.setCell ⟨w.heap.size+1,p,none⟩ (.int .u8 (E:Int)))):=vv (by rw[K,J,I];exact(((D.setCell lr _).setCell lr _).setCell lr _).setCell lr _);have d3:Hid (∀j,m-4*(i+1)<=j->j<m->nth ((((U.set d f).set p2 l).set g u).set p E) j=bt N (m-1-j)):=vv (fun j s h2=>by
    rw[q0H _ p E j (by simp only[k0c];omega),q0H _ g u j (by simp only[k0c];omega),q0H _ p2 l j (by simp only[k0c];omega),q0H _ d f j (by omega)];have M:=O.o;by_cases e4:j=p
    ·rw[k0p e4,V];congr 1;omega
    rw[k0r e4];by_cases e3:j=g
    ·rw[k0p e3,T];congr 1;omega
    rw[k0r e3];by_cases e2:j=p2
    ·rw[k0p e2,S];congr 1;omega
    rw[k0r e2];by_cases e1:j=d
    ·rw[k0p e1,R];congr 1;omega
    rw[k0r e1];exact a6.o j (by omega) h2)
   obtain⟨z1,b6⟩:=yx (nth U d);obtain⟨z2,b7⟩:=yx (nth (U.set d f) p2);obtain⟨z3,b8⟩:=yx (nth ((U.set d f).set p2 l) g);obtain⟨z4,b9⟩:=yx (nth (((U.set d f).set p2 l).set g u) p);rw[<- b6] at c1;rw[<- b7] at c2;rw[<- b8] at c3;rw[<- b9] at c4;clear b6 b7 b8 b9;have d4:=vv I;have d5:=vv J;have d6:=vv K;have f5:(x:Int)<=4294967295:=by omega
   have f6:(i:Int)<(n:Int):=by omega
   have f7:(i:Int)<=1000000:=by omega
   have e6:(a:Int)<=4000000:=by omega
   clear a7 a9 a8 D q Q P hx R S T V v y z C b1 ha hp b2 b3 b4 I J K F G H a4 him d0 d1;go_wp2_with (first|rw[<- d4.o]|rw[<- d5.o]|rw[<- d6.o]);go_roundw
   case rel=>exact⟨i+1,_,by go_num,by omega,HS.o,by simp only[k0c];exact a5.o,d3.o,d2.o⟩
   case measure=>simp [intOf];omega
  ·obtain rfl:i=n:=by omega
   have d7:Hid (Bd wr (some ⟨w.heap.size+1,0,none⟩) m m N):=vv (a0.o.bd a5.o.symm lr a1 c7.o (fun j h=>a6.o j (by have:=O.o;omega) h));have W:Hid (Below w.heap.size w wr):=vv (a3.o.trans (D.mono (by omega)));obtain⟨Y,L⟩:=yx (wr.alloc (.cells #[.bool false,.slice none 0 0] 142));have Z:Below wr.heap.size wr Y:=by rw[L];exact(Below.refl _ wr).alloc lr _
   have i5:IntAt Y wr.heap.size 0 0:=by rw[L];exact IntAt.zero wr _
   have d8:=vv (A.SetBytes wr.heap.size 0 0 _ m m N Y i5 (d7.o.below Z rfl) (by omega));have d9:=vv L;have c5:=vn W Z;clear q Q P D him a4 L Z i5;go_wp2_with fail;rw[<- d9.o];refine d8.o.mono ?_;rintro e w6 ⟨rfl,hI,hF⟩;have e0:=vv hI;have e5:Hid (Below w.heap.size w w6):=vv (Fm.below c5.o hF c5.o.size W.o.size);clear hI hF;go_wp2;go_ret;exact⟨_,rfl,W.o.size,e0.o,e5.o⟩
end Rtp
end Go.Proofs.YtabcgemembkkcaaGreatDoor
