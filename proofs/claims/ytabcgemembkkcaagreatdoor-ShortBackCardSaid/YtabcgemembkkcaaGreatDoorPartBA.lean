/- Lemmas. -/
import Derived.Test.YtabcgemembkkcaaGreatDoorPartAY
set_option linter.all false
set_option maxHeartbeats 1000000
set_option maxRecDepth 100000
open Go.Proofs.Tryz
open Go renaming RowKit.Below.refl->qa,World->qd,Calls->qe
open Go.Proofs.Tryz renaming prog->qb
open Decidable renaming decide->qc
namespace Go.Proofs.YtabcgemembkkcaaGreatDoor
namespace Lex
open Go Go.RowKit R5
end Lex
namespace Rtp
open Go Go.RowKit R5
theorem q3m(Ad:Option Addr)(n c N:Nat)(w:qd)(hr:Rd w Ad n c (toL N))(hn:n<=1000000):qe qb 119 #[q0N Ad n c] w (q18 (N:Int) w):=by
 obtain⟨k,r⟩:=yx (w.alloc (.cells #[.slice Ad n c] 37));have b0:Below w.heap.size w k:=by rw[r];exact(qa _ w).alloc lr _
 have c0:k.cell? ⟨w.heap.size,0,none⟩=some (.slice Ad n c):=by rw[r];simp only[World.cell?];rw[heap_alloc_new];rfl
 have l0:w.heap.size<k.heap.size:=by rw[r];simp
 obtain⟨m,M⟩:=yx (4*n);have a1:m<=35184372088832:=by omega
 have e7:=A.mk8 m a1;have c6:4*(n:Int)=(m:Int):=by omega
 have e8:(m:Int)<=4000000:=by omega
 have e9:(n:Int)<=1000000:=by omega
 have a2:N<256^m:=by have:=q0h N;rw[hr.words,qby,<- M] at this;exact this
 have O:=vv M;have c7:=vv a2;have HR:=vv hr;have c8:=vv r;have a3:=vv b0;have f0:=vv c0;have f5:=vv l0;have X:k.heap.size=w.heap.size+1:=by rw[r];simp
 have s:=q2n.made k m 5;have Y:=(qa k.heap.size k).alloc (o:=.cells (madeCells #[.int .u8 0] m) 5) lr;rw[X] at s Y;have H1:=vv s;have H3:=vv Y;have f6:=vv X;clear s Y X;clear hr r b0 M a2;go_enter func119,ntmps119;go_wp2;rw[<- c8.o];clear c6 c0 l0;go_loopw [15] (fun t wr=>∃(i:Nat) (U:List Nat),t=.int .i64 i/\i<=n/\q2n wr (w.heap.size+1) 5 U/\U.length=m/\(∀j,m-4*i<=j->j<m->nth U j=bt N (m-1-j))/\Below (w.heap.size+1) k wr) (fun t _=>n-(intOf t).toNat)
 case atStart=>exact⟨0,List.replicate m 0,rfl,k0x _,H1.o,k0K,fun j s h2=>absurd s (by omega),H3.o⟩
 case round =>
  obtain⟨i,U,rfl,a4,q,P,Q,u⟩:=hrel;have a0:=vv q;have a5:=vv P;have a6:=vv Q;have HB:=vv u;by_cases him:i<n
  ·obtain⟨b,off,e,a7,a8⟩:=HR.o.cell (by omega);subst e;have a9:b<w.heap.size+1:=by omega
   have c9:=(u.cell (p:=⟨b,off+i,none⟩) a9).trans ((a3.o.cell (p:=⟨b,off+i,none⟩) a7).trans (a8 i him));have b1:nth (toL N) i<4294967296:=HR.o.nth_lt i;have y:=q2a (q24 N) i 0 (by omega);have z:=q2a (q24 N) i 1 (by omega);have C:=q2a (q24 N) i 2 (by omega);have D:=q2a (q24 N) i 3 (by omega);rw[q04] at y z C D;rw[k0E,k1d] at y;rw[k1W] at z;rw[show 256^2=65536 from rfl] at C;rw[show 256^3=16777216 from rfl] at D;obtain⟨x,hx⟩:=yx (nth (toL N) i);obtain⟨f,R⟩:=yx (bt N (4*i+0));obtain⟨l,S⟩:=yx (bt N (4*i+1));obtain⟨v,T⟩:=yx (bt N (4*i+2));obtain⟨E,V⟩:=yx (bt N (4*i+3));rw[<- hx] at c9 b1 y z C D;rw[<- R] at y;rw[<- S] at z;rw[<- T] at C;rw[<- V] at D;have v0:(x:Int)%256=(f:Int):=by omega
   have v1:(x:Int)/256%256=(l:Int):=by omega
   have v2:(x:Int)/65536%256=(v:Int):=by omega
   have v3:(x:Int)/16777216=(E:Int):=by omega
   obtain⟨a,ha⟩:=yx (m-4*i);have d0:4<=a:=by have:=O.o;omega
   have d1:a<=m:=by omega
   obtain⟨p,hp⟩:=yx (a-4);have f7:(m:Int)-4*(i:Int)=(a:Int):=by have:=O.o;omega
   have q1:(a:Int)-1=((p+3:Nat):Int):=by omega
   have q2:(a:Int)-2=((p+2:Nat):Int):=by omega
   have q3:(a:Int)-3=((p+1:Nat):Int):=by omega
   have q4:(a:Int)-4=(p:Int):=by omega
   obtain⟨d,b2⟩:=yx (p+3);obtain⟨p2,b3⟩:=yx (p+2);obtain⟨g,b4⟩:=yx (p+1);rw[<- b2] at q1;rw[<- b3] at q2;rw[<- b4] at q3;have m1:(d:Int)<(m:Int):=by omega
   have m2:(p2:Int)<(m:Int):=by omega
   have m3:(g:Int)<(m:Int):=by omega
   have m4:(p:Int)<(m:Int):=by omega
   obtain⟨w1,I⟩:=yx (wr.setCell ⟨w.heap.size+1,d,none⟩ (.int .u8 (f:Int)));obtain⟨w2,J⟩:=yx (w1.setCell ⟨w.heap.size+1,p2,none⟩ (.int .u8 (l:Int)));obtain⟨w3,K⟩:=yx (w2.setCell ⟨w.heap.size+1,g,none⟩ (.int .u8 (v:Int)));have F:q2n w1 (w.heap.size+1) 5 (U.set d f):=by rw[I];exact q.set (by omega) rfl
   have G:q2n w2 (w.heap.size+1) 5 ((U.set d f).set p2 l):=by rw[J];exact F.set (by rw[k09];omega) rfl
   have H:q2n w3 (w.heap.size+1) 5 (((U.set d f).set p2 l).set g v):=by rw[K];exact G.set (by simp only[k09];omega) rfl
   have HS:=vv (H.set (i:=p) (x:=E) (by simp only[k09];omega) rfl);have c1:=q.cell (i:=d) (by omega);have f1:=q.frozen d;have l1:=q.lt;have c2:=F.cell (i:=p2) (by simp only[k09];omega);have f2:=F.frozen p2;have l2:=F.lt;have c3:=G.cell (i:=g) (by simp only[k09];omega);have f3:=G.frozen g;have l3:=G.lt;have c4:=H.cell (i:=p) (by simp only[k09];omega);have f4:=H.frozen p;have l4:=H.lt;have d2:Hid (Below (w.heap.size+1) k (w3.setCell ⟨w.heap.size+1,p,none⟩ (.int .u8 (E:Int)))):=vv (by rw[K,J,I];exact(((u.setCell lr _).setCell lr _).setCell lr _).setCell lr _);have d3:Hid (∀j,m-4*(i+1)<=j->j<m->nth ((((U.set d f).set p2 l).set g v).set p E) j=bt N (m-1-j)):=vv (fun j s h2=>by
    rw[q0K _ p E j (by simp only[k09];omega),q0K _ g v j (by simp only[k09];omega),q0K _ p2 l j (by simp only[k09];omega),q0K _ d f j (by omega)];have M:=O.o;by_cases e4:j=p
    ·rw[k0q e4,V];congr 1;omega
    rw[k0t e4];by_cases e3:j=g
    ·rw[k0q e3,T];congr 1;omega
    rw[k0t e3];by_cases e2:j=p2
    ·rw[k0q e2,S];congr 1;omega
    rw[k0t e2];by_cases e1:j=d
    ·rw[k0q e1,R];congr 1;omega
    rw[k0t e1];exact a6.o j (by omega) h2)
   obtain⟨z1,b6⟩:=yx (nth U d);obtain⟨z2,b7⟩:=yx (nth (U.set d f) p2);obtain⟨z3,b8⟩:=yx (nth ((U.set d f).set p2 l) g);obtain⟨z4,b9⟩:=yx (nth (((U.set d f).set p2 l).set g v) p);rw[<- b6] at c1;rw[<- b7] at c2;rw[<- b8] at c3;rw[<- b9] at c4;clear b6 b7 b8 b9;have d4:=vv I;have d5:=vv J;have d6:=vv K;have f8:(x:Int)<=4294967295:=by omega
   have f9:(i:Int)<(n:Int):=by omega
   have g0:(i:Int)<=1000000:=by omega
   have e6:(a:Int)<=4000000:=by omega
   clear a7 a9 a8 u q Q P hx R S T V y z C D b1 ha hp b2 b3 b4 I J K F G H a4 him d0 d1;go_wp2_with (first|rw[<- d4.o]|rw[<- d5.o]|rw[<- d6.o]);go_roundw
   case rel=>exact⟨i+1,_,by go_num,by omega,HS.o,by simp only[k09];exact a5.o,d3.o,d2.o⟩
   case measure=>simp [intOf];omega
  ·obtain rfl:i=n:=by omega
   have d7:Hid (Bd wr (some ⟨w.heap.size+1,0,none⟩) m m N):=vv (a0.o.bd a5.o.symm lr a1 c7.o (fun j h=>a6.o j (by have:=O.o;omega) h));have W:Hid (Below w.heap.size w wr):=vv (a3.o.trans (u.mono (by omega)));obtain⟨Z,L⟩:=yx (wr.alloc (.cells #[.bool false,.slice none 0 0] 142));have b5:Below wr.heap.size wr Z:=by rw[L];exact(qa _ wr).alloc lr _
   have i5:IntAt Z wr.heap.size 0 0:=by rw[L];exact IntAt.zero wr _
   have d8:=vv (A.SetBytes wr.heap.size 0 0 _ m m N Z i5 (d7.o.below b5 rfl) (by omega));have g1:=vv i5;have d9:=vv L;have c5:=vn W b5;clear q Q P u him a4 L b5 i5;go_wp2_with fail;rw[<- d9.o];refine d8.o.mono ?_;rintro e w6 ⟨rfl,hI,hF⟩;have e0:=vv hI;have e5:Hid (Below w.heap.size w w6):=vv (Fm.below c5.o hF c5.o.size W.o.size);clear hI hF;go_wp2;go_ret;exact⟨_,rfl,W.o.size,e0.o,e5.o⟩
end Rtp
namespace R10
open Go Go.RowKit R5 Dec
theorem q65(s:ByteArray)(w:qd)(hsz:s.size<=65536):qe qb 96 #[.string s] w fun e w'=>e=.returned (.bool (q2M s))/\w=w':=by
 have n:(s.size:Int)<=65536:=by omega
 clear hsz;go_enter func96,ntmps96;go_wp2;go_loop [3] (fun t=>∃k:Nat,k<=s.size/\t=.int .i64 k/\(∀j (h:j<s.size),j<k->48<=s[j].toNat/\s[j].toNat<=57)) (fun t=>s.size-(intOf t).toNat)
 case atStart=>exact⟨0,k0x _,rfl,fun j _ h=>absurd h (by omega)⟩
 case round =>
  obtain⟨k,g,rfl,a⟩:=hrel;have b:=vv a;clear a;by_cases hks:k<s.size
  ·by_cases hd:48<=s[k].toNat/\s[k].toNat<=57
   ·have i:=vv hd;have c:qc (((s[k].toNat:Nat):Int)<48)=false:=k00 (by omega);have l:qc ((57:Int)<((s[k].toNat:Nat):Int))=false:=k00 (by omega);clear hd;go_wp2;go_round
    case rel =>
     refine⟨k+1,by omega,by go_num,fun j h hj=>?_⟩;rcases(by omega:j<k\/j=k) with h|rfl
     ·exact b.o j _ h
     ·exact i.o
    case measure=>simp [intOf];omega
   ·have d:=vv (q3C hks hd);by_cases ha:s[k].toNat<48
    ·have c:qc (((s[k].toNat:Nat):Int)<48)=true:=k03 (by omega);clear hd ha;go_wp2;go_ret;exact⟨q38 d.o.symm,rfl⟩
    ·have c:qc (((s[k].toNat:Nat):Int)<48)=false:=k00 (by omega);have l:qc ((57:Int)<((s[k].toNat:Nat):Int))=true:=k03 (by omega);clear hd ha;go_wp2;go_ret;exact⟨q38 d.o.symm,rfl⟩
  ·have f:k=s.size:=by omega
   subst f;have m:Hid (q2M s=true):=vv (q1R.2 (fun j h=>b.o j h h));clear g hks;go_wp2;go_ret;exact⟨q38 m.o.symm,rfl⟩
theorem far(x:Int)(w:qd):qe qb 97 #[.int .i64 x] w fun e w'=>e=.returned (.bool (farB x))/\w=w':=by
 by_cases h1:x < -1073741824
 ·have a:Hid (farB x=true):=vv (by unfold farB;rw[k03 h1];rfl);have b:qc (x < -1073741824)=true:=k03 h1;clear h1;go_enter func97,ntmps97;go_wp2;go_ret;exact⟨q38 a.o.symm,rfl⟩
 ·have a:Hid (farB x=qc (1073741824<x)):=vv (by unfold farB;rw[k00 h1];rfl);have b:qc (x < -1073741824)=false:=k00 h1;clear h1;go_enter func97,ntmps97;go_wp2;go_ret;exact⟨q38 a.o.symm,rfl⟩
theorem q2W(neg:Bool)(s:ByteArray)(x:Int)(w:qd)(h:65536<s.size)(hmax:(s.size:Int)<=4611686018427387904):qe qb 36 #[decV neg s x] w fun e w'=>e=.returned (.int .i64 (q0p s x))/\Below w.heap.size w w':=by have a:Hid (q0p s x=4):=vv (by unfold q0p;rw[k0q h]);have b:qc ((65536:Int)<(s.size:Int))=true:=k03 (by omega);clear h;go_enter func36,ntmps36;go_wp2;go_ret;exact⟨q0J a.o.symm,(qa _ _).alloc lr _⟩
theorem q2V(neg:Bool)(x:Int)(w:qd):qe qb 36 #[decV neg ⟨#[]⟩ x] w fun e w'=>e=.returned (.int .i64 (q0p ⟨#[]⟩ x))/\Below w.heap.size w w':=by
 have a:q0L ⟨#[]⟩ x=(x==0):=by
  unfold q0L;by_cases h:x=0
  ·subst h;rfl
  ·have e:(x==0)=false:=by rw[k08];exact h
   rw[e,k0q (by rfl),k00 h];simp
 cases t:(x==0)
 ·rw[t] at a;have b:=vv (q2N (s:=⟨#[]⟩) (x:=x) (by decide) a);clear a;go_enter func36,ntmps36;go_wp2;go_ret;exact⟨q0J b.o.symm,(qa _ _).alloc lr _⟩
 ·rw[t] at a;have b:=vv (decErr_yes (s:=⟨#[]⟩) (x:=x) (by decide) a);clear a;go_enter func36,ntmps36;go_wp2;go_ret;exact⟨q0J b.o.symm,(qa _ _).alloc lr _⟩
theorem q2U(neg:Bool)(s:ByteArray)(x:Int)(w:qd)(h:s.size<=65536)(h0:0<s.size):qe qb 36 #[decV neg s x] w fun e w'=>e=.returned (.int .i64 (q0p s x))/\Below w.heap.size w w':=by
 have m:=q41 (x:=x) h h0;have t:qc ((65536:Int)<(s.size:Int))=false:=k00 (by omega);have u:((s.size:Int)==0)=false:=by rw[k08];omega
 have r:(s.size:Int)<=65536:=by omega
 have b:=vv fun w=>q65 s w h
 have i:=vv fun(hd:q0L s x=false)=>q2N h hd
 have n:=vv fun(hd:q0L s x=true)=>decErr_yes h hd
 have k:=(qa w.heap.size w).alloc (o:=.cells #[.bool neg,.string s,.int .i64 x] 27) lr;have c:=DecBox.made w neg s x 27;obtain⟨v,l⟩:=yx (w.alloc (.cells #[.bool neg,.string s,.int .i64 x] 27));rw[<- l] at k c;have f:=vv k;have d:=vv l;have y:=c.c1;have z:=c.c2;have C:=c.lt;have p:s.size-1<s.size:=by omega
 rw[q1T h0,q1T p] at m;have g:=vv m;clear l k c h m;cases hdg:q2M s
 ·rw[hdg] at b;have a:=vv (i.o (by rw[g.o,hdg];rfl));clear hdg;go_enter func36,ntmps36;go_wp2_with fail;rw[<- d.o];go_wp2_with fail;refine(b.o _).mono ?_;rintro e w' ⟨rfl,rfl⟩;go_wp2;go_ret;exact⟨q0J a.o.symm,f.o⟩
 rw[hdg] at b;by_cases e0:s[0].toNat=48
 ·have a:=vv (i.o (by rw[g.o,k03 e0];simp));clear hdg;go_enter func36,ntmps36;go_wp2_with fail;rw[<- d.o];go_wp2_with fail;refine(b.o _).mono ?_;rintro e w' ⟨rfl,rfl⟩;go_wp2;go_ret;exact⟨q0J a.o.symm,f.o⟩
 have D:((s[0].toNat:Int)==48)=false:=by rw[k08];omega
 by_cases e1:s[s.size-1].toNat=48
 ·have a:=vv (i.o (by rw[g.o,k03 e1];simp));have q:((s[s.size-1].toNat:Int)==48)=true:=by rw[e1];rfl
  clear hdg e0 e1;go_enter func36,ntmps36;go_wp2_with fail;rw[<- d.o];go_wp2_with fail;refine(b.o _).mono ?_;rintro e w' ⟨rfl,rfl⟩;go_wp2;go_ret;exact⟨q0J a.o.symm,f.o⟩
 have q:((s[s.size-1].toNat:Int)==48)=false:=by rw[k08];omega
 have j:=vv fun w=>far x w
 cases hf:farB x
 ·rw[hf] at j;have a:=vv (n.o (by rw[g.o,hdg,hf,k00 e0,k00 e1];rfl));clear hdg hf e0 e1;go_enter func36,ntmps36;go_wp2_with fail;rw[<- d.o];go_wp2_with fail;refine(b.o _).mono ?_;rintro e w' ⟨rfl,rfl⟩;go_wp2_with fail;refine(j.o _).mono ?_;rintro e w' ⟨rfl,rfl⟩;go_wp2;go_ret;exact⟨q0J a.o.symm,f.o⟩
 ·rw[hf] at j;have a:=vv (i.o (by rw[g.o,hf];simp));clear hdg hf e0 e1;go_enter func36,ntmps36;go_wp2_with fail;rw[<- d.o];go_wp2_with fail;refine(b.o _).mono ?_;rintro e w' ⟨rfl,rfl⟩;go_wp2_with fail;refine(j.o _).mono ?_;rintro e w' ⟨rfl,rfl⟩;go_wp2;go_ret;exact⟨q0J a.o.symm,f.o⟩
theorem Check(neg:Bool)(s:ByteArray)(x:Int)(w:qd)(hmax:(s.size:Int)<=4611686018427387904):qe qb 36 #[decV neg s x] w fun e w'=>e=.returned (.int .i64 (q0p s x))/\Below w.heap.size w w':=by
 by_cases h:s.size<=65536
 ·by_cases h0:0<s.size
  ·exact q2U neg s x w h h0
  ·have e:s=⟨#[]⟩:=R16.bytes_none (by omega);rw[e];exact q2V neg x w
 ·exact q2W neg s x w (by omega) hmax
end R10
end Go.Proofs.YtabcgemembkkcaaGreatDoor
