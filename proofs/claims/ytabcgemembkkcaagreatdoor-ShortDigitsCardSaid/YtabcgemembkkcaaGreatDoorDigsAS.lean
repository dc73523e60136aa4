/- Lemmas. -/
import Derived.Test.YtabcgemembkkcaaGreatDoorDigsAR
import Derived.Test.YtabcgemembkkcaaGreatDoorDigsAC
import Derived.Test.YtabcgemembkkcaaGreatDoorDigsAH
import Derived.Test.YtabcgemembkkcaaGreatDoorDigsAD
set_option linter.all false
set_option maxHeartbeats 1000000
set_option maxRecDepth 100000
open Go.Proofs.Tryz
namespace Go.Proofs.YtabcgemembkkcaaGreatDoor
namespace AB
open Go Go.RowKit
theorem zeros{fq:FuncId}(A:Option Addr)(n c N:Nat)(w:World)(ha:Rd w A n c (toL N))(h0:0<N)(hs:Std w)(hq:fq=330\/fq=281:=by decide):Calls Tryz.prog fq #[.slice A n c] w fun e w'=>e=.returned (.int .i64 ((tz N:Nat):Int))/\w=w':=by
 have E:=ha.sm;have s:=vv ha;have d:Hid (N<4294967296^n):=vv (by have:=ha.lt;rwa [q04] at this);have f:0<n:=by
  rcases k01 n with rfl|h
  ·have:=d.o;rw[k0B] at this;omega
  ·exact h
 obtain⟨b,off,rfl,G,g⟩:=ha.cell f;have u:=vv g;clear ha g;rcases hq with rfl|rfl;go_enter func330,ntmps330;rotate_left;go_enter func281,ntmps281;rotate_left;all_goals
  go_wp2;go_loop [3] (fun t=>∃k:Nat,k<n/\t=.int .i64 k/\N%4294967296^k=0) (fun t=>n-(intOf t).toNat)
  case atStart=>exact⟨0,f,rfl,by rw[k0B,Nat.mod_one]⟩
  case round =>
   obtain⟨k,v,rfl,j⟩:=hrel;have l:=vv j;clear j;have hx:=u.o k v;have m:=s.o.nth_lt k;have i:nth (toL N) k=N/4294967296^k%4294967296:=q19 N k;have a:=vv i;clear i;by_cases h0:nth (toL N) k=0
   ·have x:(((nth (toL N) k:Nat):Int)==0)=true:=by rw[h0];rfl
    have p:Hid (N%4294967296^(k+1)=0):=vv (by rw[k0d,k3d,l.o,<- a.o,h0];simp);have q:k+1<n:=by
     rcases k0A (k+1) n with h|h
     ·exact h
     ·exfalso;have e:k+1=n:=by omega
      have:=p.o;rw[e,k0E d.o] at this;omega
    clear h0;go_wp2;go_round
    case rel=>exact⟨k+1,q,rfl,p.o⟩
    case measure=>simp [intOf];omega
   ·have x:(((nth (toL N) k:Nat):Int)==0)=false:=by rw[k05];omega
    have H:((k:Int)==(n:Int))=false:=by simp;omega
    have y:=vv (q7c l.o (by rw[<- a.o];exact h0));have z:Hid (tz (nth (toL N) k)<=31):=vv (by have:=q1h (k0O h0);have I:bl (nth (toL N) k)<=32:=q0A (by omega);omega);have C:=vv (qcI (k0O h0) m);have D:=vv (k0O h0);have r:=vv (qdV _ w m D.o hs);clear h0;go_wp2_with fail;refine r.o.mono ?_;rintro e w' ⟨rfl,rfl⟩;rw[C.o];have F:=z.o;go_wp2;go_ret;exact⟨q0X (by rw[y.o,<- a.o];omega),rfl⟩
theorem topBits_{fq:FuncId}(A:Option Addr)(n c N k s:Nat)(z:Int)(hz:z=((32*k+s:Nat):Int))(w:World)(ha:Rd w A n c (toL N))(hs:s<32)(hk:k<35184372088832)(hN:N<2^(32*k+s+60))(hq:fq=331\/fq=282:=by decide):Calls Tryz.prog fq #[.slice A n c,.int .i64 z] w fun e w'=>e=.returned (.int .u64 ((N/2^(32*k+s):Nat):Int))/\w=w':=by
 have a0:=ha.sm;have z0:0<=z:=by omega
 have z1:z<=2251799813685248:=by omega
 have zq:z/32=(k:Int):=by omega
 have zr:z%32=(s:Int):=by omega
 clear hz;obtain⟨M,l⟩:=q7h hs hN;have F:=vv M;clear M hN;generalize N/2^(32*k+s)=Q at *
 obtain⟨r,m⟩:=yx (64-s);obtain⟨t,p⟩:=yx (32-s);rw[<- m] at l;rw[<- m,<- p] at F;have er:(64:Int)-(s:Int)=(r:Int):=by omega
 have et:(32:Int)-(s:Int)=(t:Int):=by omega
 have V:=ha.nth_lt k;have W:=ha.nth_lt (k+1);have a1:=ha.nth_lt (k+2);have G:Hid (∀i,n<=i->nth (toL N) i=0):=vv fun i hi=>q0U _ _ (by rw[ha.len];exact hi)
 have q:nth (toL N) (k+1)*2^t<2^r:=by
  have:2^r=4294967296*2^t:=by rw[m,p,show 64-s=32+(32-s) by omega,k0e]
  rw[this];exact k0L W (k0a _)
 have O:nth (toL N) k/2^s<2^t:=by apply k0s;rw[<- k0e,show s+t=32 by omega];exact V
 have u:nth (toL N) (k+2)*2^r+nth (toL N) (k+1)*2^t<18446744073709551616:=by
  have H:2^r<=2^64:=k00 (by omega) (by omega);rcases k01 s with h|h
  ·have D:r=64:=by omega
   rw[D] at l q ⊢;rcases k01 (nth (toL N) (k+2)) with f|f
   ·rw[f,k24,k10];exact q
   ·exact absurd (k0I (k1R _ f) l) (by decide)
  ·have H:2^r<=2^63:=k00 (by omega) (by omega);omega
 have I:=vv (q44 (nth (toL N) (k+2)) r (by omega));have Y:=vv (q44 (nth (toL N) (k+1)) t (by omega));have J:=vv (qaL (nth (toL N) (k+2)) (nth (toL N) (k+1)*2^t) r q u);have g:nth (toL N) (k+2)*2^r+nth (toL N) (k+1)*2^t=(4294967296*nth (toL N) (k+2)+nth (toL N) (k+1))*2^t:=by rw[m,p,show 64-s=32+(32-s) by omega,k0e,k1f,<- k0j,k0g (nth (toL N) (k+2))]
 have K:=vv (qaL (4294967296*nth (toL N) (k+2)+nth (toL N) (k+1)) (nth (toL N) k/2^s) t O (by
  rw[<- g];have h3:(nth (toL N) (k+2)*2^r+nth (toL N) (k+1)*2^t)%2^t=0:=by rw[g];exact Nat.mul_mod_left _ _
  have h4:(2:Nat)^64=2^t*2^(64-t):=by rw[<- k0e,show t+(64-t)=64 by omega]
  have Z:(4294967296*nth (toL N) (k+2)+nth (toL N) (k+1))<2^(64-t):=by
   rw[g] at u;have:(4294967296*nth (toL N) (k+2)+nth (toL N) (k+1))*2^t<2^(64-t)*2^t:=by rw[<- k0e,show 64-t+t=64 by omega];exact u
   exact Nat.lt_of_mul_lt_mul_right this
  rw[g];have h6:(4294967296*nth (toL N) (k+2)+nth (toL N) (k+1)+1)*2^t<=2^(64-t)*2^t:=k0y _ Z;rw[<- k0e,show 64-t+t=64 by omega,k1f] at h6;omega))
 rw[<- g] at K;have X0:=vv (q1m (nth (toL N) k) s);have P:Hid (s=0->nth (toL N) (k+2)=0):=vv fun h=>by
  have D:r=64:=by omega
  rw[D] at l;rcases k01 (nth (toL N) (k+2)) with f|f
  ·exact f
  ·exact absurd (k0I (k1R _ f) l) (by decide)
 clear O q u l g m p;have L:=vv ha;clear ha;generalize ew0:nth (toL N) k=w0 at *
 generalize ew1:nth (toL N) (k+1)=w1 at *
 generalize ew2:nth (toL N) (k+2)=w2 at *
 have R:=vv ew0;have S:=vv ew1;have T:=vv ew2;clear ew0 ew1 ew2;have Y2:Hid (w2*2^r<18446744073709551616):=vv (by
  have:=F.o;have h:=J.o;by_cases E:s=0
  ·rw[P.o E];omega
  ·exact k2G fun d=>by have H:=I.o;rw[IntKind.wrap_u64] at H;omega)
 rcases hq with rfl|rfl;go_enter func331,ntmps331;rotate_left;go_enter func282,ntmps282;rotate_left;all_goals
  go_wp2;go_loop [7,8] (fun x i=>∃(j:Nat) (y:Int),i=.int .i64 y/\y+1=j/\j<=3/\x=.int .u64 ((if j=3 then 0 else if j=2 then w2*2^r else if j=1 then w2*2^r+w1*2^t else w2*2^r+w1*2^t+w0/2^s:Nat):Int)) (fun _ i=>(intOf i+1).toNat)
  case atStart=>exact⟨3,2,rfl,by omega,by omega,rfl⟩
  case round =>
   obtain⟨j,y,rfl,v,C,rfl⟩:=hrel;have X:j=0\/j=1\/j=2\/j=3:=by omega
   rcases X with rfl|rfl|rfl|rfl
   ·obtain rfl:y = -1:=by omega
    clear v C;go_wp2;go_ret;exact⟨q0X (by rw[F.o];rfl),rfl⟩
   ·obtain rfl:y=0:=by omega
    clear v C;by_cases hin:k<n
    ·obtain⟨b,off,rfl,U,d⟩:=L.o.cell (by omega);have hx:=d k hin;rw[R.o] at hx;clear d;go_wp2;go_round
     case rel=>exact⟨0,-1,rfl,rfl,by omega,by have:=K.o;rw[<- X0.o] at this;exact k0z (Value.int IntKind.u64) this⟩
     case measure=>simp [intOf]
    ·have hz:w0=0:=by rw[<- R.o];exact G.o _ (by omega)
     have a:=vv hz;clear hz;go_wp2;go_round
     case rel=>exact⟨0,-1,rfl,rfl,by omega,by
      have:=K.o;rw[a.o,Nat.zero_div] at this;simp only[a.o,Nat.zero_div];have h2:((0:Nat):Int)/2^s=((0:Nat):Int):=by rw[q1m,Nat.zero_div]
      exact k0z (Value.int IntKind.u64) (by first|exact this|(rw[<- this];rfl)|(simp at this ⊢;exact this))⟩
     case measure=>simp [intOf]
   ·obtain rfl:y=1:=by omega
    clear v C;by_cases hin:k+1<n
    ·obtain⟨b,off,rfl,U,d⟩:=L.o.cell (by omega);have hx:=d (k+1) hin;rw[S.o] at hx;clear d;go_wp2;go_round
     case rel=>exact⟨1,0,rfl,rfl,by omega,by have:=J.o;rw[<- Y.o] at this;exact k0z (Value.int IntKind.u64) this⟩
     case measure=>simp [intOf]
    ·have hz:w1=0:=by rw[<- S.o];exact G.o _ (by omega)
     have a:=vv hz;clear hz;go_wp2;go_round
     case rel=>exact⟨1,0,rfl,rfl,by omega,by have:=J.o;rw[a.o,k24] at this;simp only[a.o,k24];exact k0z (Value.int IntKind.u64) (by first|exact this|(rw[<- this];rfl)|(simp at this ⊢;exact this))⟩
     case measure=>simp [intOf]
   ·obtain rfl:y=2:=by omega
    clear v C;by_cases hin:k+2<n
    ·obtain⟨b,off,rfl,U,d⟩:=L.o.cell (by omega);have hx:=d (k+2) hin;rw[T.o] at hx;clear d;rcases k01 s with h|h
     ·have E:¬0<s:=by omega
      have a:=vv (P.o h);clear h;go_wp2;go_round
      case rel=>exact⟨2,1,rfl,rfl,by omega,by rw[a.o];simp⟩
      case measure=>simp [intOf]
     ·go_wp2;go_round
      case rel=>exact⟨2,1,rfl,rfl,by omega,k0z (Value.int IntKind.u64) I.o⟩
      case measure=>simp [intOf]
    ·have hz:w2=0:=by rw[<- T.o];exact G.o _ (by omega)
     have a:=vv hz;clear hz;rcases k01 s with h|h
     ·have E:¬0<s:=by omega
      clear h;go_wp2;go_round
      case rel=>exact⟨2,1,rfl,rfl,by omega,by rw[a.o];simp⟩
      case measure=>simp [intOf]
     ·go_wp2;go_round
      case rel=>exact⟨2,1,rfl,rfl,by omega,by have:=I.o;rw[a.o] at this;simp only[a.o];exact k0z (Value.int IntKind.u64) (by simp)⟩
      case measure=>simp [intOf]
theorem topBits{fq:FuncId}(A:Option Addr)(n c N e:Nat)(z:Int)(hz:z=(e:Int))(w:World)(ha:Rd w A n c (toL N))(hk:e<35184372088832)(hN:N<2^(e+60))(hq:fq=331\/fq=282:=by decide):Calls Tryz.prog fq #[.slice A n c,.int .i64 z] w fun e' w'=>e'=.returned (.int .u64 ((N/2^e:Nat):Int))/\w=w':=by have h:=topBits_ (hq:=hq) A n c N (e/32) (e%32) z (by omega) w ha (k0i _ (by omega)) (by omega) (by rw[show 32*(e/32)+e%32=e by omega];exact hN);rw[show 32*(e/32)+e%32=e by omega] at h;exact h
theorem q3N{p:Int}{x:Nat}(h1:-1073741824<p)(h2:p<1073741824)(hx:x<4294967296):-4611686013058678785<=p*(x:Int)/\p*(x:Int)<=4611686013058678785:=by have a:p*(x:Int)<=1073741823*(x:Int):=k1C (by omega) (by omega);have b:-1073741823*(x:Int)<=p*(x:Int):=k1C (by omega) (by omega);omega
theorem blend{fq:FuncId}(A B:Option Addr)(n m c d a b R:Nat)(p q:Int)(w:World)(ha:Rd w A n c (toL a))(hb:Rd w B m d (toL b))(hs:n+1<=35184372088832)(hba:b<=a)
  (p1:-1073741824<p) (p2:p<1073741824) (q1:-1073741824<q) (q2:q<1073741824) (hR:(R:Int)=p*(a:Int)+q*(b:Int)) (hRa:R<=a) (hq:fq=333\/fq=284:=by decide) :
  Calls Tryz.prog fq #[.slice A n c,.slice B m d,.int .i64 p,.int .i64 q] w (q0g R w):=by
 have K:=mk1 n hs;have a0:m<=n:=hb.le_of ha hba;have L:=vv hR;have M:Hid (R<4294967296^n):=vv (by have:=q0p a;rw[ha.words] at this;exact k0I hRa this);have N:=vv ha.len;have r:=vv hb.len;clear hR;rcases hq with rfl|rfl;go_enter func333,ntmps333;rotate_left;go_enter func284,ntmps284;rotate_left;all_goals
  go_wp2;go_loopw [10,11] (fun y i wr=>∃(k:Nat) (t:Int) (U:List Nat),i=.int .i64 k/\k<=n/\y=.int .i64 t /\ -2147483648<=t/\t<=2147483648/\U.length=n+1/\Own wr w.heap.size 54 U /\((val (U.take k):Nat):Int)+4294967296^k*t=p*((val ((toL a).take k):Nat):Int)+q*((val ((toL b).take k):Nat):Int)/\Below w.heap.size w wr) (fun _ i _=>n-(intOf i).toNat)
  case atStart=>exact⟨0,0,List.replicate (n+1) 0,rfl,k0x _,rfl,by omega,by omega,by simp,Own.made _ _ _,by simp [val],(Below.refl _ _).alloc lr _⟩
  case round =>
   obtain⟨k,t,U,rfl,hk,rfl,a1,a2,s,g,u,h⟩:=hrel;have l:=vv u;have f:=vv s;clear u s K;by_cases hkn:k<n
   ·obtain⟨E,off,rfl,O,v⟩:=ha.cell (by omega);have hx:wr.cell? ⟨E,off+k,none⟩=some (.int .u32 ((nth (toL a) k:Nat):Int)):=(h.cell (p:=⟨E,off+k,none⟩) O).trans (v k hkn);clear v;have P:=ha.nth_lt k;have X:=g.cell (i:=k) (by rw[f.o];omega);have Y:=g.frozen k;have j:=vv g;clear g;obtain⟨k1,k2⟩:=q3N p1 p2 P;have F:=vv (q07 (toL a) k);have G:=vv (q07 (toL b) k);by_cases hkm:k<m
    ·obtain⟨H,C,rfl,Q,D⟩:=hb.cell (by omega);have a3:wr.cell? ⟨H,C+k,none⟩=some (.int .u32 ((nth (toL b) k:Nat):Int)):=(h.cell (p:=⟨H,C+k,none⟩) Q).trans (D k hkm);clear D;have S:=hb.nth_lt k;obtain⟨k3,k4⟩:=q3N q1 q2 S;go_wp2;go_roundw
     case rel =>refine⟨k+1,_,U.set k ((p*((nth (toL a) k:Nat):Int)+t+q*((nth (toL b) k:Nat):Int))%4294967296).toNat,by go_num,by omega,rfl,by omega,by omega,by rw[k0c];exact f.o,j.o.set (by rw[f.o];omega) (by omega) (by omega),?_,h.setCell lr _⟩;have:=q40 (x:=((nth (toL a) k:Nat):Int)) (y:=((nth (toL b) k:Nat):Int)) (t:=p*((nth (toL a) k:Nat):Int)+t+q*((nth (toL b) k:Nat):Int)) (by rw[f.o];omega) l.o (by omega);rw[this,F.o,G.o,k1o,k1o,k0f,k0f,k0C];rfl
     case measure=>simp [intOf];omega
    ·have Z:=vv (q0U (toL b) k (by rw[r.o];omega));go_wp2;go_roundw
     case rel =>refine⟨k+1,_,U.set k ((p*((nth (toL a) k:Nat):Int)+t)%4294967296).toNat,by go_num,by omega,rfl,by omega,by omega,by rw[k0c];exact f.o,j.o.set (by rw[f.o];omega) (by omega) (by omega),?_,h.setCell lr _⟩;have:=q40 (x:=((nth (toL a) k:Nat):Int)) (y:=0) (t:=p*((nth (toL a) k:Nat):Int)+t) (by rw[f.o];omega) l.o (by omega);rw[this,F.o,G.o,Z.o,k1o,k1o,k0f,k0f,k0C];rfl
     case measure=>simp [intOf];omega
   ·obtain rfl:k=n:=by omega
    have I:((val (U.take k):Nat):Int)+4294967296^k*t=(R:Int):=by rw[l.o,q0f (xs:=toL a) (by rw[N.o];omega),q0f (xs:=toL b) (by rw[r.o];omega),q04,q04];exact L.o.symm
    obtain⟨rfl,J⟩:=q8p f.o g.2 M.o I;have HE:=vv J;have X:=g.cell (i:=k) (by rw[f.o];omega);have Y:=g.frozen k;have j:=vv (g.set (i:=k) (x:=0) (z:=0) (by rw[f.o];omega) (by omega) rfl);have T:=vv (j.o.rd (n:=k+1) (c:=k+1) (by rw[k0c];exact f.o.symm) lr (by omega));have V:Below w.heap.size w (wr.setCell ⟨w.heap.size,k,none⟩ (.int .u32 0)):=h.setCell lr _;clear I J g;go_wp2_with fail;refine(trim _ _ _ _ _ T.o).mono ?_;rintro e w' ⟨m',rfl,rfl,W⟩;go_wp2;go_ret;refine⟨_,m',k+1,rfl,?_,Fr.at_ lr,V⟩;have e:=HE.o;rw[<- e];exact W
end AB
namespace A
open AB
open Go Go.RowKit
def zeros:=@AB.zeros 330
end A
namespace A
open AB
open Go Go.RowKit
def topBits_:=@AB.topBits_ 331
def topBits:=@AB.topBits 331
end A
namespace A
open AB
open Go Go.RowKit
def blend:=@AB.blend 333
end A
namespace B
open AB
open Go Go.RowKit
def zeros:=@AB.zeros 281
end B
namespace B
open AB
open Go Go.RowKit
def topBits_:=@AB.topBits_ 282
def topBits:=@AB.topBits 282
end B
namespace B
open AB
open Go Go.RowKit
def blend:=@AB.blend 284
end B
end Go.Proofs.YtabcgemembkkcaaGreatDoor
