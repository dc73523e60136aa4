/- Lemmas. -/
import Derived.Test.YtabcgemembkkcaaGreatDoorDigsAI
import Derived.Test.YtabcgemembkkcaaGreatDoorDigsAG
import Derived.Test.YtabcgemembkkcaaGreatDoorDigsAB
import Derived.Test.YtabcgemembkkcaaGreatDoorDigsAK
set_option linter.all false
set_option maxHeartbeats 1000000
open Go.Proofs.Tryz
open Go.Proofs.Tryz renaming prog->qa
namespace Go.Proofs.YtabcgemembkkcaaGreatDoor
variable{fq:FuncId}
namespace AB
open Go Go.RowKit
theorem qdA(x:Nat)(w:World)(h:x<4294967296):Calls qa 227 #[.int .u32 (x:Int)] w fun e w'=>e=.returned (.int .i64 ((bl x:Nat):Int))/\w=w':=(Tryz.bits_Len32 x w (by omega) (by omega)).mono fun e w' ⟨h1,h2⟩=>⟨by rw[h1,k2f,q7X (by omega)],h2.symm⟩
theorem lz32(x:Nat)(w:World)(h:x<4294967296):Calls qa 224 #[.int .u32 (x:Int)] w fun e w'=>e=.returned (.int .i64 ((32-bl x:Nat):Int))/\w=w':=(Tryz.bits_LeadingZeros32 x w (by omega) (by omega)).mono fun e w' ⟨h1,h2⟩=>⟨by have hb:bl x<=32:=q0A (by omega);rw[h1,k2f,q7X (by omega)];exact q0X (by omega),h2.symm⟩
theorem bitLen(A:Option Addr)(n c N:Nat)(w:World)(ha:Rd w A n c (toL N))(hq:fq=174\/fq=273:=by decide):Calls qa fq #[.slice A n c] w fun e w'=>e=.returned (.int .i64 ((bl N:Nat):Int))/\w=w':=by
 have k:=ha.sm;have a:=ha.words;rcases k01 n with rfl|l
 ·have f:N=0:=q06.1 a;subst f;rcases hq with rfl|rfl;go_enter func174,ntmps174;rotate_left;go_enter func273,ntmps273;rotate_left;all_goals
   go_wp2;go_ret;exact⟨rfl,rfl⟩
 ·have f:0<N:=by
   rcases k01 N with h|h
   ·subst h;rw[q0h] at a;omega
   ·exact h
  obtain⟨d,_⟩:=bl_words f;rw[a] at d;obtain⟨m,rfl⟩:∃m,n=m+1:=⟨n-1,by omega⟩;rw[k0T] at d;have i:=vv d;clear d a;obtain⟨b,off,rfl,q,g⟩:=ha.cell (by omega);have hx:=g m (by omega);have j:=ha.nth_lt m;clear g;have p:bl (nth (toL N) m)<=32:=q0A (by omega);rcases hq with rfl|rfl;go_enter func174,ntmps174;rotate_left;go_enter func273,ntmps273;rotate_left;all_goals
   go_wp2_with fail;refine(qdA _ _ j).mono ?_;rintro e w' ⟨rfl,rfl⟩;go_wp2;go_ret;exact⟨q0X (by rw[i.o];omega),rfl⟩
theorem divSmall(A:Option Addr)(n c d:Nat)(xs:List Nat)(w:World)(ha:Rd w A n c xs)(hd:0<d)(hd':d<4294967296)(hq:fq=357\/fq=327:=by decide):Calls qa fq #[.slice A n c,.int .u32 (d:Int)] w fun e w'=>∃A' m c',e=.returned (.tuple #[.slice A' m c',.int .u32 ((val xs%d:Nat):Int)])/\Rd w' A' m c' (toL (val xs/d))/\Fr w.heap.size A'/\Below w.heap.size w w':=by
 have S:=mk n ha.sm;have H:=ha.sm;rcases hq with rfl|rfl;go_enter func357,ntmps357;rotate_left;go_enter func327,ntmps327;rotate_left;all_goals
  go_wp2;go_loopw [7,8] (fun q i wr=>∃(k:Nat) (z:Int) (r:Nat) (V:List Nat),i=.int .i64 z/\z+1=k/\k<=n/\q=.int .u64 r/\r<d/\r=(val xs/4294967296^k)%d/\V.length=n/\Own wr w.heap.size 54 V /\(∀j,k<=j->nth V j=(val xs/d)/4294967296^j%4294967296)/\Below w.heap.size w wr) (fun _ i _=>(intOf i+1).toNat)
  case atStart =>
   have K:val xs/4294967296^n=0:=k0K ha.lt;refine⟨n,_,0,List.replicate n 0,rfl,by omega,lr,rfl,hd,by rw[K];simp,by simp,Own.made _ _ _,fun j hj=>?_,(Below.refl _ _).alloc lr _⟩;have L:val xs/d/4294967296^j=0:=by rw[k0h,k0g,<- k0h,k0K (q1N ha.lt hj)];simp
   rw[L,q10]
  case round =>
   obtain⟨k,z,r,V,rfl,C,Y,rfl,M,l,s,a,t,g⟩:=hrel;have E:=vv l;have f:=vv s;have h:=vv t;have N:=vv a;clear l s t;rcases k01 k with rfl|T
   ·obtain rfl:z = -1:=by omega
    clear C;have F:val V=val xs/d:=by
     have:=q1g (U:=V) (Q:=val xs/d) fun i _=>h.o i (k0x _)
     rw[this,f.o];exact k0E (k0I (k0q _ _) ha.lt)
    have O:=vv F;clear F;have P:=vv (a.rd (n:=n) (c:=n) f.o.symm lr H);have u:val xs%d=r:=by have:=E.o;rw[k0B,k1b] at this;exact this.symm
    have I:=vv u;clear u a;go_wp2_with fail;refine(trim _ _ _ _ _ P.o).mono ?_;rintro e w' ⟨R,rfl,rfl,v⟩;rw[O.o] at v;go_wp2;go_ret2;refine⟨_,R,n,?_,v,Fr.at_ lr,g⟩;rw[I.o];first|rfl|simp
   ·obtain⟨j,rfl⟩:∃j,k=j+1:=⟨k-1,by omega⟩;obtain rfl:z=(j:Int):=by omega
    clear C;obtain⟨b,off,rfl,J,x⟩:=ha.cell (by omega);have hx:wr.cell? ⟨b,off+j,none⟩=some (.int .u32 ((nth xs j:Nat):Int)):=(g.cell (p:=⟨b,off+j,none⟩) J).trans (x j (by omega));clear x;have y:=ha.nth_lt j;have Z:=a.cell (i:=j) (by rw[f.o];omega);have hf:=a.frozen j;have D:=vv (divs_step (V:=V) hd M y (fun q hq=>h.o q hq) E.o ha.lim);have W:(1:Int)<=(d:Int):=by omega
    have X:=qa0 (nth xs j) r y (by omega);have G:Hid ((((nth xs j:Nat):Int)+4294967296*(r:Int))/(d:Int)%4294967296=(((r*4294967296+nth xs j)/d:Nat):Int)/\(((nth xs j:Nat):Int)+4294967296*(r:Int))%(d:Int)=(((r*4294967296+nth xs j)%d:Nat):Int)):=vv (by
     have e:((nth xs j:Nat):Int)+4294967296*(r:Int)=((r*4294967296+nth xs j:Nat):Int):=by omega
     rw[e,<- k1n,<- k1x];have:=D.o.2.2;generalize (r*4294967296+nth xs j)/d=Q at *
     exact⟨by omega,rfl⟩)
    clear a;go_wp2;go_roundw
    case rel =>
     refine⟨j,_,(r*4294967296+nth xs j)%d,V.set j ((r*4294967296+nth xs j)/d),rfl,by omega,by omega,k0z _ G.o.2,k0i _ hd,D.o.2.1,by rw[k0c];exact f.o,N.o.set (by rw[f.o];omega) D.o.2.2 G.o.1,fun p hp=>?_,g.setCell lr _⟩;by_cases hpj:p=j
     ·subst hpj;rw[q0H V p _ p (by rw[f.o];omega),k0p rfl];exact D.o.1
     ·rw[q0i _ _ hpj];exact h.o p (by omega)
    case measure=>simp [intOf]
theorem up_(A:Option Addr)(n c:Nat)(xs:List Nat)(k s:Nat)(z:Int)(hz:z=((32*k+s:Nat):Int))(w:World)(ha:Rd w A n c xs)(hs:s<32)(hk:n+k<35184372088832)(hq:fq=258\/fq=257:=by decide):Calls qa fq #[.slice A n c,.int .i64 z] w (q0g (val xs*2^(32*k+s)) w):=by
 have T:=ha.sm;have f:=ha.len;have Z:0<=z:=by omega
 have z1:z<=2251799813685248:=by omega
 have zq:z/32=(k:Int):=by omega
 have zr:z%32=(s:Int):=by omega
 clear hz;rcases k01 n with rfl|U
 ·rcases hq with rfl|rfl;go_enter func258,ntmps258;rotate_left;go_enter func257,ntmps257;rotate_left;all_goals
   go_wp2;go_ret;have N:xs=[]:=k1G f;subst N;exact⟨none,0,0,rfl,by rw[q5c,k24];exact Rd.nil _,Fr.none_ _,Below.refl _ _⟩
 ·have I:=mk1 (n+k) hk;have D:((n+k:Nat):Int)=(n:Int)+(k:Int):=by omega
  rw[D] at I;clear D;have W:((n:Int)==0)=false:=by simp;omega
  have J:=vv f;clear f;rcases hq with rfl|rfl;go_enter func258,ntmps258;rotate_left;go_enter func257,ntmps257;rotate_left;all_goals
   go_wp2;go_loopw [8] (fun i wr=>∃(j h:Nat) (V:List Nat),i=.int .i64 j/\j<=n/\V.length=n+k+1/\Own wr w.heap.size 54 V/\nth V (j+k)=h/\h<2^s /\val (V.take (j+k))+4294967296^(j+k)*h=4294967296^k*(2^s*val (xs.take j))/\Below w.heap.size w wr) (fun i _=>n-(intOf i).toNat)
   case atStart=>exact⟨0,0,List.replicate (n+k+1) 0,rfl,k0x _,by simp,Own.made _ _ _,q10 _ _,k0a _,by simp [val,k2k,q0d],(Below.refl _ _).alloc lr _⟩
   case round =>
    obtain⟨j,h,V,rfl,hj,q,a,E,r,t,g⟩:=hrel;have F:=vv t;have d:=vv q;have l:=vv E;have O:=vv a;have u:=vv r;clear t q E r;have hg:=a.lt;by_cases hjn:j<n
    ·obtain⟨b,off,rfl,K,v⟩:=ha.cell (by omega);have hx:wr.cell? ⟨b,off+j,none⟩=some (.int .u32 ((nth xs j:Nat):Int)):=(g.cell (p:=⟨b,off+j,none⟩) K).trans (v j hjn);clear v;have x:=ha.nth_lt j;have P:=a.cell (i:=j+k) (by rw[d.o];omega);have hf:=a.frozen (j+k);have X:=a.cell (i:=j+k+1) (by rw[d.o];omega);have Y:=a.frozen (j+k+1);rw[l.o] at P;have y:h<4294967296:=by have h1:=u.o;have h2:2^s<=2^31:=k00 (by omega) (by omega);omega
     have m:=vv (q49 x hs);have G:=vv (q7a (h:=h) m.o.2.2 y);have Q:=vv (q48 (by rw[d.o];omega) l.o u.o rfl x hs F.o);clear a;go_wp2;go_roundw
     case rel =>have L:h ||| (nth xs j*2^s)%4294967296<4294967296:=Nat.or_lt_two_pow (n:=32) y (k0i _ (by omega));refine⟨j+1,(nth xs j*2^s)/4294967296,(V.set (j+k) (h ||| (nth xs j*2^s)%4294967296)).set (j+k+1) ((nth xs j*2^s)/4294967296),by go_num,by omega,by rw[k0c,k0c];exact d.o,(O.o.set (by rw[d.o];omega) L G.o.1).set (by rw[k0c,d.o];omega) (by have:=m.o.2.2;omega) G.o.2,?_,m.o.2.1,Q.o,(g.setCell lr _).setCell lr _⟩;rw[show j+1+k=j+k+1 by omega,q0H _ _ _ _ (by rw[k0c,d.o];omega),k0p rfl]
     case measure=>simp [intOf];omega
    ·obtain rfl:j=n:=by omega
     have H:=q7b d.o (by rw[J.o];exact lr) l.o F.o;have M:=vv H;clear H;have R:=vv (a.rd (n:=j+k+1) (c:=j+k+1) d.o.symm lr (by omega));clear a;go_wp2_with fail;refine(trim _ _ _ _ _ R.o).mono ?_;rintro e w' ⟨S,rfl,rfl,C⟩;rw[M.o] at C;go_wp2;go_ret;exact⟨_,S,j+k+1,rfl,C,Fr.at_ lr,g⟩
theorem up(A:Option Addr)(n c:Nat)(xs:List Nat)(e:Nat)(z:Int)(hz:z=(e:Int))(w:World)(ha:Rd w A n c xs)(hk:n+e<35184372088832)(hq:fq=258\/fq=257:=by decide):Calls qa fq #[.slice A n c,.int .i64 z] w (q0g (val xs*2^e) w):=by have h:=up_ (hq:=hq) A n c xs (e/32) (e%32) z (by omega) w ha (k0i _ (by omega)) (by omega);rw[show 32*(e/32)+e%32=e by omega] at h;exact h
theorem down_(A:Option Addr)(n c:Nat)(xs:List Nat)(k s:Nat)(z:Int)(hz:z=((32*k+s:Nat):Int))(w:World)(ha:Rd w A n c xs)(hs:s<32)(hk:k<35184372088832)(hq:fq=359\/fq=329:=by decide):Calls qa fq #[.slice A n c,.int .i64 z] w (q0g (val xs/2^(32*k+s)) w):=by
 have O:=ha.sm;have g:=ha.len;have P:0<=z:=by omega
 have R:z<=2251799813685248:=by omega
 have S:z/32=(k:Int):=by omega
 have T:z%32=(s:Int):=by omega
 clear hz;by_cases hkn:n<=k
 ·have y:val xs/2^(32*k+s)=0:=by have h:=ha.lt;rw[q1u] at h;have l:2^(32*n)<=2^(32*k+s):=k00 (by omega) (by omega);exact k0K (by omega)
  rw[y];clear y g;rcases hq with rfl|rfl;go_enter func359,ntmps359;rotate_left;go_enter func329,ntmps329;rotate_left;all_goals
   go_wp2;go_ret;exact⟨none,0,0,rfl,Rd.nil _,Fr.none_ _,Below.refl _ _⟩
 ·have H:=mk (n-k) (by omega);have C:((n-k:Nat):Int)=(n:Int)-(k:Int):=by omega
  rw[C] at H;clear C;have r:=vv g;clear g;obtain⟨b,off,rfl,t,u⟩:=ha.cell (by omega);have D:=vv u;clear u;rcases hq with rfl|rfl;go_enter func359,ntmps359;rotate_left;go_enter func329,ntmps329;rotate_left;all_goals
   go_wp2;go_loopw [8] (fun i wr=>∃(j:Nat) (V:List Nat),i=.int .i64 j/\j<=n-k/\V.length=n-k/\Own wr w.heap.size 54 V/\(∀p,p<j->nth V p=(val (xs.drop k)/2^s)/4294967296^p%4294967296)/\Below w.heap.size w wr) (fun i _=>n-k-(intOf i).toNat)
   case atStart=>exact⟨0,List.replicate (n-k) 0,rfl,k0x _,by simp,Own.made _ _ _,fun p hp=>absurd hp (by omega),(Below.refl _ _).alloc lr _⟩
   case round =>
    obtain⟨j,V,rfl,W,v,d,E,f⟩:=hrel;have a:=vv v;have F:=vv d;have m:=vv E;clear v E;have X:=d.lt;by_cases hjn:j<n-k
    ·have hx:wr.cell? ⟨b,off+(j+k),none⟩=some (.int .u32 ((nth xs (j+k):Nat):Int)):=(f.cell (p:=⟨b,off+(j+k),none⟩) t).trans (D.o (j+k) (by omega));have I:=ha.nth_lt (j+k);have Y:=d.cell (i:=j) (by rw[a.o];omega);have Z:=d.frozen j;clear d;by_cases hj1:j+k+1<n
     ·have hy:wr.cell? ⟨b,off+(j+k+1),none⟩=some (.int .u32 ((nth xs (j+k+1):Nat):Int)):=(f.cell (p:=⟨b,off+(j+k+1),none⟩) t).trans (D.o (j+k+1) (by omega));have J:=ha.nth_lt (j+k+1);have q:=vv (q4T _ _ s I J);go_wp2;go_roundw
      case rel =>
       refine⟨j+1,V.set j ((nth xs (j+k)+4294967296*nth xs (j+k+1))/2^s%4294967296),by go_num,by omega,by rw[k0c];exact a.o,F.o.set (by rw[a.o];omega) (k0i _ (by omega)) q.o,fun p hp=>?_,f.setCell lr _⟩;by_cases hpj:p=j
       ·subst hpj;rw[q0H V p _ p (by rw[a.o];omega),k0p rfl];have:=q2f (zs:=xs.drop k) (q13 ha.lim _) p s hs;rw[q0I,q0I,k0Z k p,<- k1M,k0Z k p] at this;exact this
       ·rw[q0i _ _ hpj];exact m.o p (by omega)
      case measure=>simp [intOf];omega
     ·have q:=vv (q6R (nth xs (j+k)) s);have L:=vv (q0U xs (j+k+1) (by rw[r.o];omega));go_wp2;go_roundw
      case rel =>
       refine⟨j+1,V.set j ((nth xs (j+k)+4294967296*0)/2^s%4294967296),by go_num,by omega,by rw[k0c];exact a.o,F.o.set (by rw[a.o];omega) (k0i _ (by omega)) q.o,fun p hp=>?_,f.setCell lr _⟩;by_cases hpj:p=j
       ·subst hpj;rw[q0H V p _ p (by rw[a.o];omega),k0p rfl];have:=q2f (zs:=xs.drop k) (q13 ha.lim _) p s hs;rw[q0I,q0I,k0Z k p,<- k1M,k0Z k p,L.o] at this;exact this
       ·rw[q0i _ _ hpj];exact m.o p (by omega)
      case measure=>simp [intOf];omega
    ·obtain rfl:j=n-k:=by omega
     have G:val V=val xs/2^(32*k+s):=by
      have h:=q1g (U:=V) (Q:=val (xs.drop k)/2^s) fun i hi=>m.o i (by rw[a.o] at hi;exact hi)
      have l:=q0Y (q13 ha.lim k);rw[k0t,r.o] at l;rw[h,a.o,k0E (k0I (k0q _ _) l),<- q17 ha.lim,k0h,k0e,q1u]
     have K:=vv G;clear G;have M:=vv (d.rd (n:=n-k) (c:=n-k) a.o.symm lr (by omega));clear d;go_wp2_with fail;refine(trim _ _ _ _ _ M.o).mono ?_;rintro e w' ⟨N,rfl,rfl,x⟩;rw[K.o] at x;go_wp2;go_ret;exact⟨_,N,n-k,rfl,x,Fr.at_ lr,f⟩
theorem down(A:Option Addr)(n c:Nat)(xs:List Nat)(e:Nat)(z:Int)(hz:z=(e:Int))(w:World)(ha:Rd w A n c xs)(hk:e<35184372088832)(hq:fq=359\/fq=329:=by decide):Calls qa fq #[.slice A n c,.int .i64 z] w (q0g (val xs/2^e) w):=by have h:=down_ (hq:=hq) A n c xs (e/32) (e%32) z (by omega) w ha (k0i _ (by omega)) (by omega);rw[show 32*(e/32)+e%32=e by omega] at h;exact h
end AB
namespace A
open AB
open Go Go.RowKit
def bitLen:=@AB.bitLen 174
def divSmall:=@AB.divSmall 357
def up_:=@AB.up_ 258
def up:=@AB.up 258
def down_:=@AB.down_ 359
def down:=@AB.down 359
end A
namespace B
open AB
open Go Go.RowKit
def bitLen:=@AB.bitLen 273
def divSmall:=@AB.divSmall 327
def up_:=@AB.up_ 257
def up:=@AB.up 257
def down_:=@AB.down_ 329
def down:=@AB.down 329
end B
end Go.Proofs.YtabcgemembkkcaaGreatDoor
