/- Lemmas. -/
import Derived.Test.YtabcgemembkkcaaGreatDoorDigsAA
import Derived.Laws.MathBits
import Derived.Lib.ItoaNum
set_option linter.all false
open Decidable renaming decide->qa
open Int renaming dvd_sub->qb
namespace Go.Proofs.YtabcgemembkkcaaGreatDoor
variable{n k a b x N h s i d r u v v1 v2 u3 p G c P R u0 u1 u2 y j A v0 B mode E F:Nat}{U Q xs V vs W X:List Nat}{m e f:Int}{q2Y neg:Bool}
section
def bl(n:Nat):Nat:=Go.bitLen n
theorem q8q:bl 0=0:=rfl
theorem q0O(n:Nat):n<2^bl n:=(Go.bitLen_spec n).1
theorem q9n(h:0<n):2^(bl n-1)<=n:=(Go.bitLen_spec n).2 (by omega)
theorem q3A(h:0<n):0<bl n:=by
 rcases k01 (bl n) with a|a
 ·have:=q0O n;rw[a] at this;omega
 ·exact a
theorem q0A(h:n<2^k):bl n<=k:=by
 rcases k01 n with a|a
 ·subst a;rw[q8q];omega
 ·have c:=q9n a;have d:=q3A a;have b:2^(bl n-1)<2^k:=by omega
  have:=(k1X (by omega:1<2)).1 b;omega
theorem qcN(h:n<2^k)(h1:2^(k-1)<=n)(hk:0<k):bl n=k:=by
 have b:=q0A h;have c:=q0O n;have a:2^(k-1)<2^bl n:=by omega
 have:=(k1X (by omega:1<2)).1 a;omega
theorem q1k(h:a<=b):bl a<=bl b:=q0A (k0I h (q0O b))
theorem q6t(h:x/2^b≠0):bl x=b+bl (x/2^b):=Go.bitLen_shift x b h
theorem q7X(h:x<18446744073709551616):Go.Lib.bitLen x=bl x:=by
 rcases k01 x with a|a
 ·subst a;rfl
 ·obtain⟨d,b,c⟩:=Go.Lib.bitLenAux_bounds 64 x h (by omega);exact(qcN c b (by omega)).symm
theorem q1u(k:Nat):4294967296^k=2^(32*k):=by rw[k1r]
theorem bl_words(h:0<N):bl N=32*(words N-1)+bl (nth (toL N) (words N-1))/\0<nth (toL N) (words N-1):=by
 have d:=q1V h;have a:=q0p N;have f:0<words N:=by
  rcases k01 (words N) with b|b
  ·rw[b] at a;simp at a;omega
  ·exact b
 have e:nth (toL N) (words N-1)=N/4294967296^(words N-1):=by rw[q19];apply k0E;apply k0s;rw[<- k0d,show(words N-1).succ=words N by omega];exact a
 have c:0<N/4294967296^(words N-1):=k2d d (k1g (by omega));rw[e];refine⟨?_,c⟩;rw[q1u] at c ⊢;exact q6t (by omega)
theorem q1g{Q:Nat}(h:∀i,i<U.length->nth U i=Q/4294967296^i%4294967296):val U=Q%4294967296^U.length:=by
 induction U generalizing Q with
 | nil=>simp [val,Nat.mod_one]
 | cons x xs ih =>
  have a:=h 0 (by simp);have b:nth (x::xs) 0=x:=rfl;rw[b] at a;have c:∀i,i<xs.length->nth xs i=(Q/4294967296)/4294967296^i%4294967296:=by
   intro i hi;have:=h (i+1) (by simp;omega);have e:nth (x::xs) (i+1)=nth xs i:=by unfold nth;simp
   rw[e,k0d,k0g,<- k0h] at this;exact this
  rw[val,ih c,k2o,a,k0B,k1b,k0d,k0g (4294967296^xs.length),k3d]
theorem q2f{zs:List Nat}(hl:Lim zs)(i s:Nat)(hs:s<32):(nth zs i+4294967296*nth zs (i+1))/2^s%4294967296=(val zs/2^s)/4294967296^i%4294967296:=by
 have a:val zs/4294967296^i=nth zs i+4294967296*nth zs (i+1)+18446744073709551616*val (zs.drop (i+1+1)):=by rw[q17 hl,q0t zs i,q0t zs (i+1)];omega
 have b:(val zs/2^s)/4294967296^i=(val zs/4294967296^i)/2^s:=by rw[k0h,k0h,k0g]
 rw[b,a];have c:18446744073709551616*val (zs.drop (i+1+1))=2^s*(2^(32-s)*(4294967296*val (zs.drop (i+1+1)))):=by rw[<- k0j,<- k0e,show s+(32-s)=32 by omega];omega
 rw[c,k21 _ _ (k0a s),<- k0j,k0g (2^(32-s)),k0j,k1E]
theorem qch{l:Nat}(hh:h<2^s):h ||| 2^s*l=h+2^s*l:=by have:=k1p hh l;rw[Nat.or_comm,<- this,k0Z]
theorem q49(hx:x<4294967296)(hs:s<32):(x*2^s)%4294967296=2^s*(x%2^(32-s))/\(x*2^s)/4294967296<2^s/\x*2^s<18446744073709551616:=by
 have e:(4294967296:Nat)=2^s*2^(32-s):=by rw[<- k0e,show s+(32-s)=32 by omega]
 have a:0<2^s:=k0a s;refine⟨?_,?_,?_⟩
 ·rw[k0g x]
  conv=>lhs;rw[e]
  rw[Nat.mul_mod_mul_left]
 ·apply k0s;exact k0L hx a
 ·have b:2^s<=2^31:=k00 (by omega) (by omega);have c:x*2^s<=4294967295*2^31:=k2q (by omega) b;omega
theorem q48(hU:i+k+1<U.length)(hh:nth U (i+k)=h)(hlt:h<2^s)(hx:nth xs i=x)(hxl:x<4294967296)(hs:s<32)
  (hv:val (U.take (i+k))+4294967296^(i+k)*h=4294967296^k*(2^s*val (xs.take i))) :
  val (((U.set (i+k) (h ||| (x*2^s)%4294967296)).set (i+k+1) ((x*2^s)/4294967296)).take (i+1+k))+4294967296^(i+1+k)*((x*2^s)/4294967296)=4294967296^k*(2^s*val (xs.take (i+1))):=by
 obtain⟨a,c,_⟩:=q49 hxl hs;rw[show i+1+k=i+k+1 by omega,List.take_set_of_le (Nat.le_refl _),q0j U _ _ (by omega),a,qch hlt,q07,hx,k0d,k0j,k1M,<- k0u,<- a];have b:h+x*2^s%4294967296+4294967296*(x*2^s/4294967296)=h+x*2^s:=by omega
 rw[b,k0u,k0u,k0u,<- hv];have d:4294967296^(i+k)*(x*2^s)=4294967296^k*(2^s*(4294967296^i*x)):=by rw[k0e,k0g x,k0j,k0W,k0W (4294967296^i)]
 omega
theorem q7b(hU:U.length=n+k+1)(hx:xs.length<=n)(hh:nth U (n+k)=h)
  (hv:val (U.take (n+k))+4294967296^(n+k)*h=4294967296^k*(2^s*val (xs.take n))):val U=val xs*2^(32*k+s):=by
 rw[q0f (xs:=xs) hx] at hv;have e:=q07 U (n+k);rw[q0f (xs:=U) (by omega),hh,hv] at e;rw[e,k0e,<- q1u,<- k0j,k0g]
theorem divs_step(hd:0<d)(hr:r<d)(hx:nth xs i<4294967296)(hv:∀j,i<j->nth V j=(val xs/d)/4294967296^j%4294967296)(hr':r=(val xs/4294967296^(i+1))%d)(hl:Lim xs):(r*4294967296+nth xs i)/d=(val xs/d)/4294967296^i%4294967296/\(r*4294967296+nth xs i)%d=(val xs/4294967296^i)%d/\(r*4294967296+nth xs i)/d<4294967296:=by
 have c:val xs/4294967296^i=nth xs i+4294967296*(val xs/4294967296^(i+1)):=by rw[q17 hl,q17 hl,q0t]
 generalize hM:val xs/4294967296^(i+1)=M at *
 have e:M=d*(M/d)+r:=by rw[hr'];exact(k0F M d).symm
 have a:val xs/4294967296^i=(r*4294967296+nth xs i)+d*(4294967296*(M/d)):=by
  rw[c];have:4294967296*M=4294967296*(d*(M/d))+4294967296*r:=by rw[<- k0u,<- e]
  rw[this,k0W];omega
 have b:(r*4294967296+nth xs i)/d<4294967296:=by apply k0s;have:(r+1)*4294967296<=d*4294967296:=k0y _ hr;omega
 refine⟨?_,?_,b⟩
 ·have f:(val xs/d)/4294967296^i=(val xs/4294967296^i)/d:=by rw[k0h,k0h,k0g]
  rw[f,a,k21 _ _ hd,k1E,k0E b]
 ·rw[a,k1E]
end
section
theorem q83(hv:(v1*4294967296+v2)*p<=v)(hu:u<(u3+1)*p)(h:u3<G*(v1*4294967296+v2)):u/v<G:=by have a:(u3+1)*p<=G*(v1*4294967296+v2)*p:=k0y _ h;rw[k0j] at a;have b:G*((v1*4294967296+v2)*p)<=G*v:=k0m _ hv;exact k0s (by rw[k0g];exact k03 hu (k07 a b))
theorem q6M(hv:v<(v1*4294967296+v2+1)*p)(hv':(v1*4294967296+v2)*p<=v)(hu:u3*p<=u)(hv1:0<v1)(hG:G<4294967296)(h:G*(v1*4294967296+v2)<=u3):G<=u/v+1:=by
 rcases k01 G with b|b
 ·rw[b];exact k0x _
 ·have a:0<p:=by
   rcases k01 p with a|a
   ·subst a;omega
   ·exact a
  have c:0<v:=by have:0<(v1*4294967296+v2)*p:=k0N (by omega) a;omega
  have d:G*(v1*4294967296+v2)*p<=u3*p:=k0y _ h;rw[k0j] at d;have e:G*v<=G*((v1*4294967296+v2)*p+p):=k0m _ (by rw[k1f,k0S] at hv;omega);rw[k0u] at e;have g:G*p<=v:=by have i:G*p<=(v1*4294967296+v2)*p:=k0y _ (by omega);omega
  have f:(G-1)*v<=u:=by
   have j:G*v=(G-1)*v+v:=by conv=>lhs;rw[show G=(G-1)+1 by omega,k1f,k0S]
   omega
  have:=(k1v c).2 f;omega
theorem q7O{b':Nat}(hX:i<X.length)(hs:nth X i=nth W i)(hd:d+(G*nth vs i+c)%4294967296+b=nth X i+4294967296*b')
  (h:val (X.take i)+G*val (vs.take i)=val (W.take i)+4294967296^i*(c+b)) :
  val ((X.set i d).take (i+1))+G*val (vs.take (i+1))=val (W.take (i+1))+4294967296^(i+1)*((G*nth vs i+c)/4294967296+b'):=by
 rw[q0j X i _ hX,q07,q07,k0d,k0j,<- hs];have e:=k0F (G*nth vs i+c) 4294967296;have a:4294967296^i*(d+(G*nth vs i+c)+b)=4294967296^i*(nth X i+4294967296*((G*nth vs i+c)/4294967296+b')):=by congr 1;omega
 rw[k0u,k0u,k0u,k0u] at a;rw[k0u G,k0W G];rw[k0u] at h;omega
theorem q7R(hX:i<X.length)(hs:nth X i=nth W i)
  (h:val (X.take i)+4294967296^i*c=val (W.take i)+val (vs.take i)) :
  val ((X.set i ((nth X i+nth vs i+c)%4294967296)).take (i+1))+4294967296^(i+1)*((nth X i+nth vs i+c)/4294967296)=val (W.take (i+1))+val (vs.take (i+1)):=by
 rw[q0j X i _ hX,q07,q07,k0d,k0j,k1M,<- k0u,k2g,hs,k0u,k0u];omega
theorem q1E(U:List Nat)(j i x:Nat):(U.set (j+i) x).drop j=(U.drop j).set i x:=by
 apply q3u
 ·rw[k0t,k0c,k0c,k0t]
 ·intro k a;rw[k0t,k0c] at a;rw[q0I];by_cases h:k=i
  ·subst h;rw[q0H _ _ _ _ (by omega),k0p rfl,q0H _ _ _ _ (by rw[k0t];omega),k0p rfl]
  ·rw[q0i _ _ (by omega),q0i _ _ h,q0I]
theorem q89{q X:Nat}(h:X+G*v=u)(hlow:u/v<=G)(hv:0<v)(hq:q=u/v)(_:X<P):G=q/\X=u%v:=by
 have a:G*v<=u:=by omega
 have c:=(k1v hv).2 a;have b:G=u/v:=by omega
 refine⟨by omega,?_⟩;have:=k0F u v;rw[<- b,k0g] at this;omega
theorem q9x{X:Nat}(h:X+G*v=u+P)(hX:X<P)(hhigh:G<=u/v+1)(hv:0<v):G=u/v+1/\X+v=u%v+P:=by
 have b:u<G*v:=by omega
 have c:u/v<G:=k0s (by rw[k0g];exact b);have a:G=u/v+1:=by omega
 refine⟨a,?_⟩;have:=k0F u v;rw[a,k1f,k0S,k0g] at h;omega
theorem q4Q(he:G*v1+R=u1+4294967296*u0)(h:G*v2<=R*4294967296+u2):G*(v1*4294967296+v2)<=u2+4294967296*u1+18446744073709551616*u0:=by rw[k0u,<- k0j];omega
theorem q9r(he:G*v1+R=u1+4294967296*u0)(h:R*4294967296+u2<G*v2):u2+4294967296*u1+18446744073709551616*u0<G*(v1*4294967296+v2):=by rw[k0u,<- k0j];omega
theorem q5y(hv:2147483648<=v1)(hv':v1<4294967296)(hu0:u0<=v1)(hu1:u1<4294967296)(hu2:u2<4294967296):u2+4294967296*u1+18446744073709551616*u0<((u1+4294967296*u0)/v1+1)*(v1*4294967296+v2)/\(u1+4294967296*u0)/v1<=4294967297/\(u1+4294967296*u0)/v1*v1+(u1+4294967296*u0)%v1=u1+4294967296*u0:=by
 have a:=k0F (u1+4294967296*u0) v1;have b:=k0i (u1+4294967296*u0) (show v1 > 0 by omega);have c:(u1+4294967296*u0)/v1<4294967298:=k0s (by omega);generalize (u1+4294967296*u0)/v1=G at *
 generalize (u1+4294967296*u0)%v1=R at *
 rw[k0g] at a;refine⟨?_,by omega,a⟩;rw[k0u,<- k0j,k1f,k0S];omega
theorem q5z(he:G*v1+R=u1+4294967296*u0)(hu0:u0<=v1)(hu1:u1<4294967296)(hR:4294967296<=R)(hv2:v2<4294967296):G<4294967296/\∀u2,G*v2<=R*4294967296+u2:=by
 have a:G<4294967296:=by
  rcases k0A G 4294967296 with h|h
  ·exact h
  ·have b:4294967296*v1<=G*v1:=k0y _ h;omega
 refine⟨a,fun u2=>?_⟩;have:=q1i a hv2;omega
theorem q8j(h:G*v1+R=N)(hG:0<G):(G-1)*v1+(R+v1)=N:=by
 have e:G*v1=(G-1)*v1+v1:=by conv=>lhs;rw[show G=(G-1)+1 by omega,k1f,k0S]
 omega
theorem qah(x z y:Nat)(hx:x<4294967296)(hz:z<4294967296)(hy:y<=1):∃d q,d<4294967296/\q<=1/\d+z+y=x+4294967296*q:=by
 by_cases h:z+y<=x
 ·exact⟨x-z-y,0,by omega,by omega,by omega⟩
 ·exact⟨x+4294967296-z-y,1,by omega,by omega,by omega⟩
theorem q9y{Y:Nat}(hY:Y<4294967296^n)(hr:r<4294967296^n)(h:Y+4294967296^n*(c+d)=r+4294967296^n*4294967296):c+d=4294967296/\Y=r:=by
 rcases k1K (c+d) 4294967296 with a|a|a
 ·have b:4294967296^n*(c+d+1)<=4294967296^n*4294967296:=k0m _ a;rw[k0u _ _ 1,k0G] at b;omega
 ·rw[a] at h;exact⟨a,by omega⟩
 ·have b:4294967296^n*(4294967296+1)<=4294967296^n*(c+d):=k0m _ a;rw[k0u _ _ 1,k0G] at b;omega
theorem q7P(hXl:n<X.length)(hW:u=val (W.take (n+1)))(hu0:nth W n=u0)(hd:d+x+y=u0+4294967296*b)
  (h:val (X.take n)+G*v=val (W.take n)+4294967296^n*(x+y)):val ((X.set n d).take (n+1))+G*v=u+4294967296^(n+1)*b:=by
 rw[q0j X n d hXl,hW,q07,hu0,k0d,k0j];have e:4294967296^n*(d+(x+y))=4294967296^n*(u0+4294967296*b):=by congr 1;omega
 simp only[k0u] at e h ⊢;omega
end
section
theorem q31(xs:List Nat)(n:Nat):val (xs++List.replicate n 0)=val xs:=by rw[q1c,q0d];simp
theorem q9h(h:0<b):words (b*2^(32-bl (nth (toL b) (words b-1))))=words b/\2147483648<=nth (toL (b*2^(32-bl (nth (toL b) (words b-1))))) (words b-1)/\32-bl (nth (toL b) (words b-1))<32:=by
 obtain⟨e,f⟩:=bl_words h;have m:0<words b:=by
  rcases k01 (words b) with a|a
  ·have:=q06.1 a;omega
  ·exact a
 have n:bl (nth (toL b) (words b-1))<=32:=q0A (nth_lt (q1H b) _);have o:=q3A f;generalize nth (toL b) (words b-1)=t at *
 have g:=q0O b;have i:=q9n h;have c:b*2^(32-bl t)<2^(32*words b):=by have:b*2^(32-bl t)<2^bl b*2^(32-bl t):=k0L g (k0a _);rw[<- k0e,show bl b+(32-bl t)=32*words b by omega] at this;exact this
 have d:2^(32*words b-1)<=b*2^(32-bl t):=by have:2^(bl b-1)*2^(32-bl t)<=b*2^(32-bl t):=k0y _ i;rw[<- k0e,show bl b-1+(32-bl t)=32*words b-1 by omega] at this;exact this
 rw[<- q1u] at c;have j:4294967296^(words b-1)<=b*2^(32-bl t):=by rw[q1u];exact k07 (k00 (by omega) (by omega)) d
 have k:words (b*2^(32-bl t))=words b:=by have p:=q15 c;have l:=q0p (b*2^(32-bl t));have q:words b-1<words (b*2^(32-bl t)):=qab (k0I j l);omega
 refine⟨k,?_,by omega⟩;rw[q19,k0E]
 ·rw[k1v (k1g (by omega)),q1u];rw[show(2147483648:Nat)=2^31 by rfl,<- k0e,show 31+32*(words b-1)=32*words b-1 by omega];exact d
 ·apply k0s;rw[<- k0d,show(words b-1).succ=words b by omega];exact c
theorem qbE(hl:Lim U)(hv:v<=4294967296^n)(h:val (U.drop (j+1))<v):val ((U.drop j).take (n+1))=val (U.drop j)/\val ((U.drop j).take (n+1))<4294967296*v:=by
 have c:val (U.drop j)=nth U j+4294967296*val (U.drop (j+1)):=q0t U j;have d:=nth_lt hl j;have a:val (U.drop j)<4294967296^(n+1):=by rw[k0d];omega
 have b:val ((U.drop j).take (n+1))=val (U.drop j):=by rw[<- q3c (q13 hl j),k0E a]
 exact⟨b,by omega⟩
theorem q9F(hl:Lim U)(hl':Lim V)(hlen:V.length=U.length)(hjn:j+n+1<=U.length)(hs:∀p,p<j\/j+n+1<=p->nth V p=nth U p)
  (hw:val ((U.drop j).take (n+1))=val (U.drop j)) (hr:val ((V.drop j).take (n+1))=val ((U.drop j).take (n+1))%v) :
  val V+4294967296^j*(v*(val ((U.drop j).take (n+1))/v))=val U/\val (V.drop j)=val (U.drop j)%v:=by
 have d:V.take j=U.take j:=q3u (by rw[k0v,k0v,hlen]) fun i hi=>by rw[k0v] at hi;rw[q4k _ _ _ (by omega),q4k _ _ _ (by omega)];exact hs i (by omega)
 have e:V.drop (j+(n+1))=U.drop (j+(n+1)):=q3u (by rw[k0t,k0t,hlen]) fun i _=>by rw[q0I,q0I];exact hs _ (by omega)
 have z:val (U.drop (j+(n+1)))=0:=by
  have a:=q0G (U.drop j) (n+1) (by rw[k0t];omega);rw[hw,List.drop_drop] at a;have k:0<4294967296^(n+1):=k1g (by omega);rcases k01 (val (U.drop (j+(n+1)))) with h|h
  ·exact h
  ·have:4294967296^(n+1)*1<=4294967296^(n+1)*val (U.drop (j+(n+1))):=k0m _ h;omega
 have b:val (V.drop j)=val (U.drop j)%v:=by have a:=q0G (V.drop j) (n+1) (by rw[k0t];omega);rw[List.drop_drop,e,z,k1m,k1u,hr,hw] at a;exact a
 refine⟨?_,b⟩;have c:=q0G V j (by omega);have f:=q0G U j (by omega);rw[d,b] at c;rw[c,f,hw];have g:=k0F (val (U.drop j)) v;rw[k1M,<- k0u,k0Z (val (U.drop j)%v),g]
theorem q9a(hj:j<Q.length):val ((Q.set j x).drop j)=x+4294967296*val (Q.drop (j+1)):=by rw[q0t,q0H _ _ _ _ hj,k0p rfl];have e:(Q.set j x).drop (j+1)=Q.drop (j+1):=List.drop_set_of_lt (by omega);rw[e]
theorem q8g{m:Nat}(hl:Lim U)(hU:val U=a*2^s)(ha:a<4294967296^n)(hs:s<32)(hmn:m<=n)(hm:0<m)(ht:2147483648<=nth (toL (b*2^s)) (m-1)):val (U.drop (n-m+1))<b*2^s:=by
 rw[<- q17 hl,hU];apply k0s;rw[q19] at ht;have c:2147483648<=b*2^s/4294967296^(m-1):=k07 ht (Nat.mod_le _ _);rw[k1v (k1g (by omega))] at c;have f:a*2^s<4294967296^n*2147483648:=by have d:2^s<=2^31:=k00 (by omega) (by omega);have g:a*2^s<4294967296^n*2^s:=k0L ha (k0a _);have h:4294967296^n*2^s<=4294967296^n*2^31:=k0m _ d;omega
 have e:4294967296^(n-m+1)*(2147483648*4294967296^(m-1))<=4294967296^(n-m+1)*(b*2^s):=k0m _ c;rw[k0W,<- k0e,show n-m+1+(m-1)=n by omega] at e;omega
theorem qbg(hb:0<b)(h:a*2^s=val U+b*2^s*val Q)(hu:val U<b*2^s):val Q=a/b/\val U/2^s=a%b:=by
 have c:0<2^s:=k0a s;have d:a*2^s/(b*2^s)=val Q:=by rw[h,k21 _ _ (k0N hb c),k0K hu,k10]
 have e:a*2^s%(b*2^s)=val U:=by rw[h,k1E,k0E hu]
 rw[Nat.mul_div_mul_right _ _ c] at d;rw[Nat.mul_mod_mul_right] at e;exact⟨d.symm,by rw[<- e,k2S _ c]⟩
theorem qbf(hj:j<Q.length)(h:A=val U+v*(4294967296^(j+1)*val (Q.drop (j+1))))(hs:val V+4294967296^j*(v*x)=val U):A=val V+v*(4294967296^j*val ((Q.set j x).drop j)):=by rw[q9a hj,h,<- hs,k0u (4294967296^j),k0u v,k0d,k0j (4294967296^j),k0W v (4294967296^j) x];omega
end
section
structure Lehmer(a b e x y u1 u2 v1 v2:Nat)(q2Y:Bool):Prop where
 i1:a/2^e=v2*x+v1*y
 i2:b/2^e=u2*x+u1*y
 det:if q2Y then u1*v2+1=u2*v1 else u1*v2=u2*v1+1
 hu1:u1<=v2
 hu2:u2<=v2
 hs:u1+u2<=v1+v2
 hv:v1<=v2
 h1:1<=v2
 hxy:y<=x
 hx:x<1152921504606846976
structure Good(a b u0 u1 v0 v1:Nat)(q2Y:Bool)(A B:Nat):Prop where
 ea:if q2Y then(A:Int)=u0*a-v0*b else(A:Int)=v0*b-u0*a
 eb:if q2Y then(B:Int)=v1*b-u1*a else(B:Int)=u1*a-v1*b
 ja:(a:Int)=v1*A+v0*B
 jb:(b:Int)=u1*A+u0*B
 le:B<=A
 p0:1<=v0
 p1:1<=v1
 bu0:u0<1073741824
 bu1:u1<1073741824
 bv0:v0<1073741824
 bv1:v1<1073741824
theorem q2X{e:Nat}(h:b<=a)(hx:a/2^e<1152921504606846976):Lehmer a b e (a/2^e) (b/2^e) 1 0 0 1 false:=⟨by simp,by simp,by simp,by omega,by omega,by omega,by omega,by omega,Nat.div_le_div_right h,hx⟩
theorem q9j(h:v*v<1152921504606846976):v<1073741824:=by apply k2G;intro a;have:=k2q a a;omega
theorem q27{e:Nat}(h:Lehmer a b e x y u1 u2 v1 v2 q2Y)(ha:a/2^e<1152921504606846976)(hy:v2<=y):v2<1073741824:=by apply q9j;have c:v2*v2<=v2*x:=k0m _ (k07 hy h.hxy);have d:=h.i1;omega
theorem q3r{e:Nat}(h:Lehmer a b e x y u1 u2 v1 v2 q2Y)(hy:v2<=y):Lehmer a b e y (x-x/y*y) u2 (u1+x/y*u2) v2 (v1+x/y*v2) (!q2Y):=by
 have g:0<y:=k03 h.h1 hy;have j:1<=x/y:=(k1v g).2 (by have:=h.hxy;omega);have hx:x=x/y*y+(x-x/y*y):=by have:=Nat.div_mul_le_self x y;omega
 have k:x-x/y*y<y:=by have:=k0i x g;have e:=k2g x y;rw[k0g] at e;omega
 generalize x-x/y*y=r at *
 generalize x/y=q at *
 obtain⟨p,rfl⟩:∃p,q=p+1:=⟨q-1,by omega⟩;have c:p*u2<=p*v2:=k0m _ h.hu2;have d:(p+1)*u2=p*u2+u2:=Nat.succ_mul _ _;have f:(p+1)*v2=p*v2+v2:=Nat.succ_mul _ _;have l:=h.hu1;have m:=h.hu2;have n:=h.hs;have o:=h.hv;have s:=h.h1;have t:=h.hx;have u:=h.hxy;refine⟨?_,?_,?_,by omega,by omega,by omega,by omega,by omega,by omega,by omega⟩
 ·rw[h.i1]
  conv=>lhs;rw[hx]
  clear hx c d f
  grind
 ·rw[h.i2]
  conv=>lhs;rw[hx]
  clear hx c d f
  grind
 ·have i:=h.det;clear hx c d f h;cases q2Y
  ·simp only[k1B,k39,k2B,k3e] at i ⊢
   grind
  ·simp only[k3e,k2M,k1B,k39] at i ⊢
   grind
theorem q2B{u r M:Int}(hu:0<=u)(hr:r<=M):u*r<=u*M:=k1F hr hu
theorem q3s{e:Nat}(h:Lehmer a b e x y u1 u2 v1 v2 q2Y)(ha:a/2^e<1152921504606846976)(hy:v2<=y)(hxy:v1+v2<=x-y)(h1:1<=v1):∃A B,Good a b u1 u2 v1 v2 (!q2Y) A B:=by
 have S:=q27 h ha hy;have d:(a:Int)=(2^e:Nat)*((v2:Int)*x+v1*y)+((a%2^e:Nat):Int):=by have z:=k0F a (2^e);rw[h.i1] at z;have:=k0z (fun n:Nat=>(n:Int)) z;simp only[k1o,k0f] at this;omega
 have f:(b:Int)=(2^e:Nat)*((u2:Int)*x+u1*y)+((b%2^e:Nat):Int):=by have z:=k0F b (2^e);rw[h.i2] at z;have:=k0z (fun n:Nat=>(n:Int)) z;simp only[k1o,k0f] at this;omega
 have I:((a%2^e:Nat):Int)<=((2^e:Nat):Int):=k2a.2 (k1l (k0i _ (k0a _)));have J:((b%2^e:Nat):Int)<=((2^e:Nat):Int):=k2a.2 (k1l (k0i _ (k0a _)));have G:(0:Int)<=((a%2^e:Nat):Int):=k0k _;have H:(0:Int)<=((b%2^e:Nat):Int):=k0k _;have F:(0:Int)<=((2^e:Nat):Int):=k0k _;have g:=h.det;have T:=h.hu1;have Q:=h.hu2;have U:=h.hs;have V:=h.hv;have W:=h.hxy;clear h;generalize ((a%2^e:Nat):Int)=s at *
 generalize ((b%2^e:Nat):Int)=t at *
 generalize ((2^e:Nat):Int)=M at *
 have R:(v2:Int)<=(y:Int):=k2a.2 hy;have L:(v1:Int)+v2<=(x:Int)-y:=by omega
 have N:(u2:Int)<=(v2:Int):=k2a.2 Q;have O:(u1:Int)+u2<=(v1:Int)+v2:=by omega
 have n1:(0:Int)<=(u1:Int):=k0k _;have K:(0:Int)<=(u2:Int):=k0k _;have n3:(0:Int)<=(v1:Int):=k0k _;have n4:(0:Int)<=(v2:Int):=k0k _;have l:M*(v2:Int)<=M*(y:Int):=k1F R F;have m:M*((v1:Int)+v2)<=M*((x:Int)-y):=k1F L F;have o:(u2:Int)*s<=u2*M:=q2B K I;have p:(u2:Int)*M<=v2*M:=k1C N F;have q:(v2:Int)*t<=v2*M:=q2B n4 J;have r:((u1:Int)+u2)*s<=(u1+u2)*M:=q2B (by omega) I;have u:((u1:Int)+u2)*M<=(v1+v2)*M:=k1C O F;have v:((v1:Int)+v2)*t<=(v1+v2)*M:=q2B (by omega) J;have w:(0:Int)<=(u2:Int)*s:=k18 K G;have i:(0:Int)<=(v2:Int)*t:=k18 n4 H;have j:(0:Int)<=((u1:Int)+u2)*s:=k18 (by omega) G;have k:(0:Int)<=((v1:Int)+v2)*t:=k18 (by omega) H;cases q2Y
 ·simp only[k1B,k39] at g;have P:(u1:Int)*v2=u2*v1+1:=by
   have:=k0z (fun n:Nat=>(n:Int)) g
   simpa using this
  have C:(v2:Int)*b-u2*a=M*y+v2*t-u2*s:=by rw[d,f];clear l m o p q r u v w i j k d f;grind
  have D:((u1:Int)*a-v1*b)-((v2:Int)*b-u2*a)=M*((x:Int)-y)+(u1+u2)*s-(v1+v2)*t:=by rw[d,f];clear l m o p q r u v w i j k d f;grind
  have c1:M*(v2:Int)=v2*M:=k2J _ _;have c2:M*((v1:Int)+v2)=(v1+v2)*M:=k2J _ _;have c:0<=(v2:Int)*b-u2*a:=by rw[C];omega
  have E:0<=((u1:Int)*a-v1*b)-((v2:Int)*b-u2*a):=by rw[D];omega
  clear l m o p q r u v w i j k d f C D c1 c2;refine⟨((u1:Int)*a-v1*b).toNat,((v2:Int)*b-u2*a).toNat,?_,?_,?_,?_,by omega,h1,by omega,by omega,by omega,by omega,by omega⟩
  ·rw[k2B,k0p rfl,k19 (by omega)]
  ·rw[k2B,k0p rfl,k19 c]
  ·rw[k19 (by omega),k19 c];clear E c g;grind
  ·rw[k19 (by omega),k19 c];clear E c g;grind
 ·simp only[k3e] at g;have P:(u1:Int)*v2+1=u2*v1:=by
   have:=k0z (fun n:Nat=>(n:Int)) g
   simpa using this
  have C:(u2:Int)*a-v2*b=M*y+u2*s-v2*t:=by rw[d,f];clear l m o p q r u v w i j k d f;grind
  have D:((v1:Int)*b-u1*a)-((u2:Int)*a-v2*b)=M*((x:Int)-y)+(v1+v2)*t-(u1+u2)*s:=by rw[d,f];clear l m o p q r u v w i j k d f;grind
  have c1:M*(v2:Int)=v2*M:=k2J _ _;have c2:M*((v1:Int)+v2)=(v1+v2)*M:=k2J _ _;have c:0<=(u2:Int)*a-v2*b:=by rw[C];omega
  have E:0<=((v1:Int)*b-u1*a)-((u2:Int)*a-v2*b):=by rw[D];omega
  clear l m o p q r u v w i j k d f C D c1 c2;refine⟨((v1:Int)*b-u1*a).toNat,((u2:Int)*a-v2*b).toNat,?_,?_,?_,?_,by omega,h1,by omega,by omega,by omega,by omega,by omega⟩
  ·rw[k2M,k0r (by decide),k19 (by omega)]
  ·rw[k2M,k0r (by decide),k19 c]
  ·rw[k19 (by omega),k19 c];clear E c g;grind
  ·rw[k19 (by omega),k19 c];clear E c g;grind
theorem q6e(h:Good a b u0 u1 v0 v1 q2Y A B):Nat.gcd A B=Nat.gcd a b:=by
 have g:a=v1*A+v0*B:=by have:=h.ja;exact k2y (by rw[k20,k20,this];simp)
 have i:b=u1*A+u0*B:=by have:=h.jb;exact k2y (by rw[k20,k20,this];simp)
 apply Nat.dvd_antisymm
 ·have e:=k1H A B;have f:=k17 A B;refine Nat.dvd_gcd ?_ ?_
  ·conv=>rhs;rw[g]
   exact Nat.dvd_add (k38 e (k32 _ _)) (k38 f (k32 _ _))
  ·conv=>rhs;rw[i]
   exact Nat.dvd_add (k38 e (k32 _ _)) (k38 f (k32 _ _))
 ·have c:((Nat.gcd a b:Nat):Int) ∣ (a:Int):=k2j.2 (k1H a b);have d:((Nat.gcd a b:Nat):Int) ∣ (b:Int):=k2j.2 (k17 a b);refine Nat.dvd_gcd ?_ ?_
  ·apply k2j.1;have:=h.ea;cases q2Y
   ·rw[k0r (by decide)] at this;rw[this];exact qb (k2i d (k1Y _ _)) (k2i c (k1Y _ _))
   ·rw[k0p rfl] at this;rw[this];exact qb (k2i c (k1Y _ _)) (k2i d (k1Y _ _))
  ·apply k2j.1;have:=h.eb;cases q2Y
   ·rw[k0r (by decide)] at this;rw[this];exact qb (k2i c (k1Y _ _)) (k2i d (k1Y _ _))
   ·rw[k0p rfl] at this;rw[this];exact qb (k2i d (k1Y _ _)) (k2i c (k1Y _ _))
theorem q84(h:Good a b u0 u1 v0 v1 q2Y A B):A+B<=a:=by
 have c:a=v1*A+v0*B:=by have:=h.ja;exact k2y (by rw[k20,k20,this];simp)
 rw[c];exact Nat.add_le_add (k1R _ h.p1) (k1R _ h.p0)
end
section
open Go
def p2(n:Int):Nat:=2^n.toNat
theorem q1d(n:Int):0<p2 n:=k0a _
theorem q0s{n:Int}(h:n<=0):p2 n=1:=by unfold p2;rw[show n.toNat=0 by omega]
theorem q1D(n:Nat):p2 (n:Int)=2^n:=by unfold p2;rw[k2f]
theorem q2z{n:Int}(h:0<=m)(k:0<=n):p2 (m+n)=p2 m*p2 n:=by unfold p2;rw[Int.toNat_add h k,k0e]
theorem q63(m n:Int):p2 (m+n)*(p2 (-m)*p2 (-n))=p2 (-(m+n))*(p2 m*p2 n):=by unfold p2;rw[<- k0e,<- k0e,<- k0e,<- k0e];congr 1;omega
theorem qdt{n:Int}(h0:0<=m)(h:m<n):2*p2 m<=p2 n:=by unfold p2;rw[k0g,<- k0d];exact k00 (by omega) (by omega)
def q4y(e:Int)(a b:Nat):Prop:=b*p2 e<=a*p2 (-e)/\a*p2 (-e)<2*(b*p2 e)
theorem q9m(h:e<=f)(hf:b*p2 f<=a*p2 (-f)):b*p2 e<=a*p2 (-e):=by
 have k:=q63 e (f-e);rw[show e+(f-e)=f by omega,q0s (n:=-(f-e)) (by omega),k0G] at k;have c:=q1d (f-e);have d:=q1d (-f);have g:b*p2 f*p2 (-e)<=a*p2 (-f)*p2 (-e):=k0y _ hf;have i:p2 (-f)*(b*p2 e)<=p2 (-f)*(a*p2 (-e)):=by
  calc p2 (-f)*(b*p2 e)<=p2 (-f)*(b*p2 e)*p2 (f-e):=k2Q _ c
   _=b*(p2 (-f)*(p2 e*p2 (f-e))):=by grind
   _=b*(p2 f*p2 (-e)):=by rw[k]
   _=b*p2 f*p2 (-e):=by grind
   _<=a*p2 (-f)*p2 (-e):=g
   _=p2 (-f)*(a*p2 (-e)):=by grind
 exact k2D i d
theorem q38(h:e<f)(hf:a*p2 (-e)<2*(b*p2 e)):a*p2 (-f)<b*p2 f:=by
 have k:=q63 e (f-e);rw[show e+(f-e)=f by omega,q0s (n:=-(f-e)) (by omega),k0G] at k;have d:2*1<=p2 (f-e):=by have:=qdt (m:=0) (n:=f-e) (by omega) (by omega);simpa [p2] using this
 have g:=q1d (-e);have c:p2 (-e)*(a*p2 (-f))<p2 (-e)*(b*p2 f):=by
  calc p2 (-e)*(a*p2 (-f))=a*p2 (-e)*p2 (-f):=by grind
   _<2*(b*p2 e)*p2 (-f):=k0L hf (q1d _)
   _<=p2 (f-e)*(b*p2 e)*p2 (-f):=k0y _ (k0y _ (by omega))
   _=b*(p2 (-f)*(p2 e*p2 (f-e))):=by grind
   _=b*(p2 f*p2 (-e)):=by rw[k]
   _=p2 (-e)*(b*p2 f):=by grind
 exact k1t c
theorem q4y.uniq(h:q4y e a b)(k:q4y f a b):e=f:=by
 rcases k11 e f with c|c|c
 ·have d:=q38 c h.2;have:=k.1;omega
 ·exact c
 ·have d:=q38 c k.2;have:=h.1;omega
def q1K(a b:Nat):Int:=if a*p2 (-((bl a:Int)-bl b))<b*p2 ((bl a:Int)-bl b) then(bl a:Int)-bl b-1 else(bl a:Int)-bl b
theorem q1O(ha:0<a)(hb:0<b):q4y (q1K a b) a b:=by
 have d:=q0O a;have f:=q9n ha;have g:=q0O b;have i:=q9n hb;have n:=q3A ha;have o:=q3A hb;have hi:a*p2 (-((bl a:Int)-bl b))<2*(b*p2 ((bl a:Int)-bl b)):=by
  have c:p2 (bl a:Int)*p2 (-((bl a:Int)-bl b))=p2 (bl b:Int)*p2 ((bl a:Int)-bl b):=by unfold p2;rw[<- k0e,<- k0e];congr 1;omega
  rw[q1D,q1D] at c
  calc a*p2 (-((bl a:Int)-bl b))<2^bl a*p2 (-((bl a:Int)-bl b)):=k0L d (q1d _)
   _=2^bl b*p2 ((bl a:Int)-bl b):=c
   _=2*2^(bl b-1)*p2 ((bl a:Int)-bl b):=by rw[k0g 2,<- k0d,show(bl b-1).succ=bl b by omega]
   _<=2*b*p2 ((bl a:Int)-bl b):=k0y _ (k0m _ i)
   _=_:=by grind
 have j:b*p2 ((bl a:Int)-bl b-1)<=a*p2 (-((bl a:Int)-bl b-1)):=by
  have c:p2 ((bl a:Int)-1)*p2 (-((bl a:Int)-bl b-1))=p2 (bl b:Int)*p2 ((bl a:Int)-bl b-1):=by unfold p2;rw[<- k0e,<- k0e];congr 1;omega
  have l:p2 ((bl a:Int)-1)=2^(bl a-1):=by rw[<- q1D];congr 1;omega
  rw[q1D,l] at c
  calc b*p2 ((bl a:Int)-bl b-1)<=2^bl b*p2 ((bl a:Int)-bl b-1):=k0y _ (k1l g)
   _=2^(bl a-1)*p2 (-((bl a:Int)-bl b-1)):=c.symm
   _<=a*p2 (-((bl a:Int)-bl b-1)):=k0y _ f
 unfold q1K;split
 ·rename_i h;refine⟨j,?_⟩;generalize (bl a:Int)-bl b=e at *
  have k:=q63 (e-1) 1;rw[show e-1+1=e by omega,show p2 1=2 from rfl,show p2 (-1)=1 from rfl,k0G] at k;have m:p2 (-e)*(a*p2 (-(e-1)))<p2 (-e)*(2*(b*p2 (e-1))):=by
   calc p2 (-e)*(a*p2 (-(e-1)))=a*p2 (-e)*p2 (-(e-1)):=by grind
    _<b*p2 e*p2 (-(e-1)):=k0L h (q1d _)
    _=b*(p2 e*p2 (-(e-1))):=by grind
    _=b*(p2 (-e)*(p2 (e-1)*2)):=by rw[k]
    _=_:=by grind
  exact k1t m
 ·rename_i h;exact⟨by omega,hi⟩
theorem q4y.cross(h:q4y e a b)(hb:0<b)(hd:0<d)(hx:a*d=c*b):q4y e c d:=by
 constructor
 ·have:b*(d*p2 e)<=b*(c*p2 (-e)):=by
   calc b*(d*p2 e)=d*(b*p2 e):=by grind
    _<=d*(a*p2 (-e)):=k0m _ h.1
    _=a*d*p2 (-e):=by grind
    _=c*b*p2 (-e):=by rw[hx]
    _=_:=by grind
  exact k2D this hb
 ·have:b*(c*p2 (-e))<b*(2*(d*p2 e)):=by
   calc b*(c*p2 (-e))=c*b*p2 (-e):=by grind
    _=a*d*p2 (-e):=by rw[hx]
    _=d*(a*p2 (-e)):=by grind
    _<d*(2*(b*p2 e)):=Nat.mul_lt_mul_of_pos_left h.2 hd
    _=_:=by grind
  exact k1t this
theorem q6K(ha:0<a)(hb:0<b)(hd:0<d)(hx:a*d=c*b):q1K a b=q1K c d:=by
 have e:0<c:=by
  rcases k01 c with h|h
  ·subst h;rw[k24] at hx;have:=k0N ha hd;omega
  ·exact h
 exact((q1O ha hb).cross hb hd hx).uniq (q1O e hd)
theorem q80(ha:0<a)(hb:0<b)(he:e=(bl a:Int)-bl b):q1K a b=if a*p2 (-e)<b*p2 e then e-1 else e:=by subst he;rfl
def q37(neg:Bool)(mode:Nat)(odd:Bool)(c:Int):Bool:=
 match mode with
 | 0=>qa (0<c) || (qa (c=0) && odd)
 | 1=>qa (0<=c)
 | 2=>false
 | 3=>!neg
 | _=>neg
def rnd(neg:Bool)(mode a b:Nat):Nat:=
 if a%b=0 then a/b else if q37 neg mode (qa (a/b%2=1)) (q14 (2*(a%b)) b) then a/b+1 else a/b
theorem q4t(k a b:Nat)(hk:0<k):q14 (k*a) (k*b)=q14 a b:=by unfold q14;have c:(k*a<k*b)=(a<b):=propext (Nat.mul_lt_mul_left hk);have d:(k*b<k*a)=(b<a):=propext (Nat.mul_lt_mul_left hk);simp only[c,d]
theorem q7B(neg:Bool)(mode k a b:Nat)(hk:0<k):rnd neg mode (k*a) (k*b)=rnd neg mode a b:=by unfold rnd;rw[Nat.mul_div_mul_left _ _ hk,Nat.mul_mod_mul_left,k0W,q4t _ _ _ hk];have:(k*(a%b)=0)=(a%b=0):=propext ⟨fun h=>by rcases Nat.mul_eq_zero.1 h with h|h<;>omega,fun h=>by rw[h,k1m]⟩;simp only[this]
theorem q7C(hb:0<b)(hd:0<d)(hx:a*d=c*b):rnd neg mode a b=rnd neg mode c d:=by rw[<- q7B neg mode d a b hd,<- q7B neg mode b c d hb,k0g d a,hx,k0g d b,k0g c b]
theorem qc8(neg:Bool)(mode a b:Nat):rnd neg mode a b<=a/b+1:=by unfold rnd;split<;>(try split)<;>omega
def q1p(E:Nat):Int:=2^(E-1)-1
def inner(neg:Bool)(mode:Nat):Bool:=qa (mode=2) || (qa (mode=3) && neg) || (qa (mode=4) && !neg)
def q58(E:Nat)(a b:Nat):Int:=max (q1K a b) (1-q1p E)
def qaT(E F:Nat)(neg:Bool)(mode a b:Nat):Nat:=rnd neg mode (a*p2 (F-q58 E a b)) (b*p2 (q58 E a b-F))
def q7D(E F:Nat)(a b:Nat):Nat:=(a*p2 (F-q58 E a b))%(b*p2 (q58 E a b-F))
def qb8(F:Nat)(neg:Bool)(mode a b:Nat):Nat:=rnd neg mode (a*p2 (F-q1K a b)) (b*p2 (q1K a b-F))
def q51(E F:Nat)(neg:Bool)(mode a b:Nat):Nat:=qaT E F neg mode a b+(q58 E a b+q1p E-1).toNat*2^F
def q4B(E F:Nat):Nat:=2^(E+F)-2^F
def over(E F:Nat)(neg:Bool)(mode a b:Nat):Bool:=qa (q1p E<q58 E a b) || decide (q4B E F<=q51 E F neg mode a b)
def q3I(E F:Nat)(neg:Bool)(mode a b:Nat):Bool:=qa (q1K a b<1-q1p E) && (qa (q1K a b < -q1p E) || decide (bl (qb8 F neg mode a b)<=F+1))
def q6h(E F:Nat)(neg:Bool)(mode a b:Nat):Nat:=if q7D E F a b=0 then 0 else if q3I E F neg mode a b then 5 else 1
def out(E F:Nat)(neg:Bool)(mode a b:Nat):Nat × Nat:=
 if over E F neg mode a b then(if inner neg mode then q4B E F-1 else q4B E F,3) else(q51 E F neg mode a b,q6h E F neg mode a b)
theorem q4w(h:2<=E):1<=q1p E:=by
 unfold q1p;have b:(2:Nat)^1<=2^(E-1):=k00 (by omega) (by omega);have a:((2^(E-1):Nat):Int)=(2:Int)^(E-1):=by rw[k0C];rfl
 rw[<- a];omega
theorem q5J(h:E<=11):q1p E<=1023:=by
 unfold q1p;have b:(2:Nat)^(E-1)<=2^10:=k00 (by omega) (by omega);have a:((2^(E-1):Nat):Int)=(2:Int)^(E-1):=by rw[k0C];rfl
 rw[<- a];omega
theorem q9M(h:2<=E):(2:Int)^E=2*q1p E+2:=by
 unfold q1p;have:(2:Int)^E=2^(E-1)*2:=by rw[<- Int.pow_succ];congr 1;omega
 rw[this];omega
theorem qcy(h:2<=E):(q4B E F:Int)=(2*q1p E+1)*(2^F:Nat):=by
 have a:=q9M h;have b:((2^E:Nat):Int)=(2:Int)^E:=by rw[k0C];rfl
 have c:2^F<=2^(E+F):=k00 (by omega) (by omega);unfold q4B;rw[Int.natCast_sub c,k0e,k0f,b,a]
 grind
theorem q3Y(a b F:Nat)(e:Int):a*p2 (F-e)*(b*p2 e)=a*p2 (-e)*2^F*(b*p2 (e-F)):=by
 have k:=q63 (-e) F;rw[show -e+(F:Int)=F-e by omega,show -(-e)=e by omega,show -(F:Int) = -F from rfl,q0s (n:=-(F:Int)) (by omega),k0G,q1D,show -((F:Int)-e)=e-F by omega] at k
 calc a*p2 (F-e)*(b*p2 e)=a*b*(p2 (F-e)*p2 e):=by grind
  _=a*b*(p2 (e-F)*(p2 (-e)*2^F)):=by rw[k]
  _=_:=by grind
theorem q7y(hb:0<b)(h:q4y e a b):2^F*(b*p2 (e-F))<=a*p2 (F-e)/\a*p2 (F-e)<2^(F+1)*(b*p2 (e-F)):=by
 have k:=q3Y a b F e;have c:0<b*p2 e:=k0N hb (q1d _);constructor
 ·have:b*p2 e*(2^F*(b*p2 (e-F)))<=b*p2 e*(a*p2 (F-e)):=by
   calc b*p2 e*(2^F*(b*p2 (e-F)))<=a*p2 (-e)*(2^F*(b*p2 (e-F))):=k0y _ h.1
    _=a*p2 (-e)*2^F*(b*p2 (e-F)):=by grind
    _=a*p2 (F-e)*(b*p2 e):=k.symm
    _=_:=by grind
  exact k2D this c
 ·have:b*p2 e*(a*p2 (F-e))<b*p2 e*(2^(F+1)*(b*p2 (e-F))):=by
   calc b*p2 e*(a*p2 (F-e))=a*p2 (F-e)*(b*p2 e):=by grind
    _=a*p2 (-e)*2^F*(b*p2 (e-F)):=k
    _=a*p2 (-e)*(2^F*(b*p2 (e-F))):=by grind
    _<2*(b*p2 e)*(2^F*(b*p2 (e-F))):=k0L h.2 (k0N (k0a _) (k0N hb (q1d _)))
    _=_:=by rw[k0d];grind
  exact k1t this
theorem q7x{l:Int}(hb:0<b)(h:q4y e a b)(hl:e<l):a*p2 (F-l)<2^F*(b*p2 (l-F)):=by
 have c:=q38 hl h.2;have k:=q3Y a b F l;have d:0<b*p2 l:=k0N hb (q1d _);have:b*p2 l*(a*p2 (F-l))<b*p2 l*(2^F*(b*p2 (l-F))):=by
  calc b*p2 l*(a*p2 (F-l))=a*p2 (F-l)*(b*p2 l):=by grind
   _=a*p2 (-l)*2^F*(b*p2 (l-F)):=k
   _=a*p2 (-l)*(2^F*(b*p2 (l-F))):=by grind
   _<b*p2 l*(2^F*(b*p2 (l-F))):=k0L c (k0N (k0a _) (k0N hb (q1d _)))
 exact k1t this
theorem q60(h:a<N*b):rnd neg mode a b<=N:=by have:=qc8 neg mode a b;have:a/b<N:=k0s (by rw[k0g];exact h);omega
section
variable {E F : Nat} {neg : Bool} {mode a b : Nat}
theorem q7Q(ha:0<a)(hb:0<b):qaT E F neg mode a b<=2^(F+1):=by
 have c:=q1O ha hb;unfold qaT q58;rcases k23 (q1K a b) (1-q1p E) with h|h
 ·rw[Int.max_eq_right (by omega)];have:=q60 (neg:=neg) (mode:=mode) (q7x (F:=F) hb c h);rw[k0d];have:=k0a F;omega
 ·rw[Int.max_eq_left (by omega)];exact q60 (q7y (F:=F) hb c).2
end
end
end Go.Proofs.YtabcgemembkkcaaGreatDoor
