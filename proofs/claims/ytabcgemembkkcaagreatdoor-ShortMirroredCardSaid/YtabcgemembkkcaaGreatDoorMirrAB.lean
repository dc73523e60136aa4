/- Lemmas. -/
import Derived.Test.YtabcgemembkkcaaGreatDoorMirrAA
import Derived.Laws.MathBits
import Derived.Lib.ItoaNum
set_option linter.all false
open Decidable renaming decide->qa
open Int renaming dvd_sub->qb,max_eq_left->qc
namespace Go.Proofs.YtabcgemembkkcaaGreatDoor
variable{n k a b x N h s i d r u v v1 v2 u3 p G c P R u0 u1 u2 y j A v0 B mode E F:Nat}{U Q xs V vs W X:List Nat}{m e f:Int}{q32 neg:Bool}
section
def bl(n:Nat):Nat:=Go.bitLen n
theorem qaz:bl 0=0:=rfl
theorem q0J(n:Nat):n<2^bl n:=(Go.bitLen_spec n).1
theorem q8M(h:0<n):2^(bl n-1)<=n:=(Go.bitLen_spec n).2 (by omega)
theorem q3s(h:0<n):0<bl n:=by
 rcases k01 (bl n) with a|a
 ·have:=q0J n;rw[a] at this;omega
 ·exact a
theorem q0A(h:n<2^k):bl n<=k:=by
 rcases k01 n with a|a
 ·subst a;rw[qaz];omega
 ·have c:=q8M a;have d:=q3s a;have b:2^(bl n-1)<2^k:=by omega
  have:=(k1J (by omega:1<2)).1 b;omega
theorem qbQ(h:n<2^k)(h1:2^(k-1)<=n)(hk:0<k):bl n=k:=by
 have b:=q0A h;have c:=q0J n;have a:2^(k-1)<2^bl n:=by omega
 have:=(k1J (by omega:1<2)).1 a;omega
theorem q15(h:a<=b):bl a<=bl b:=q0A (k0F h (q0J b))
theorem q96(h:x/2^b≠0):bl x=b+bl (x/2^b):=Go.bitLen_shift x b h
theorem q7o(h:x<18446744073709551616):Go.Lib.bitLen x=bl x:=by
 rcases k01 x with a|a
 ·subst a;rfl
 ·obtain⟨d,b,c⟩:=Go.Lib.bitLenAux_bounds 64 x h (by omega);exact(qbQ c b (by omega)).symm
theorem q1q(k:Nat):4294967296^k=2^(32*k):=by rw[k1k]
theorem bl_words(h:0<N):bl N=32*(words N-1)+bl (nth (toL N) (words N-1))/\0<nth (toL N) (words N-1):=by
 have d:=q3i h;have a:=q0f N;have f:0<words N:=by
  rcases k01 (words N) with b|b
  ·rw[b] at a;simp at a;omega
  ·exact b
 have e:nth (toL N) (words N-1)=N/4294967296^(words N-1):=by rw[q0Z];apply k0u;apply k0s;rw[<- k0a,show(words N-1).succ=words N by omega];exact a
 have c:0<N/4294967296^(words N-1):=k1e d (k1x (by omega));rw[e];refine⟨?_,c⟩;rw[q1q] at c ⊢;exact q96 (by omega)
theorem q1k{Q:Nat}(h:∀i,i<U.length->nth U i=Q/4294967296^i%4294967296):val U=Q%4294967296^U.length:=by
 induction U generalizing Q with
 | nil=>simp [val,Nat.mod_one]
 | cons x xs ih =>
  have a:=h 0 (by simp);have b:nth (x::xs) 0=x:=rfl;rw[b] at a;have c:∀i,i<xs.length->nth xs i=(Q/4294967296)/4294967296^i%4294967296:=by
   intro i hi;have:=h (i+1) (by simp;omega);have e:nth (x::xs) (i+1)=nth xs i:=by unfold nth;simp
   rw[e,k0a,k0b,<- k0p] at this;exact this
  rw[val,ih c,k2t,a,k0J,k1m,k0a,k0b (4294967296^xs.length),Nat.mod_mul]
theorem q2I{zs:List Nat}(hl:Lim zs)(i s:Nat)(hs:s<32):(nth zs i+4294967296*nth zs (i+1))/2^s%4294967296=(val zs/2^s)/4294967296^i%4294967296:=by
 have a:val zs/4294967296^i=nth zs i+4294967296*nth zs (i+1)+18446744073709551616*val (zs.drop (i+1+1)):=by rw[q0Y hl,q0n zs i,q0n zs (i+1)];omega
 have b:(val zs/2^s)/4294967296^i=(val zs/4294967296^i)/2^s:=by rw[k0p,k0p,k0b]
 rw[b,a];have c:18446744073709551616*val (zs.drop (i+1+1))=2^s*(2^(32-s)*(4294967296*val (zs.drop (i+1+1)))):=by rw[<- k0f,<- k0h,show s+(32-s)=32 by omega];omega
 rw[c,k1O _ _ (k0c s),<- k0f,k0b (2^(32-s)),k0f,k1s]
theorem qbm{l:Nat}(hh:h<2^s):h ||| 2^s*l=h+2^s*l:=by have:=k1c hh l;rw[Nat.or_comm,<- this,k11]
theorem q3Q(hx:x<4294967296)(hs:s<32):(x*2^s)%4294967296=2^s*(x%2^(32-s))/\(x*2^s)/4294967296<2^s/\x*2^s<18446744073709551616:=by
 have e:(4294967296:Nat)=2^s*2^(32-s):=by rw[<- k0h,show s+(32-s)=32 by omega]
 have a:0<2^s:=k0c s;refine⟨?_,?_,?_⟩
 ·rw[k0b x]
  conv=>lhs;rw[e]
  rw[Nat.mul_mod_mul_left]
 ·apply k0s;exact k0E hx a
 ·have b:2^s<=2^31:=k04 (by omega) (by omega);have c:x*2^s<=4294967295*2^31:=k2e (by omega) b;omega
theorem q6x(hU:i+k+1<U.length)(hh:nth U (i+k)=h)(hlt:h<2^s)(hx:nth xs i=x)(hxl:x<4294967296)(hs:s<32)
  (hv:val (U.take (i+k))+4294967296^(i+k)*h=4294967296^k*(2^s*val (xs.take i))) :
  val (((U.set (i+k) (h ||| (x*2^s)%4294967296)).set (i+k+1) ((x*2^s)/4294967296)).take (i+1+k))+4294967296^(i+1+k)*((x*2^s)/4294967296)=4294967296^k*(2^s*val (xs.take (i+1))):=by
 obtain⟨a,c,_⟩:=q3Q hxl hs;rw[show i+1+k=i+k+1 by omega,List.take_set_of_le (Nat.le_refl _),q0g U _ _ (by omega),a,qbm hlt,q08,hx,k0a,k0f,k1F,<- k0k,<- a];have b:h+x*2^s%4294967296+4294967296*(x*2^s/4294967296)=h+x*2^s:=by omega
 rw[b,k0k,k0k,k0k,<- hv];have d:4294967296^(i+k)*(x*2^s)=4294967296^k*(2^s*(4294967296^i*x)):=by rw[k0h,k0b x,k0f,k0S,k0S (4294967296^i)]
 omega
theorem q6y(hU:U.length=n+k+1)(hx:xs.length<=n)(hh:nth U (n+k)=h)
  (hv:val (U.take (n+k))+4294967296^(n+k)*h=4294967296^k*(2^s*val (xs.take n))):val U=val xs*2^(32*k+s):=by
 rw[q0j (xs:=xs) hx] at hv;have e:=q08 U (n+k);rw[q0j (xs:=U) (by omega),hh,hv] at e;rw[e,k0h,<- q1q,<- k0f,k0b]
theorem divs_step(hd:0<d)(hr:r<d)(hx:nth xs i<4294967296)(hv:∀j,i<j->nth V j=(val xs/d)/4294967296^j%4294967296)(hr':r=(val xs/4294967296^(i+1))%d)(hl:Lim xs):(r*4294967296+nth xs i)/d=(val xs/d)/4294967296^i%4294967296/\(r*4294967296+nth xs i)%d=(val xs/4294967296^i)%d/\(r*4294967296+nth xs i)/d<4294967296:=by
 have c:val xs/4294967296^i=nth xs i+4294967296*(val xs/4294967296^(i+1)):=by rw[q0Y hl,q0Y hl,q0n]
 generalize hM:val xs/4294967296^(i+1)=M at *
 have e:M=d*(M/d)+r:=by rw[hr'];exact(k0O M d).symm
 have a:val xs/4294967296^i=(r*4294967296+nth xs i)+d*(4294967296*(M/d)):=by
  rw[c];have:4294967296*M=4294967296*(d*(M/d))+4294967296*r:=by rw[<- k0k,<- e]
  rw[this,k0S];omega
 have b:(r*4294967296+nth xs i)/d<4294967296:=by apply k0s;have:(r+1)*4294967296<=d*4294967296:=k0q _ hr;omega
 refine⟨?_,?_,b⟩
 ·have f:(val xs/d)/4294967296^i=(val xs/4294967296^i)/d:=by rw[k0p,k0p,k0b]
  rw[f,a,k1O _ _ hd,k1s,k0u b]
 ·rw[a,k1s]
end
section
theorem q7t(hv:(v1*4294967296+v2)*p<=v)(hu:u<(u3+1)*p)(h:u3<G*(v1*4294967296+v2)):u/v<G:=by have a:(u3+1)*p<=G*(v1*4294967296+v2)*p:=k0q _ h;rw[k0f] at a;have b:G*((v1*4294967296+v2)*p)<=G*v:=k0g _ hv;exact k0s (by rw[k0b];exact k02 hu (k06 a b))
theorem q69(hv:v<(v1*4294967296+v2+1)*p)(hv':(v1*4294967296+v2)*p<=v)(hu:u3*p<=u)(hv1:0<v1)(hG:G<4294967296)(h:G*(v1*4294967296+v2)<=u3):G<=u/v+1:=by
 rcases k01 G with b|b
 ·rw[b];exact k0x _
 ·have a:0<p:=by
   rcases k01 p with a|a
   ·subst a;omega
   ·exact a
  have c:0<v:=by have:0<(v1*4294967296+v2)*p:=k0l (by omega) a;omega
  have d:G*(v1*4294967296+v2)*p<=u3*p:=k0q _ h;rw[k0f] at d;have e:G*v<=G*((v1*4294967296+v2)*p+p):=k0g _ (by rw[k18,k0Q] at hv;omega);rw[k0k] at e;have g:G*p<=v:=by have i:G*p<=(v1*4294967296+v2)*p:=k0q _ (by omega);omega
  have f:(G-1)*v<=u:=by
   have j:G*v=(G-1)*v+v:=by conv=>lhs;rw[show G=(G-1)+1 by omega,k18,k0Q]
   omega
  have:=(k1G c).2 f;omega
theorem q7e{b':Nat}(hX:i<X.length)(hs:nth X i=nth W i)(hd:d+(G*nth vs i+c)%4294967296+b=nth X i+4294967296*b')
  (h:val (X.take i)+G*val (vs.take i)=val (W.take i)+4294967296^i*(c+b)) :
  val ((X.set i d).take (i+1))+G*val (vs.take (i+1))=val (W.take (i+1))+4294967296^(i+1)*((G*nth vs i+c)/4294967296+b'):=by
 rw[q0g X i _ hX,q08,q08,k0a,k0f,<- hs];have e:=k0O (G*nth vs i+c) 4294967296;have a:4294967296^i*(d+(G*nth vs i+c)+b)=4294967296^i*(nth X i+4294967296*((G*nth vs i+c)/4294967296+b')):=by congr 1;omega
 rw[k0k,k0k,k0k,k0k] at a;rw[k0k G,k0S G];rw[k0k] at h;omega
theorem q7j(hX:i<X.length)(hs:nth X i=nth W i)
  (h:val (X.take i)+4294967296^i*c=val (W.take i)+val (vs.take i)) :
  val ((X.set i ((nth X i+nth vs i+c)%4294967296)).take (i+1))+4294967296^(i+1)*((nth X i+nth vs i+c)/4294967296)=val (W.take (i+1))+val (vs.take (i+1)):=by
 rw[q0g X i _ hX,q08,q08,k0a,k0f,k1F,<- k0k,k26,hs,k0k,k0k];omega
theorem q1u(U:List Nat)(j i x:Nat):(U.set (j+i) x).drop j=(U.drop j).set i x:=by
 apply q3j
 ·rw[k0m,k07,k07,k0m]
 ·intro k a;rw[k0m,k07] at a;rw[q0w];by_cases h:k=i
  ·subst h;rw[q0D _ _ _ _ (by omega),k0n rfl,q0D _ _ _ _ (by rw[k0m];omega),k0n rfl]
  ·rw[q0m _ _ (by omega),q0m _ _ h,q0w]
theorem q7A{q X:Nat}(h:X+G*v=u)(hlow:u/v<=G)(hv:0<v)(hq:q=u/v)(_:X<P):G=q/\X=u%v:=by
 have a:G*v<=u:=by omega
 have c:=(k1G hv).2 a;have b:G=u/v:=by omega
 refine⟨by omega,?_⟩;have:=k0O u v;rw[<- b,k0b] at this;omega
theorem q8V{X:Nat}(h:X+G*v=u+P)(hX:X<P)(hhigh:G<=u/v+1)(hv:0<v):G=u/v+1/\X+v=u%v+P:=by
 have b:u<G*v:=by omega
 have c:u/v<G:=k0s (by rw[k0b];exact b);have a:G=u/v+1:=by omega
 refine⟨a,?_⟩;have:=k0O u v;rw[a,k18,k0Q,k0b] at h;omega
theorem q4A(he:G*v1+R=u1+4294967296*u0)(h:G*v2<=R*4294967296+u2):G*(v1*4294967296+v2)<=u2+4294967296*u1+18446744073709551616*u0:=by rw[k0k,<- k0f];omega
theorem q8Q(he:G*v1+R=u1+4294967296*u0)(h:R*4294967296+u2<G*v2):u2+4294967296*u1+18446744073709551616*u0<G*(v1*4294967296+v2):=by rw[k0k,<- k0f];omega
theorem q52(hv:2147483648<=v1)(hv':v1<4294967296)(hu0:u0<=v1)(hu1:u1<4294967296)(hu2:u2<4294967296):u2+4294967296*u1+18446744073709551616*u0<((u1+4294967296*u0)/v1+1)*(v1*4294967296+v2)/\(u1+4294967296*u0)/v1<=4294967297/\(u1+4294967296*u0)/v1*v1+(u1+4294967296*u0)%v1=u1+4294967296*u0:=by
 have a:=k0O (u1+4294967296*u0) v1;have b:=k0j (u1+4294967296*u0) (show v1 > 0 by omega);have c:(u1+4294967296*u0)/v1<4294967298:=k0s (by omega);generalize (u1+4294967296*u0)/v1=G at *
 generalize (u1+4294967296*u0)%v1=R at *
 rw[k0b] at a;refine⟨?_,by omega,a⟩;rw[k0k,<- k0f,k18,k0Q];omega
theorem q53(he:G*v1+R=u1+4294967296*u0)(hu0:u0<=v1)(hu1:u1<4294967296)(hR:4294967296<=R)(hv2:v2<4294967296):G<4294967296/\∀u2,G*v2<=R*4294967296+u2:=by
 have a:G<4294967296:=by
  rcases k0y G 4294967296 with h|h
  ·exact h
  ·have b:4294967296*v1<=G*v1:=k0q _ h;omega
 refine⟨a,fun u2=>?_⟩;have:=q1n a hv2;omega
theorem q7J(h:G*v1+R=N)(hG:0<G):(G-1)*v1+(R+v1)=N:=by
 have e:G*v1=(G-1)*v1+v1:=by conv=>lhs;rw[show G=(G-1)+1 by omega,k18,k0Q]
 omega
theorem q9w(x z y:Nat)(hx:x<4294967296)(hz:z<4294967296)(hy:y<=1):∃d q,d<4294967296/\q<=1/\d+z+y=x+4294967296*q:=by
 by_cases h:z+y<=x
 ·exact⟨x-z-y,0,by omega,by omega,by omega⟩
 ·exact⟨x+4294967296-z-y,1,by omega,by omega,by omega⟩
theorem q8W{Y:Nat}(hY:Y<4294967296^n)(hr:r<4294967296^n)(h:Y+4294967296^n*(c+d)=r+4294967296^n*4294967296):c+d=4294967296/\Y=r:=by
 rcases k1w (c+d) 4294967296 with a|a|a
 ·have b:4294967296^n*(c+d+1)<=4294967296^n*4294967296:=k0g _ a;rw[k0k _ _ 1,k0A] at b;omega
 ·rw[a] at h;exact⟨a,by omega⟩
 ·have b:4294967296^n*(4294967296+1)<=4294967296^n*(c+d):=k0g _ a;rw[k0k _ _ 1,k0A] at b;omega
theorem q7f(hXl:n<X.length)(hW:u=val (W.take (n+1)))(hu0:nth W n=u0)(hd:d+x+y=u0+4294967296*b)
  (h:val (X.take n)+G*v=val (W.take n)+4294967296^n*(x+y)):val ((X.set n d).take (n+1))+G*v=u+4294967296^(n+1)*b:=by
 rw[q0g X n d hXl,hW,q08,hu0,k0a,k0f];have e:4294967296^n*(d+(x+y))=4294967296^n*(u0+4294967296*b):=by congr 1;omega
 simp only[k0k] at e h ⊢;omega
end
section
theorem q2S(xs:List Nat)(n:Nat):val (xs++List.replicate n 0)=val xs:=by rw[q11,q0b];simp
theorem q8G(h:0<b):words (b*2^(32-bl (nth (toL b) (words b-1))))=words b/\2147483648<=nth (toL (b*2^(32-bl (nth (toL b) (words b-1))))) (words b-1)/\32-bl (nth (toL b) (words b-1))<32:=by
 obtain⟨e,f⟩:=bl_words h;have m:0<words b:=by
  rcases k01 (words b) with a|a
  ·have:=q06.1 a;omega
  ·exact a
 have n:bl (nth (toL b) (words b-1))<=32:=q0A (nth_lt (q1U b) _);have o:=q3s f;generalize nth (toL b) (words b-1)=t at *
 have g:=q0J b;have i:=q8M h;have c:b*2^(32-bl t)<2^(32*words b):=by have:b*2^(32-bl t)<2^bl b*2^(32-bl t):=k0E g (k0c _);rw[<- k0h,show bl b+(32-bl t)=32*words b by omega] at this;exact this
 have d:2^(32*words b-1)<=b*2^(32-bl t):=by have:2^(bl b-1)*2^(32-bl t)<=b*2^(32-bl t):=k0q _ i;rw[<- k0h,show bl b-1+(32-bl t)=32*words b-1 by omega] at this;exact this
 rw[<- q1q] at c;have j:4294967296^(words b-1)<=b*2^(32-bl t):=by rw[q1q];exact k06 (k04 (by omega) (by omega)) d
 have k:words (b*2^(32-bl t))=words b:=by have p:=q0X c;have l:=q0f (b*2^(32-bl t));have q:words b-1<words (b*2^(32-bl t)):=q9q (k0F j l);omega
 refine⟨k,?_,by omega⟩;rw[q0Z,k0u]
 ·rw[k1G (k1x (by omega)),q1q];rw[show(2147483648:Nat)=2^31 by rfl,<- k0h,show 31+32*(words b-1)=32*words b-1 by omega];exact d
 ·apply k0s;rw[<- k0a,show(words b-1).succ=words b by omega];exact c
theorem qaP(hl:Lim U)(hv:v<=4294967296^n)(h:val (U.drop (j+1))<v):val ((U.drop j).take (n+1))=val (U.drop j)/\val ((U.drop j).take (n+1))<4294967296*v:=by
 have c:val (U.drop j)=nth U j+4294967296*val (U.drop (j+1)):=q0n U j;have d:=nth_lt hl j;have a:val (U.drop j)<4294967296^(n+1):=by rw[k0a];omega
 have b:val ((U.drop j).take (n+1))=val (U.drop j):=by rw[<- q35 (q0P hl j),k0u a]
 exact⟨b,by omega⟩
theorem q91(hl:Lim U)(hl':Lim V)(hlen:V.length=U.length)(hjn:j+n+1<=U.length)(hs:∀p,p<j\/j+n+1<=p->nth V p=nth U p)
  (hw:val ((U.drop j).take (n+1))=val (U.drop j)) (hr:val ((V.drop j).take (n+1))=val ((U.drop j).take (n+1))%v) :
  val V+4294967296^j*(v*(val ((U.drop j).take (n+1))/v))=val U/\val (V.drop j)=val (U.drop j)%v:=by
 have d:V.take j=U.take j:=q3j (by rw[k0t,k0t,hlen]) fun i hi=>by rw[k0t] at hi;rw[q3Z _ _ _ (by omega),q3Z _ _ _ (by omega)];exact hs i (by omega)
 have e:V.drop (j+(n+1))=U.drop (j+(n+1)):=q3j (by rw[k0m,k0m,hlen]) fun i _=>by rw[q0w,q0w];exact hs _ (by omega)
 have z:val (U.drop (j+(n+1)))=0:=by
  have a:=q0v (U.drop j) (n+1) (by rw[k0m];omega);rw[hw,List.drop_drop] at a;have k:0<4294967296^(n+1):=k1x (by omega);rcases k01 (val (U.drop (j+(n+1)))) with h|h
  ·exact h
  ·have:4294967296^(n+1)*1<=4294967296^(n+1)*val (U.drop (j+(n+1))):=k0g _ h;omega
 have b:val (V.drop j)=val (U.drop j)%v:=by have a:=q0v (V.drop j) (n+1) (by rw[k0m];omega);rw[List.drop_drop,e,z,k1n,k14,hr,hw] at a;exact a
 refine⟨?_,b⟩;have c:=q0v V j (by omega);have f:=q0v U j (by omega);rw[d,b] at c;rw[c,f,hw];have g:=k0O (val (U.drop j)) v;rw[k1F,<- k0k,k11 (val (U.drop j)%v),g]
theorem q8A(hj:j<Q.length):val ((Q.set j x).drop j)=x+4294967296*val (Q.drop (j+1)):=by rw[q0n,q0D _ _ _ _ hj,k0n rfl];have e:(Q.set j x).drop (j+1)=Q.drop (j+1):=List.drop_set_of_lt (by omega);rw[e]
theorem q7H{m:Nat}(hl:Lim U)(hU:val U=a*2^s)(ha:a<4294967296^n)(hs:s<32)(hmn:m<=n)(hm:0<m)(ht:2147483648<=nth (toL (b*2^s)) (m-1)):val (U.drop (n-m+1))<b*2^s:=by
 rw[<- q0Y hl,hU];apply k0s;rw[q0Z] at ht;have c:2147483648<=b*2^s/4294967296^(m-1):=k06 ht (Nat.mod_le _ _);rw[k1G (k1x (by omega))] at c;have f:a*2^s<4294967296^n*2147483648:=by have d:2^s<=2^31:=k04 (by omega) (by omega);have g:a*2^s<4294967296^n*2^s:=k0E ha (k0c _);have h:4294967296^n*2^s<=4294967296^n*2^31:=k0g _ d;omega
 have e:4294967296^(n-m+1)*(2147483648*4294967296^(m-1))<=4294967296^(n-m+1)*(b*2^s):=k0g _ c;rw[k0S,<- k0h,show n-m+1+(m-1)=n by omega] at e;omega
theorem qat(hb:0<b)(h:a*2^s=val U+b*2^s*val Q)(hu:val U<b*2^s):val Q=a/b/\val U/2^s=a%b:=by
 have c:0<2^s:=k0c s;have d:a*2^s/(b*2^s)=val Q:=by rw[h,k1O _ _ (k0l hb c),k0N hu,k0U]
 have e:a*2^s%(b*2^s)=val U:=by rw[h,k1s,k0u hu]
 rw[Nat.mul_div_mul_right _ _ c] at d;rw[Nat.mul_mod_mul_right] at e;exact⟨d.symm,by rw[<- e,Nat.mul_div_cancel _ c]⟩
theorem qas(hj:j<Q.length)(h:A=val U+v*(4294967296^(j+1)*val (Q.drop (j+1))))(hs:val V+4294967296^j*(v*x)=val U):A=val V+v*(4294967296^j*val ((Q.set j x).drop j)):=by rw[q8A hj,h,<- hs,k0k (4294967296^j),k0k v,k0a,k0f (4294967296^j),k0S v (4294967296^j) x];omega
end
section
structure Lehmer(a b e x y u1 u2 v1 v2:Nat)(q32:Bool):Prop where
 i1:a/2^e=v2*x+v1*y
 i2:b/2^e=u2*x+u1*y
 det:if q32 then u1*v2+1=u2*v1 else u1*v2=u2*v1+1
 hu1:u1<=v2
 hu2:u2<=v2
 hs:u1+u2<=v1+v2
 hv:v1<=v2
 h1:1<=v2
 hxy:y<=x
 hx:x<1152921504606846976
structure Good(a b u0 u1 v0 v1:Nat)(q32:Bool)(A B:Nat):Prop where
 ea:if q32 then(A:Int)=u0*a-v0*b else(A:Int)=v0*b-u0*a
 eb:if q32 then(B:Int)=v1*b-u1*a else(B:Int)=u1*a-v1*b
 ja:(a:Int)=v1*A+v0*B
 jb:(b:Int)=u1*A+u0*B
 le:B<=A
 p0:1<=v0
 p1:1<=v1
 bu0:u0<1073741824
 bu1:u1<1073741824
 bv0:v0<1073741824
 bv1:v1<1073741824
theorem q2O{e:Nat}(h:b<=a)(hx:a/2^e<1152921504606846976):Lehmer a b e (a/2^e) (b/2^e) 1 0 0 1 false:=⟨by simp,by simp,by simp,by omega,by omega,by omega,by omega,by omega,Nat.div_le_div_right h,hx⟩
theorem q8J(h:v*v<1152921504606846976):v<1073741824:=by apply k2u;intro a;have:=k2e a a;omega
theorem q24{e:Nat}(h:Lehmer a b e x y u1 u2 v1 v2 q32)(ha:a/2^e<1152921504606846976)(hy:v2<=y):v2<1073741824:=by apply q8J;have c:v2*v2<=v2*x:=k0g _ (k06 hy h.hxy);have d:=h.i1;omega
theorem q3g{e:Nat}(h:Lehmer a b e x y u1 u2 v1 v2 q32)(hy:v2<=y):Lehmer a b e y (x-x/y*y) u2 (u1+x/y*u2) v2 (v1+x/y*v2) (!q32):=by
 have g:0<y:=k02 h.h1 hy;have j:1<=x/y:=(k1G g).2 (by have:=h.hxy;omega);have hx:x=x/y*y+(x-x/y*y):=by have:=Nat.div_mul_le_self x y;omega
 have k:x-x/y*y<y:=by have:=k0j x g;have e:=k26 x y;rw[k0b] at e;omega
 generalize x-x/y*y=r at *
 generalize x/y=q at *
 obtain⟨p,rfl⟩:∃p,q=p+1:=⟨q-1,by omega⟩;have c:p*u2<=p*v2:=k0g _ h.hu2;have d:(p+1)*u2=p*u2+u2:=Nat.succ_mul _ _;have f:(p+1)*v2=p*v2+v2:=Nat.succ_mul _ _;have l:=h.hu1;have m:=h.hu2;have n:=h.hs;have o:=h.hv;have s:=h.h1;have t:=h.hx;have u:=h.hxy;refine⟨?_,?_,?_,by omega,by omega,by omega,by omega,by omega,by omega,by omega⟩
 ·rw[h.i1]
  conv=>lhs;rw[hx]
  clear hx c d f
  grind
 ·rw[h.i2]
  conv=>lhs;rw[hx]
  clear hx c d f
  grind
 ·have i:=h.det;clear hx c d f h;cases q32
  ·simp only[k1o,k2O,k2p,k2S] at i ⊢
   grind
  ·simp only[k2S,k2C,k1o,k2O] at i ⊢
   grind
theorem q2z{u r M:Int}(hu:0<=u)(hr:r<=M):u*r<=u*M:=k1t hr hu
theorem q3h{e:Nat}(h:Lehmer a b e x y u1 u2 v1 v2 q32)(ha:a/2^e<1152921504606846976)(hy:v2<=y)(hxy:v1+v2<=x-y)(h1:1<=v1):∃A B,Good a b u1 u2 v1 v2 (!q32) A B:=by
 have V:=q24 h ha hy;have d:(a:Int)=(2^e:Nat)*((v2:Int)*x+v1*y)+((a%2^e:Nat):Int):=by have z:=k0O a (2^e);rw[h.i1] at z;have:=k0v (fun n:Nat=>(n:Int)) z;simp only[k1g,k08] at this;omega
 have f:(b:Int)=(2^e:Nat)*((u2:Int)*x+u1*y)+((b%2^e:Nat):Int):=by have z:=k0O b (2^e);rw[h.i2] at z;have:=k0v (fun n:Nat=>(n:Int)) z;simp only[k1g,k08] at this;omega
 have K:((a%2^e:Nat):Int)<=((2^e:Nat):Int):=k20.2 (k16 (k0j _ (k0c _)));have L:((b%2^e:Nat):Int)<=((2^e:Nat):Int):=k20.2 (k16 (k0j _ (k0c _)));have I:(0:Int)<=((a%2^e:Nat):Int):=k0d _;have J:(0:Int)<=((b%2^e:Nat):Int):=k0d _;have F:(0:Int)<=((2^e:Nat):Int):=k0d _;have g:=h.det;have W:=h.hu1;have T:=h.hu2;have X:=h.hs;have Y:=h.hv;have Z:=h.hxy;clear h;generalize ((a%2^e:Nat):Int)=s at *
 generalize ((b%2^e:Nat):Int)=t at *
 generalize ((2^e:Nat):Int)=M at *
 have U:(v2:Int)<=(y:Int):=k20.2 hy;have P:(v1:Int)+v2<=(x:Int)-y:=by omega
 have Q:(u2:Int)<=(v2:Int):=k20.2 T;have R:(u1:Int)+u2<=(v1:Int)+v2:=by omega
 have n1:(0:Int)<=(u1:Int):=k0d _;have N:(0:Int)<=(u2:Int):=k0d _;have n3:(0:Int)<=(v1:Int):=k0d _;have O:(0:Int)<=(v2:Int):=k0d _;have l:M*(v2:Int)<=M*(y:Int):=k1t U F;have m:M*((v1:Int)+v2)<=M*((x:Int)-y):=k1t P F;have o:(u2:Int)*s<=u2*M:=q2z N K;have p:(u2:Int)*M<=v2*M:=k1p Q F;have q:(v2:Int)*t<=v2*M:=q2z O L;have r:((u1:Int)+u2)*s<=(u1+u2)*M:=q2z (by omega) K;have u:((u1:Int)+u2)*M<=(v1+v2)*M:=k1p R F;have v:((v1:Int)+v2)*t<=(v1+v2)*M:=q2z (by omega) L;have w:(0:Int)<=(u2:Int)*s:=k0W N I;have i:(0:Int)<=(v2:Int)*t:=k0W O J;have j:(0:Int)<=((u1:Int)+u2)*s:=k0W (by omega) I;have k:(0:Int)<=((v1:Int)+v2)*t:=k0W (by omega) J;cases q32
 ·simp only[k1o,k2O] at g;have S:(u1:Int)*v2=u2*v1+1:=by
   have:=k0v (fun n:Nat=>(n:Int)) g
   simpa using this
  have C:(v2:Int)*b-u2*a=M*y+v2*t-u2*s:=by rw[d,f];clear l m o p q r u v w i j k d f;grind
  have D:((u1:Int)*a-v1*b)-((v2:Int)*b-u2*a)=M*((x:Int)-y)+(u1+u2)*s-(v1+v2)*t:=by rw[d,f];clear l m o p q r u v w i j k d f;grind
  have G:M*(v2:Int)=v2*M:=k2A _ _;have H:M*((v1:Int)+v2)=(v1+v2)*M:=k2A _ _;have c:0<=(v2:Int)*b-u2*a:=by rw[C];omega
  have E:0<=((u1:Int)*a-v1*b)-((v2:Int)*b-u2*a):=by rw[D];omega
  clear l m o p q r u v w i j k d f C D G H;refine⟨((u1:Int)*a-v1*b).toNat,((v2:Int)*b-u2*a).toNat,?_,?_,?_,?_,by omega,h1,by omega,by omega,by omega,by omega,by omega⟩
  ·rw[k2p,k0n rfl,k0X (by omega)]
  ·rw[k2p,k0n rfl,k0X c]
  ·rw[k0X (by omega),k0X c];clear E c g;grind
  ·rw[k0X (by omega),k0X c];clear E c g;grind
 ·simp only[k2S] at g;have S:(u1:Int)*v2+1=u2*v1:=by
   have:=k0v (fun n:Nat=>(n:Int)) g
   simpa using this
  have C:(u2:Int)*a-v2*b=M*y+u2*s-v2*t:=by rw[d,f];clear l m o p q r u v w i j k d f;grind
  have D:((v1:Int)*b-u1*a)-((u2:Int)*a-v2*b)=M*((x:Int)-y)+(v1+v2)*t-(u1+u2)*s:=by rw[d,f];clear l m o p q r u v w i j k d f;grind
  have G:M*(v2:Int)=v2*M:=k2A _ _;have H:M*((v1:Int)+v2)=(v1+v2)*M:=k2A _ _;have c:0<=(u2:Int)*a-v2*b:=by rw[C];omega
  have E:0<=((v1:Int)*b-u1*a)-((u2:Int)*a-v2*b):=by rw[D];omega
  clear l m o p q r u v w i j k d f C D G H;refine⟨((v1:Int)*b-u1*a).toNat,((u2:Int)*a-v2*b).toNat,?_,?_,?_,?_,by omega,h1,by omega,by omega,by omega,by omega,by omega⟩
  ·rw[k2C,k0o (by decide),k0X (by omega)]
  ·rw[k2C,k0o (by decide),k0X c]
  ·rw[k0X (by omega),k0X c];clear E c g;grind
  ·rw[k0X (by omega),k0X c];clear E c g;grind
theorem q5H(h:Good a b u0 u1 v0 v1 q32 A B):Nat.gcd A B=Nat.gcd a b:=by
 have g:a=v1*A+v0*B:=by have:=h.ja;exact k2N (by rw[k1N,k1N,this];simp)
 have i:b=u1*A+u0*B:=by have:=h.jb;exact k2N (by rw[k1N,k1N,this];simp)
 apply Nat.dvd_antisymm
 ·have e:=k15 A B;have f:=k0z A B;refine Nat.dvd_gcd ?_ ?_
  ·conv=>rhs;rw[g]
   exact Nat.dvd_add (k2m e (k2L _ _)) (k2m f (k2L _ _))
  ·conv=>rhs;rw[i]
   exact Nat.dvd_add (k2m e (k2L _ _)) (k2m f (k2L _ _))
 ·have c:((Nat.gcd a b:Nat):Int) ∣ (a:Int):=k2a.2 (k15 a b);have d:((Nat.gcd a b:Nat):Int) ∣ (b:Int):=k2a.2 (k0z a b);refine Nat.dvd_gcd ?_ ?_
  ·apply k2a.1;have:=h.ea;cases q32
   ·rw[k0o (by decide)] at this;rw[this];exact qb (k28 d (k1K _ _)) (k28 c (k1K _ _))
   ·rw[k0n rfl] at this;rw[this];exact qb (k28 c (k1K _ _)) (k28 d (k1K _ _))
  ·apply k2a.1;have:=h.eb;cases q32
   ·rw[k0o (by decide)] at this;rw[this];exact qb (k28 c (k1K _ _)) (k28 d (k1K _ _))
   ·rw[k0n rfl] at this;rw[this];exact qb (k28 d (k1K _ _)) (k28 c (k1K _ _))
theorem q7u(h:Good a b u0 u1 v0 v1 q32 A B):A+B<=a:=by
 have c:a=v1*A+v0*B:=by have:=h.ja;exact k2N (by rw[k1N,k1N,this];simp)
 rw[c];exact Nat.add_le_add (k1z _ h.p1) (k1z _ h.p0)
end
section
open Go
def p2(n:Int):Nat:=2^n.toNat
theorem q0L(n:Int):0<p2 n:=k0c _
theorem q0l{n:Int}(h:n<=0):p2 n=1:=by unfold p2;rw[show n.toNat=0 by omega]
theorem q1s(n:Nat):p2 (n:Int)=2^n:=by unfold p2;rw[k2l]
theorem q2v{n:Int}(h:0<=m)(k:0<=n):p2 (m+n)=p2 m*p2 n:=by unfold p2;rw[Int.toNat_add h k,k0h]
theorem q5u(m n:Int):p2 (m+n)*(p2 (-m)*p2 (-n))=p2 (-(m+n))*(p2 m*p2 n):=by unfold p2;rw[<- k0h,<- k0h,<- k0h,<- k0h];congr 1;omega
theorem qcr{n:Int}(h0:0<=m)(h:m<n):2*p2 m<=p2 n:=by unfold p2;rw[k0b,<- k0a];exact k04 (by omega) (by omega)
def q4f(e:Int)(a b:Nat):Prop:=b*p2 e<=a*p2 (-e)/\a*p2 (-e)<2*(b*p2 e)
theorem q8L(h:e<=f)(hf:b*p2 f<=a*p2 (-f)):b*p2 e<=a*p2 (-e):=by
 have k:=q5u e (f-e);rw[show e+(f-e)=f by omega,q0l (n:=-(f-e)) (by omega),k0A] at k;have c:=q0L (f-e);have d:=q0L (-f);have g:b*p2 f*p2 (-e)<=a*p2 (-f)*p2 (-e):=k0q _ hf;have i:p2 (-f)*(b*p2 e)<=p2 (-f)*(a*p2 (-e)):=by
  calc p2 (-f)*(b*p2 e)<=p2 (-f)*(b*p2 e)*p2 (f-e):=k2E _ c
   _=b*(p2 (-f)*(p2 e*p2 (f-e))):=by grind
   _=b*(p2 f*p2 (-e)):=by rw[k]
   _=b*p2 f*p2 (-e):=by grind
   _<=a*p2 (-f)*p2 (-e):=g
   _=p2 (-f)*(a*p2 (-e)):=by grind
 exact k2r i d
theorem q30(h:e<f)(hf:a*p2 (-e)<2*(b*p2 e)):a*p2 (-f)<b*p2 f:=by
 have k:=q5u e (f-e);rw[show e+(f-e)=f by omega,q0l (n:=-(f-e)) (by omega),k0A] at k;have d:2*1<=p2 (f-e):=by have:=qcr (m:=0) (n:=f-e) (by omega) (by omega);simpa [p2] using this
 have g:=q0L (-e);have c:p2 (-e)*(a*p2 (-f))<p2 (-e)*(b*p2 f):=by
  calc p2 (-e)*(a*p2 (-f))=a*p2 (-e)*p2 (-f):=by grind
   _<2*(b*p2 e)*p2 (-f):=k0E hf (q0L _)
   _<=p2 (f-e)*(b*p2 e)*p2 (-f):=k0q _ (k0q _ (by omega))
   _=b*(p2 (-f)*(p2 e*p2 (f-e))):=by grind
   _=b*(p2 f*p2 (-e)):=by rw[k]
   _=p2 (-e)*(b*p2 f):=by grind
 exact k1i c
theorem q4f.uniq(h:q4f e a b)(k:q4f f a b):e=f:=by
 rcases k0K e f with c|c|c
 ·have d:=q30 c h.2;have:=k.1;omega
 ·exact c
 ·have d:=q30 c k.2;have:=h.1;omega
def q1p(a b:Nat):Int:=if a*p2 (-((bl a:Int)-bl b))<b*p2 ((bl a:Int)-bl b) then(bl a:Int)-bl b-1 else(bl a:Int)-bl b
theorem q1c(ha:0<a)(hb:0<b):q4f (q1p a b) a b:=by
 have d:=q0J a;have f:=q8M ha;have g:=q0J b;have i:=q8M hb;have n:=q3s ha;have o:=q3s hb;have hi:a*p2 (-((bl a:Int)-bl b))<2*(b*p2 ((bl a:Int)-bl b)):=by
  have c:p2 (bl a:Int)*p2 (-((bl a:Int)-bl b))=p2 (bl b:Int)*p2 ((bl a:Int)-bl b):=by unfold p2;rw[<- k0h,<- k0h];congr 1;omega
  rw[q1s,q1s] at c
  calc a*p2 (-((bl a:Int)-bl b))<2^bl a*p2 (-((bl a:Int)-bl b)):=k0E d (q0L _)
   _=2^bl b*p2 ((bl a:Int)-bl b):=c
   _=2*2^(bl b-1)*p2 ((bl a:Int)-bl b):=by rw[k0b 2,<- k0a,show(bl b-1).succ=bl b by omega]
   _<=2*b*p2 ((bl a:Int)-bl b):=k0q _ (k0g _ i)
   _=_:=by grind
 have j:b*p2 ((bl a:Int)-bl b-1)<=a*p2 (-((bl a:Int)-bl b-1)):=by
  have c:p2 ((bl a:Int)-1)*p2 (-((bl a:Int)-bl b-1))=p2 (bl b:Int)*p2 ((bl a:Int)-bl b-1):=by unfold p2;rw[<- k0h,<- k0h];congr 1;omega
  have l:p2 ((bl a:Int)-1)=2^(bl a-1):=by rw[<- q1s];congr 1;omega
  rw[q1s,l] at c
  calc b*p2 ((bl a:Int)-bl b-1)<=2^bl b*p2 ((bl a:Int)-bl b-1):=k0q _ (k16 g)
   _=2^(bl a-1)*p2 (-((bl a:Int)-bl b-1)):=c.symm
   _<=a*p2 (-((bl a:Int)-bl b-1)):=k0q _ f
 unfold q1p;split
 ·rename_i h;refine⟨j,?_⟩;generalize (bl a:Int)-bl b=e at *
  have k:=q5u (e-1) 1;rw[show e-1+1=e by omega,show p2 1=2 from rfl,show p2 (-1)=1 from rfl,k0A] at k;have m:p2 (-e)*(a*p2 (-(e-1)))<p2 (-e)*(2*(b*p2 (e-1))):=by
   calc p2 (-e)*(a*p2 (-(e-1)))=a*p2 (-e)*p2 (-(e-1)):=by grind
    _<b*p2 e*p2 (-(e-1)):=k0E h (q0L _)
    _=b*(p2 e*p2 (-(e-1))):=by grind
    _=b*(p2 (-e)*(p2 (e-1)*2)):=by rw[k]
    _=_:=by grind
  exact k1i m
 ·rename_i h;exact⟨by omega,hi⟩
theorem q4f.cross(h:q4f e a b)(hb:0<b)(hd:0<d)(hx:a*d=c*b):q4f e c d:=by
 constructor
 ·have:b*(d*p2 e)<=b*(c*p2 (-e)):=by
   calc b*(d*p2 e)=d*(b*p2 e):=by grind
    _<=d*(a*p2 (-e)):=k0g _ h.1
    _=a*d*p2 (-e):=by grind
    _=c*b*p2 (-e):=by rw[hx]
    _=_:=by grind
  exact k2r this hb
 ·have:b*(c*p2 (-e))<b*(2*(d*p2 e)):=by
   calc b*(c*p2 (-e))=c*b*p2 (-e):=by grind
    _=a*d*p2 (-e):=by rw[hx]
    _=d*(a*p2 (-e)):=by grind
    _<d*(2*(b*p2 e)):=Nat.mul_lt_mul_of_pos_left h.2 hd
    _=_:=by grind
  exact k1i this
theorem q68(ha:0<a)(hb:0<b)(hd:0<d)(hx:a*d=c*b):q1p a b=q1p c d:=by
 have e:0<c:=by
  rcases k01 c with h|h
  ·subst h;rw[k1H] at hx;have:=k0l ha hd;omega
  ·exact h
 exact((q1c ha hb).cross hb hd hx).uniq (q1c e hd)
theorem q7q(ha:0<a)(hb:0<b)(he:e=(bl a:Int)-bl b):q1p a b=if a*p2 (-e)<b*p2 e then e-1 else e:=by subst he;rfl
def q2U(neg:Bool)(mode:Nat)(odd:Bool)(c:Int):Bool:=
 match mode with
 | 0=>qa (0<c) || (qa (c=0) && odd)
 | 1=>qa (0<=c)
 | 2=>false
 | 3=>!neg
 | _=>neg
def rnd(neg:Bool)(mode a b:Nat):Nat:=
 if a%b=0 then a/b else if q2U neg mode (qa (a/b%2=1)) (q0F (2*(a%b)) b) then a/b+1 else a/b
theorem q2C(k a b:Nat)(hk:0<k):q0F (k*a) (k*b)=q0F a b:=by unfold q0F;have c:(k*a<k*b)=(a<b):=propext (Nat.mul_lt_mul_left hk);have d:(k*b<k*a)=(b<a):=propext (Nat.mul_lt_mul_left hk);simp only[c,d]
theorem q6X(neg:Bool)(mode k a b:Nat)(hk:0<k):rnd neg mode (k*a) (k*b)=rnd neg mode a b:=by unfold rnd;rw[Nat.mul_div_mul_left _ _ hk,Nat.mul_mod_mul_left,k0S,q2C _ _ _ hk];have:(k*(a%b)=0)=(a%b=0):=propext ⟨fun h=>by rcases Nat.mul_eq_zero.1 h with h|h<;>omega,fun h=>by rw[h,k1n]⟩;simp only[this]
theorem q6Y(hb:0<b)(hd:0<d)(hx:a*d=c*b):rnd neg mode a b=rnd neg mode c d:=by rw[<- q6X neg mode d a b hd,<- q6X neg mode b c d hb,k0b d a,hx,k0b d b,k0b c b]
theorem qbe(neg:Bool)(mode a b:Nat):rnd neg mode a b<=a/b+1:=by unfold rnd;split<;>(try split)<;>omega
theorem qbf(neg:Bool)(mode a b:Nat):a/b<=rnd neg mode a b:=by unfold rnd;split<;>(try split)<;>omega
def q12(E:Nat):Int:=2^(E-1)-1
def inner(neg:Bool)(mode:Nat):Bool:=qa (mode=2) || (qa (mode=3) && neg) || (qa (mode=4) && !neg)
def q21(E:Nat)(a b:Nat):Int:=max (q1p a b) (1-q12 E)
def q4L(E F:Nat)(neg:Bool)(mode a b:Nat):Nat:=rnd neg mode (a*p2 (F-q21 E a b)) (b*p2 (q21 E a b-F))
def q6Z(E F:Nat)(a b:Nat):Nat:=(a*p2 (F-q21 E a b))%(b*p2 (q21 E a b-F))
def qam(F:Nat)(neg:Bool)(mode a b:Nat):Nat:=rnd neg mode (a*p2 (F-q1p a b)) (b*p2 (q1p a b-F))
def q18(E F:Nat)(neg:Bool)(mode a b:Nat):Nat:=q4L E F neg mode a b+(q21 E a b+q12 E-1).toNat*2^F
def q2P(E F:Nat):Nat:=2^(E+F)-2^F
def over(E F:Nat)(neg:Bool)(mode a b:Nat):Bool:=qa (q12 E<q21 E a b) || decide (q2P E F<=q18 E F neg mode a b)
def q3x(E F:Nat)(neg:Bool)(mode a b:Nat):Bool:=qa (q1p a b<1-q12 E) && (qa (q1p a b < -q12 E) || decide (bl (qam F neg mode a b)<=F+1))
def q5K(E F:Nat)(neg:Bool)(mode a b:Nat):Nat:=if q6Z E F a b=0 then 0 else if q3x E F neg mode a b then 5 else 1
def out(E F:Nat)(neg:Bool)(mode a b:Nat):Nat × Nat:=
 if over E F neg mode a b then(if inner neg mode then q2P E F-1 else q2P E F,3) else(q18 E F neg mode a b,q5K E F neg mode a b)
theorem q5Q(h:2<=E):1<=q12 E:=by
 unfold q12;have b:(2:Nat)^1<=2^(E-1):=k04 (by omega) (by omega);have a:((2^(E-1):Nat):Int)=(2:Int)^(E-1):=by rw[k0D];rfl
 rw[<- a];omega
theorem q7P(h:E<=11):q12 E<=1023:=by
 unfold q12;have b:(2:Nat)^(E-1)<=2^10:=k04 (by omega) (by omega);have a:((2^(E-1):Nat):Int)=(2:Int)^(E-1):=by rw[k0D];rfl
 rw[<- a];omega
theorem q97(h:2<=E):(2:Int)^E=2*q12 E+2:=by
 unfold q12;have:(2:Int)^E=2^(E-1)*2:=by rw[<- Int.pow_succ];congr 1;omega
 rw[this];omega
theorem qbF(h:2<=E):(q2P E F:Int)=(2*q12 E+1)*(2^F:Nat):=by
 have a:=q97 h;have b:((2^E:Nat):Int)=(2:Int)^E:=by rw[k0D];rfl
 have c:2^F<=2^(E+F):=k04 (by omega) (by omega);unfold q2P;rw[Int.natCast_sub c,k0h,k08,b,a]
 grind
theorem q3H(a b F:Nat)(e:Int):a*p2 (F-e)*(b*p2 e)=a*p2 (-e)*2^F*(b*p2 (e-F)):=by
 have k:=q5u (-e) F;rw[show -e+(F:Int)=F-e by omega,show -(-e)=e by omega,show -(F:Int) = -F from rfl,q0l (n:=-(F:Int)) (by omega),k0A,q1s,show -((F:Int)-e)=e-F by omega] at k
 calc a*p2 (F-e)*(b*p2 e)=a*b*(p2 (F-e)*p2 e):=by grind
  _=a*b*(p2 (e-F)*(p2 (-e)*2^F)):=by rw[k]
  _=_:=by grind
theorem q3b(hb:0<b)(h:q4f e a b):2^F*(b*p2 (e-F))<=a*p2 (F-e)/\a*p2 (F-e)<2^(F+1)*(b*p2 (e-F)):=by
 have k:=q3H a b F e;have c:0<b*p2 e:=k0l hb (q0L _);constructor
 ·have:b*p2 e*(2^F*(b*p2 (e-F)))<=b*p2 e*(a*p2 (F-e)):=by
   calc b*p2 e*(2^F*(b*p2 (e-F)))<=a*p2 (-e)*(2^F*(b*p2 (e-F))):=k0q _ h.1
    _=a*p2 (-e)*2^F*(b*p2 (e-F)):=by grind
    _=a*p2 (F-e)*(b*p2 e):=k.symm
    _=_:=by grind
  exact k2r this c
 ·have:b*p2 e*(a*p2 (F-e))<b*p2 e*(2^(F+1)*(b*p2 (e-F))):=by
   calc b*p2 e*(a*p2 (F-e))=a*p2 (F-e)*(b*p2 e):=by grind
    _=a*p2 (-e)*2^F*(b*p2 (e-F)):=k
    _=a*p2 (-e)*(2^F*(b*p2 (e-F))):=by grind
    _<2*(b*p2 e)*(2^F*(b*p2 (e-F))):=k0E h.2 (k0l (k0c _) (k0l hb (q0L _)))
    _=_:=by rw[k0a];grind
  exact k1i this
theorem q6T{l:Int}(hb:0<b)(h:q4f e a b)(hl:e<l):a*p2 (F-l)<2^F*(b*p2 (l-F)):=by
 have c:=q30 hl h.2;have k:=q3H a b F l;have d:0<b*p2 l:=k0l hb (q0L _);have:b*p2 l*(a*p2 (F-l))<b*p2 l*(2^F*(b*p2 (l-F))):=by
  calc b*p2 l*(a*p2 (F-l))=a*p2 (F-l)*(b*p2 l):=by grind
   _=a*p2 (-l)*2^F*(b*p2 (l-F)):=k
   _=a*p2 (-l)*(2^F*(b*p2 (l-F))):=by grind
   _<b*p2 l*(2^F*(b*p2 (l-F))):=k0E c (k0l (k0c _) (k0l hb (q0L _)))
 exact k1i this
theorem q9X(hb:0<b)(h:N*b<=a):N<=rnd neg mode a b:=k06 ((k1G hb).2 h) (qbf _ _ _ _)
theorem q5r(h:a<N*b):rnd neg mode a b<=N:=by have:=qbe neg mode a b;have:a/b<N:=k0s (by rw[k0b];exact h);omega
section
variable {E F : Nat} {neg : Bool} {mode a b : Nat}
theorem q4Z(ha:0<a)(hb:0<b):q4L E F neg mode a b<=2^(F+1):=by
 have c:=q1c ha hb;unfold q4L q21;rcases k1l (q1p a b) (1-q12 E) with h|h
 ·rw[Int.max_eq_right (by omega)];have:=q5r (neg:=neg) (mode:=mode) (q6T (F:=F) hb c h);rw[k0a];have:=k0c F;omega
 ·rw[qc (by omega)];exact q5r (q3b (F:=F) hb c).2
theorem qa8(ha:0<a)(hb:0<b)(h:1-q12 E<=q1p a b):2^F<=q4L E F neg mode a b:=by unfold q4L q21;rw[qc (by omega)];exact q9X (k0l hb (q0L _)) (q3b (F:=F) hb (q1c ha hb)).1
theorem qby:1-q12 E<=q21 E a b:=Int.le_max_right _ _
theorem qbx(h:1-q12 E<q21 E a b):q21 E a b=q1p a b:=by unfold q21 at *;omega
end
end
end Go.Proofs.YtabcgemembkkcaaGreatDoor
