/- Lemmas. -/
import Derived.Test.YthopehoklmgphaaGreatDoorPartAA
import Derived.Laws.MathBits
import Derived.Lib.ItoaNum
set_option linter.all false
open Decidable renaming decide->qa
namespace Go.Proofs.YthopehoklmgphaaGreatDoor
variable{n k a b x N h s i d r u v v1 v2 u3 p G c P R u0 u1 u2 y j A v0 B mode E F:Nat}{U Q xs V vs W X:List Nat}{m e f:Int}{q4x neg:Bool}
section
def bl(n:Nat):Nat:=Go.bitLen n
theorem qcC:bl 0=0:=rfl
theorem q1Q(n:Nat):n<2^bl n:=(Go.bitLen_spec n).1
theorem qaK(h:0<n):2^(bl n-1)<=n:=(Go.bitLen_spec n).2 (by omega)
theorem q4r(h:0<n):0<bl n:=by
 rcases k04 (bl n) with a|a
 ·have:=q1Q n;rw[a] at this;omega
 ·exact a
theorem q1g(h:n<2^k):bl n<=k:=by
 rcases k04 n with a|a
 ·subst a;rw[qcC];omega
 ·have c:=qaK a;have d:=q4r a;have b:2^(bl n-1)<2^k:=by omega
  have:=(k1U (by omega:1<2)).1 b;omega
theorem qdM(h:n<2^k)(h1:2^(k-1)<=n)(hk:0<k):bl n=k:=by
 have b:=q1g h;have c:=q1Q n;have a:2^(k-1)<2^bl n:=by omega
 have:=(k1U (by omega:1<2)).1 a;omega
theorem q5w(h:a<=b):bl a<=bl b:=q1g (k0T h (q1Q b))
theorem qba(h:x/2^b≠0):bl x=b+bl (x/2^b):=Go.bitLen_shift x b h
theorem qbs(h:x<18446744073709551616):Go.Lib.bitLen x=bl x:=by
 rcases k04 x with a|a
 ·subst a;rfl
 ·obtain⟨d,b,c⟩:=Go.Lib.bitLenAux_bounds 64 x h (by omega);exact(qdM c b (by omega)).symm
theorem q2T(k:Nat):4294967296^k=2^(32*k):=by rw[k18]
theorem bl_words(h:0<N):bl N=32*(words N-1)+bl (nth (toL N) (words N-1))/\0<nth (toL N) (words N-1):=by
 have d:=q2g h;have a:=q0l N;have f:0<words N:=by
  rcases k04 (words N) with b|b
  ·rw[b] at a;simp at a;omega
  ·exact b
 have e:nth (toL N) (words N-1)=N/4294967296^(words N-1):=by rw[q1p];apply k0F;apply k0J;rw[<- k0f,show(words N-1).succ=words N by omega];exact a
 have c:0<N/4294967296^(words N-1):=k2l d (k1I (by omega));rw[e];refine⟨?_,c⟩;rw[q2T] at c ⊢;exact qba (by omega)
theorem q33{Q:Nat}(h:∀i,i<U.length->nth U i=Q/4294967296^i%4294967296):val U=Q%4294967296^U.length:=by
 induction U generalizing Q with
 | nil=>simp [val,Nat.mod_one]
 | cons x xs ih =>
  have a:=h 0 (by simp);have b:nth (x::xs) 0=x:=rfl;rw[b] at a;have c:∀i,i<xs.length->nth xs i=(Q/4294967296)/4294967296^i%4294967296:=by
   intro i hi;have:=h (i+1) (by simp;omega);have e:nth (x::xs) (i+1)=nth xs i:=by unfold nth;simp
   rw[e,k0f,k0h,<- k0D] at this;exact this
  rw[val,ih c,k19,a,k0R,k1H,k0f,k0h (4294967296^xs.length),Nat.mod_mul]
theorem q4Y{zs:List Nat}(hl:Lim zs)(i s:Nat)(hs:s<32):(nth zs i+4294967296*nth zs (i+1))/2^s%4294967296=(val zs/2^s)/4294967296^i%4294967296:=by
 have a:val zs/4294967296^i=nth zs i+4294967296*nth zs (i+1)+18446744073709551616*val (zs.drop (i+1+1)):=by rw[q1w hl,q0N zs i,q0N zs (i+1)];omega
 have b:(val zs/2^s)/4294967296^i=(val zs/4294967296^i)/2^s:=by rw[k0D,k0D,k0h]
 rw[b,a];have c:18446744073709551616*val (zs.drop (i+1+1))=2^s*(2^(32-s)*(4294967296*val (zs.drop (i+1+1)))):=by rw[<- k0k,<- k0q,show s+(32-s)=32 by omega];omega
 rw[c,k1Y _ _ (k0m s),<- k0k,k0h (2^(32-s)),k0k,k1B]
theorem qdx{l:Nat}(hh:h<2^s):h ||| 2^s*l=h+2^s*l:=by have:=k17 hh l;rw[Nat.or_comm,<- this,k1v]
theorem q6S(hx:x<4294967296)(hs:s<32):(x*2^s)%4294967296=2^s*(x%2^(32-s))/\(x*2^s)/4294967296<2^s/\x*2^s<18446744073709551616:=by
 have e:(4294967296:Nat)=2^s*2^(32-s):=by rw[<- k0q,show s+(32-s)=32 by omega]
 have a:0<2^s:=k0m s;refine⟨?_,?_,?_⟩
 ·rw[k0h x]
  conv=>lhs;rw[e]
  rw[Nat.mul_mod_mul_left]
 ·apply k0J;exact k0B hx a
 ·have b:2^s<=2^31:=k05 (by omega) (by omega);have c:x*2^s<=4294967295*2^31:=k2m (by omega) b;omega
theorem qbP(hU:i+k+1<U.length)(hh:nth U (i+k)=h)(hlt:h<2^s)(hx:nth xs i=x)(hxl:x<4294967296)(hs:s<32)
  (hv:val (U.take (i+k))+4294967296^(i+k)*h=4294967296^k*(2^s*val (xs.take i))) :
  val (((U.set (i+k) (h ||| (x*2^s)%4294967296)).set (i+k+1) ((x*2^s)/4294967296)).take (i+1+k))+4294967296^(i+1+k)*((x*2^s)/4294967296)=4294967296^k*(2^s*val (xs.take (i+1))):=by
 obtain⟨a,c,_⟩:=q6S hxl hs;rw[show i+1+k=i+k+1 by omega,List.take_set_of_le (Nat.le_refl _),q0q U _ _ (by omega),a,qdx hlt,q0b,hx,k0f,k0k,k1F,<- k0u,<- a];have b:h+x*2^s%4294967296+4294967296*(x*2^s/4294967296)=h+x*2^s:=by omega
 rw[b,k0u,k0u,k0u,<- hv];have d:4294967296^(i+k)*(x*2^s)=4294967296^k*(2^s*(4294967296^i*x)):=by rw[k0q,k0h x,k0k,k0Q,k0Q (4294967296^i)]
 omega
theorem qbQ(hU:U.length=n+k+1)(hx:xs.length<=n)(hh:nth U (n+k)=h)
  (hv:val (U.take (n+k))+4294967296^(n+k)*h=4294967296^k*(2^s*val (xs.take n))):val U=val xs*2^(32*k+s):=by
 rw[q0p (xs:=xs) hx] at hv;have e:=q0b U (n+k);rw[q0p (xs:=U) (by omega),hh,hv] at e;rw[e,k0q,<- q2T,<- k0k,k0h]
theorem q9I(hd:0<d)(hr:r<d)(hx:nth xs i<4294967296)(hv:∀j,i<j->nth V j=(val xs/d)/4294967296^j%4294967296)(hr':r=(val xs/4294967296^(i+1))%d)(hl:Lim xs):(r*4294967296+nth xs i)/d=(val xs/d)/4294967296^i%4294967296/\(r*4294967296+nth xs i)%d=(val xs/4294967296^i)%d/\(r*4294967296+nth xs i)/d<4294967296:=by
 have c:val xs/4294967296^i=nth xs i+4294967296*(val xs/4294967296^(i+1)):=by rw[q1w hl,q1w hl,q0N]
 generalize hM:val xs/4294967296^(i+1)=M at *
 have e:M=d*(M/d)+r:=by rw[hr'];exact(k0O M d).symm
 have a:val xs/4294967296^i=(r*4294967296+nth xs i)+d*(4294967296*(M/d)):=by
  rw[c];have:4294967296*M=4294967296*(d*(M/d))+4294967296*r:=by rw[<- k0u,<- e]
  rw[this,k0Q];omega
 have b:(r*4294967296+nth xs i)/d<4294967296:=by apply k0J;have:(r+1)*4294967296<=d*4294967296:=k0r _ hr;omega
 refine⟨?_,?_,b⟩
 ·have f:(val xs/d)/4294967296^i=(val xs/4294967296^i)/d:=by rw[k0D,k0D,k0h]
  rw[f,a,k1Y _ _ hd,k1B,k0F b]
 ·rw[a,k1B]
end
section
theorem q9n(hv:(v1*4294967296+v2)*p<=v)(hu:u<(u3+1)*p)(h:u3<G*(v1*4294967296+v2)):u/v<G:=by have a:(u3+1)*p<=G*(v1*4294967296+v2)*p:=k0r _ h;rw[k0k] at a;have b:G*((v1*4294967296+v2)*p)<=G*v:=k0t _ hv;exact k0J (by rw[k0h];exact k01 hu (k06 a b))
theorem q82(hv:v<(v1*4294967296+v2+1)*p)(hv':(v1*4294967296+v2)*p<=v)(hu:u3*p<=u)(hv1:0<v1)(hG:G<4294967296)(h:G*(v1*4294967296+v2)<=u3):G<=u/v+1:=by
 rcases k04 G with b|b
 ·rw[b];exact k0d _
 ·have a:0<p:=by
   rcases k04 p with a|a
   ·subst a;omega
   ·exact a
  have c:0<v:=by have:0<(v1*4294967296+v2)*p:=k0w (by omega) a;omega
  have d:G*(v1*4294967296+v2)*p<=u3*p:=k0r _ h;rw[k0k] at d;have e:G*v<=G*((v1*4294967296+v2)*p+p):=k0t _ (by rw[k0U,k0N] at hv;omega);rw[k0u] at e;have g:G*p<=v:=by have i:G*p<=(v1*4294967296+v2)*p:=k0r _ (by omega);omega
  have f:(G-1)*v<=u:=by
   have j:G*v=(G-1)*v+v:=by conv=>lhs;rw[show G=(G-1)+1 by omega,k0U,k0N]
   omega
  have:=(k1T c).2 f;omega
theorem q90{b':Nat}(hX:i<X.length)(hs:nth X i=nth W i)(hd:d+(G*nth vs i+c)%4294967296+b=nth X i+4294967296*b')
  (h:val (X.take i)+G*val (vs.take i)=val (W.take i)+4294967296^i*(c+b)) :
  val ((X.set i d).take (i+1))+G*val (vs.take (i+1))=val (W.take (i+1))+4294967296^(i+1)*((G*nth vs i+c)/4294967296+b'):=by
 rw[q0q X i _ hX,q0b,q0b,k0f,k0k,<- hs];have e:=k0O (G*nth vs i+c) 4294967296;have a:4294967296^i*(d+(G*nth vs i+c)+b)=4294967296^i*(nth X i+4294967296*((G*nth vs i+c)/4294967296+b')):=by congr 1;omega
 rw[k0u,k0u,k0u,k0u] at a;rw[k0u G,k0Q G];rw[k0u] at h;omega
theorem q95(hX:i<X.length)(hs:nth X i=nth W i)
  (h:val (X.take i)+4294967296^i*c=val (W.take i)+val (vs.take i)) :
  val ((X.set i ((nth X i+nth vs i+c)%4294967296)).take (i+1))+4294967296^(i+1)*((nth X i+nth vs i+c)/4294967296)=val (W.take (i+1))+val (vs.take (i+1)):=by
 rw[q0q X i _ hX,q0b,q0b,k0f,k0k,k1F,<- k0u,k2q,hs,k0u,k0u];omega
theorem q1V(U:List Nat)(j i x:Nat):(U.set (j+i) x).drop j=(U.drop j).set i x:=by
 apply q4g
 ·rw[k0o,k0e,k0e,k0o]
 ·intro k a;rw[k0o,k0e] at a;rw[q0J];by_cases h:k=i
  ·subst h;rw[q1f _ _ _ _ (by omega),if_pos rfl,q1f _ _ _ _ (by rw[k0o];omega),if_pos rfl]
  ·rw[q0z _ _ (by omega),q0z _ _ h,q0J]
theorem q9w{q X:Nat}(h:X+G*v=u)(hlow:u/v<=G)(hv:0<v)(hq:q=u/v)(_:X<P):G=q/\X=u%v:=by
 have a:G*v<=u:=by omega
 have c:=(k1T hv).2 a;have b:G=u/v:=by omega
 refine⟨by omega,?_⟩;have:=k0O u v;rw[<- b,k0h] at this;omega
theorem fig_more{X:Nat}(h:X+G*v=u+P)(hX:X<P)(hhigh:G<=u/v+1)(hv:0<v):G=u/v+1/\X+v=u%v+P:=by
 have b:u<G*v:=by omega
 have c:u/v<G:=k0J (by rw[k0h];exact b);have a:G=u/v+1:=by omega
 refine⟨a,?_⟩;have:=k0O u v;rw[a,k0U,k0N,k0h] at h;omega
theorem q62(he:G*v1+R=u1+4294967296*u0)(h:G*v2<=R*4294967296+u2):G*(v1*4294967296+v2)<=u2+4294967296*u1+18446744073709551616*u0:=by rw[k0u,<- k0k];omega
theorem qaU(he:G*v1+R=u1+4294967296*u0)(h:R*4294967296+u2<G*v2):u2+4294967296*u1+18446744073709551616*u0<G*(v1*4294967296+v2):=by rw[k0u,<- k0k];omega
theorem q6A(hv:2147483648<=v1)(hv':v1<4294967296)(hu0:u0<=v1)(hu1:u1<4294967296)(hu2:u2<4294967296):u2+4294967296*u1+18446744073709551616*u0<((u1+4294967296*u0)/v1+1)*(v1*4294967296+v2)/\(u1+4294967296*u0)/v1<=4294967297/\(u1+4294967296*u0)/v1*v1+(u1+4294967296*u0)%v1=u1+4294967296*u0:=by
 have a:=k0O (u1+4294967296*u0) v1;have b:=k0z (u1+4294967296*u0) (show v1 > 0 by omega);have c:(u1+4294967296*u0)/v1<4294967298:=k0J (by omega);generalize (u1+4294967296*u0)/v1=G at *
 generalize (u1+4294967296*u0)%v1=R at *
 rw[k0h] at a;refine⟨?_,by omega,a⟩;rw[k0u,<- k0k,k0U,k0N];omega
theorem q6B(he:G*v1+R=u1+4294967296*u0)(hu0:u0<=v1)(hu1:u1<4294967296)(hR:4294967296<=R)(hv2:v2<4294967296):G<4294967296/\∀u2,G*v2<=R*4294967296+u2:=by
 have a:G<4294967296:=by
  rcases k0M G 4294967296 with h|h
  ·exact h
  ·have b:4294967296*v1<=G*v1:=k0r _ h;omega
 refine⟨a,fun u2=>?_⟩;have:=q1M a hv2;omega
theorem q9K(h:G*v1+R=N)(hG:0<G):(G-1)*v1+(R+v1)=N:=by
 have e:G*v1=(G-1)*v1+v1:=by conv=>lhs;rw[show G=(G-1)+1 by omega,k0U,k0N]
 omega
theorem qbB(x z y:Nat)(hx:x<4294967296)(hz:z<4294967296)(hy:y<=1):∃d q,d<4294967296/\q<=1/\d+z+y=x+4294967296*q:=by
 by_cases h:z+y<=x
 ·exact⟨x-z-y,0,by omega,by omega,by omega⟩
 ·exact⟨x+4294967296-z-y,1,by omega,by omega,by omega⟩
theorem qaZ{Y:Nat}(hY:Y<4294967296^n)(hr:r<4294967296^n)(h:Y+4294967296^n*(c+d)=r+4294967296^n*4294967296):c+d=4294967296/\Y=r:=by
 rcases k2p (c+d) 4294967296 with a|a|a
 ·have b:4294967296^n*(c+d+1)<=4294967296^n*4294967296:=k0t _ a;rw[k0u _ _ 1,k0H] at b;omega
 ·rw[a] at h;exact⟨a,by omega⟩
 ·have b:4294967296^n*(4294967296+1)<=4294967296^n*(c+d):=k0t _ a;rw[k0u _ _ 1,k0H] at b;omega
theorem q91(hXl:n<X.length)(hW:u=val (W.take (n+1)))(hu0:nth W n=u0)(hd:d+x+y=u0+4294967296*b)
  (h:val (X.take n)+G*v=val (W.take n)+4294967296^n*(x+y)):val ((X.set n d).take (n+1))+G*v=u+4294967296^(n+1)*b:=by
 rw[q0q X n d hXl,hW,q0b,hu0,k0f,k0k];have e:4294967296^n*(d+(x+y))=4294967296^n*(u0+4294967296*b):=by congr 1;omega
 simp only[k0u] at e h ⊢;omega
end
section
theorem q3A(xs:List Nat)(n:Nat):val (xs++List.replicate n 0)=val xs:=by rw[q1x,q0m];simp
theorem qaC(h:0<b):words (b*2^(32-bl (nth (toL b) (words b-1))))=words b/\2147483648<=nth (toL (b*2^(32-bl (nth (toL b) (words b-1))))) (words b-1)/\32-bl (nth (toL b) (words b-1))<32:=by
 obtain⟨e,f⟩:=bl_words h;have m:0<words b:=by
  rcases k04 (words b) with a|a
  ·have:=q0c.1 a;omega
  ·exact a
 have n:bl (nth (toL b) (words b-1))<=32:=q1g (nth_lt (q2n b) _);have o:=q4r f;generalize nth (toL b) (words b-1)=t at *
 have g:=q1Q b;have i:=qaK h;have c:b*2^(32-bl t)<2^(32*words b):=by have:b*2^(32-bl t)<2^bl b*2^(32-bl t):=k0B g (k0m _);rw[<- k0q,show bl b+(32-bl t)=32*words b by omega] at this;exact this
 have d:2^(32*words b-1)<=b*2^(32-bl t):=by have:2^(bl b-1)*2^(32-bl t)<=b*2^(32-bl t):=k0r _ i;rw[<- k0q,show bl b-1+(32-bl t)=32*words b-1 by omega] at this;exact this
 rw[<- q2T] at c;have j:4294967296^(words b-1)<=b*2^(32-bl t):=by rw[q2T];exact k06 (k05 (by omega) (by omega)) d
 have k:words (b*2^(32-bl t))=words b:=by have p:=q1n c;have l:=q0l (b*2^(32-bl t));have q:words b-1<words (b*2^(32-bl t)):=qby (k0T j l);omega
 refine⟨k,?_,by omega⟩;rw[q1p,k0F]
 ·rw[k1T (k1I (by omega)),q2T];rw[show(2147483648:Nat)=2^31 by rfl,<- k0q,show 31+32*(words b-1)=32*words b-1 by omega];exact d
 ·apply k0J;rw[<- k0f,show(words b-1).succ=words b by omega];exact c
theorem qd2(hl:Lim U)(hv:v<=4294967296^n)(h:val (U.drop (j+1))<v):val ((U.drop j).take (n+1))=val (U.drop j)/\val ((U.drop j).take (n+1))<4294967296*v:=by
 have c:val (U.drop j)=nth U j+4294967296*val (U.drop (j+1)):=q0N U j;have d:=nth_lt hl j;have a:val (U.drop j)<4294967296^(n+1):=by rw[k0f];omega
 have b:val ((U.drop j).take (n+1))=val (U.drop j):=by rw[<- q3Q (q1d hl j),k0F a]
 exact⟨b,by omega⟩
theorem qb5(hl:Lim U)(hl':Lim V)(hlen:V.length=U.length)(hjn:j+n+1<=U.length)(hs:∀p,p<j\/j+n+1<=p->nth V p=nth U p)
  (hw:val ((U.drop j).take (n+1))=val (U.drop j)) (hr:val ((V.drop j).take (n+1))=val ((U.drop j).take (n+1))%v) :
  val V+4294967296^j*(v*(val ((U.drop j).take (n+1))/v))=val U/\val (V.drop j)=val (U.drop j)%v:=by
 have d:V.take j=U.take j:=q4g (by rw[k0l,k0l,hlen]) fun i hi=>by rw[k0l] at hi;rw[q5l _ _ _ (by omega),q5l _ _ _ (by omega)];exact hs i (by omega)
 have e:V.drop (j+(n+1))=U.drop (j+(n+1)):=q4g (by rw[k0o,k0o,hlen]) fun i _=>by rw[q0J,q0J];exact hs _ (by omega)
 have z:val (U.drop (j+(n+1)))=0:=by
  have a:=q0P (U.drop j) (n+1) (by rw[k0o];omega);rw[hw,List.drop_drop] at a;have k:0<4294967296^(n+1):=k1I (by omega);rcases k04 (val (U.drop (j+(n+1)))) with h|h
  ·exact h
  ·have:4294967296^(n+1)*1<=4294967296^(n+1)*val (U.drop (j+(n+1))):=k0t _ h;omega
 have b:val (V.drop j)=val (U.drop j)%v:=by have a:=q0P (V.drop j) (n+1) (by rw[k0o];omega);rw[List.drop_drop,e,z,k1w,k0S,hr,hw] at a;exact a
 refine⟨?_,b⟩;have c:=q0P V j (by omega);have f:=q0P U j (by omega);rw[d,b] at c;rw[c,f,hw];have g:=k0O (val (U.drop j)) v;rw[k1F,<- k0u,k1v (val (U.drop j)%v),g]
theorem qas(hj:j<Q.length):val ((Q.set j x).drop j)=x+4294967296*val (Q.drop (j+1)):=by rw[q0N,q1f _ _ _ _ hj,if_pos rfl];have e:(Q.set j x).drop (j+1)=Q.drop (j+1):=List.drop_set_of_lt (by omega);rw[e]
theorem q9J{m:Nat}(hl:Lim U)(hU:val U=a*2^s)(ha:a<4294967296^n)(hs:s<32)(hmn:m<=n)(hm:0<m)(ht:2147483648<=nth (toL (b*2^s)) (m-1)):val (U.drop (n-m+1))<b*2^s:=by
 rw[<- q1w hl,hU];apply k0J;rw[q1p] at ht;have c:2147483648<=b*2^s/4294967296^(m-1):=k06 ht (Nat.mod_le _ _);rw[k1T (k1I (by omega))] at c;have f:a*2^s<4294967296^n*2147483648:=by have d:2^s<=2^31:=k05 (by omega) (by omega);have g:a*2^s<4294967296^n*2^s:=k0B ha (k0m _);have h:4294967296^n*2^s<=4294967296^n*2^31:=k0t _ d;omega
 have e:4294967296^(n-m+1)*(2147483648*4294967296^(m-1))<=4294967296^(n-m+1)*(b*2^s):=k0t _ c;rw[k0Q,<- k0q,show n-m+1+(m-1)=n by omega] at e;omega
theorem qcv(hb:0<b)(h:a*2^s=val U+b*2^s*val Q)(hu:val U<b*2^s):val Q=a/b/\val U/2^s=a%b:=by
 have c:0<2^s:=k0m s;have d:a*2^s/(b*2^s)=val Q:=by rw[h,k1Y _ _ (k0w hb c),k1c hu,k13]
 have e:a*2^s%(b*2^s)=val U:=by rw[h,k1B,k0F hu]
 rw[Nat.mul_div_mul_right _ _ c] at d;rw[Nat.mul_mod_mul_right] at e;exact⟨d.symm,by rw[<- e,Nat.mul_div_cancel _ c]⟩
theorem qcu(hj:j<Q.length)(h:A=val U+v*(4294967296^(j+1)*val (Q.drop (j+1))))(hs:val V+4294967296^j*(v*x)=val U):A=val V+v*(4294967296^j*val ((Q.set j x).drop j)):=by rw[qas hj,h,<- hs,k0u (4294967296^j),k0u v,k0f,k0k (4294967296^j),k0Q v (4294967296^j) x];omega
end
section
structure Lehmer(a b e x y u1 u2 v1 v2:Nat)(q4x:Bool):Prop where
 i1:a/2^e=v2*x+v1*y
 i2:b/2^e=u2*x+u1*y
 det:if q4x then u1*v2+1=u2*v1 else u1*v2=u2*v1+1
 hu1:u1<=v2
 hu2:u2<=v2
 hs:u1+u2<=v1+v2
 hv:v1<=v2
 h1:1<=v2
 hxy:y<=x
 hx:x<1152921504606846976
structure Good(a b u0 u1 v0 v1:Nat)(q4x:Bool)(A B:Nat):Prop where
 ea:if q4x then(A:Int)=u0*a-v0*b else(A:Int)=v0*b-u0*a
 eb:if q4x then(B:Int)=v1*b-u1*a else(B:Int)=u1*a-v1*b
 ja:(a:Int)=v1*A+v0*B
 jb:(b:Int)=u1*A+u0*B
 le:B<=A
 p0:1<=v0
 p1:1<=v1
 bu0:u0<1073741824
 bu1:u1<1073741824
 bv0:v0<1073741824
 bv1:v1<1073741824
theorem q3t{e:Nat}(h:b<=a)(hx:a/2^e<1152921504606846976):Lehmer a b e (a/2^e) (b/2^e) 1 0 0 1 false:=⟨by simp,by simp,by simp,by omega,by omega,by omega,by omega,by omega,Nat.div_le_div_right h,hx⟩
theorem qaH(h:v*v<1152921504606846976):v<1073741824:=by apply k2d;intro a;have:=k2m a a;omega
theorem q2A{e:Nat}(h:Lehmer a b e x y u1 u2 v1 v2 q4x)(ha:a/2^e<1152921504606846976)(hy:v2<=y):v2<1073741824:=by apply qaH;have c:v2*v2<=v2*x:=k0t _ (k06 hy h.hxy);have d:=h.i1;omega
theorem q4b{e:Nat}(h:Lehmer a b e x y u1 u2 v1 v2 q4x)(hy:v2<=y):Lehmer a b e y (x-x/y*y) u2 (u1+x/y*u2) v2 (v1+x/y*v2) (!q4x):=by
 have g:0<y:=k01 h.h1 hy;have j:1<=x/y:=(k1T g).2 (by have:=h.hxy;omega);have hx:x=x/y*y+(x-x/y*y):=by have:=Nat.div_mul_le_self x y;omega
 have k:x-x/y*y<y:=by have:=k0z x g;have e:=k2q x y;rw[k0h] at e;omega
 generalize x-x/y*y=r at *
 generalize x/y=q at *
 obtain⟨p,rfl⟩:∃p,q=p+1:=⟨q-1,by omega⟩;have c:p*u2<=p*v2:=k0t _ h.hu2;have d:(p+1)*u2=p*u2+u2:=Nat.succ_mul _ _;have f:(p+1)*v2=p*v2+v2:=Nat.succ_mul _ _;have l:=h.hu1;have m:=h.hu2;have n:=h.hs;have o:=h.hv;have s:=h.h1;have t:=h.hx;have u:=h.hxy;refine⟨?_,?_,?_,by omega,by omega,by omega,by omega,by omega,by omega,by omega⟩
 ·rw[h.i1]
  conv=>lhs;rw[hx]
  clear hx c d f
  grind
 ·rw[h.i2]
  conv=>lhs;rw[hx]
  clear hx c d f
  grind
 ·have i:=h.det;clear hx c d f h;cases q4x
  ·simp only[k1t,if_false,Bool.not_false,if_true] at i ⊢
   grind
  ·simp only[if_true,Bool.not_true,k1t,if_false] at i ⊢
   grind
theorem q3a{u r M:Int}(hu:0<=u)(hr:r<=M):u*r<=u*M:=k1C hr hu
theorem q4c{e:Nat}(h:Lehmer a b e x y u1 u2 v1 v2 q4x)(ha:a/2^e<1152921504606846976)(hy:v2<=y)(hxy:v1+v2<=x-y)(h1:1<=v1):∃A B,Good a b u1 u2 v1 v2 (!q4x) A B:=by
 have V:=q2A h ha hy;have d:(a:Int)=(2^e:Nat)*((v2:Int)*x+v1*y)+((a%2^e:Nat):Int):=by have z:=k0O a (2^e);rw[h.i1] at z;have:=k0g (fun n:Nat=>(n:Int)) z;simp only[k0X,k0a] at this;omega
 have f:(b:Int)=(2^e:Nat)*((u2:Int)*x+u1*y)+((b%2^e:Nat):Int):=by have z:=k0O b (2^e);rw[h.i2] at z;have:=k0g (fun n:Nat=>(n:Int)) z;simp only[k0X,k0a] at this;omega
 have K:((a%2^e:Nat):Int)<=((2^e:Nat):Int):=k2f.2 (k1j (k0z _ (k0m _)));have L:((b%2^e:Nat):Int)<=((2^e:Nat):Int):=k2f.2 (k1j (k0z _ (k0m _)));have I:(0:Int)<=((a%2^e:Nat):Int):=k0i _;have J:(0:Int)<=((b%2^e:Nat):Int):=k0i _;have F:(0:Int)<=((2^e:Nat):Int):=k0i _;have g:=h.det;have W:=h.hu1;have T:=h.hu2;have X:=h.hs;have Y:=h.hv;have Z:=h.hxy;clear h;generalize ((a%2^e:Nat):Int)=s at *
 generalize ((b%2^e:Nat):Int)=t at *
 generalize ((2^e:Nat):Int)=M at *
 have U:(v2:Int)<=(y:Int):=k2f.2 hy;have P:(v1:Int)+v2<=(x:Int)-y:=by omega
 have Q:(u2:Int)<=(v2:Int):=k2f.2 T;have R:(u1:Int)+u2<=(v1:Int)+v2:=by omega
 have n1:(0:Int)<=(u1:Int):=k0i _;have N:(0:Int)<=(u2:Int):=k0i _;have n3:(0:Int)<=(v1:Int):=k0i _;have O:(0:Int)<=(v2:Int):=k0i _;have l:M*(v2:Int)<=M*(y:Int):=k1C U F;have m:M*((v1:Int)+v2)<=M*((x:Int)-y):=k1C P F;have o:(u2:Int)*s<=u2*M:=q3a N K;have p:(u2:Int)*M<=v2*M:=k1g Q F;have q:(v2:Int)*t<=v2*M:=q3a O L;have r:((u1:Int)+u2)*s<=(u1+u2)*M:=q3a (by omega) K;have u:((u1:Int)+u2)*M<=(v1+v2)*M:=k1g R F;have v:((v1:Int)+v2)*t<=(v1+v2)*M:=q3a (by omega) L;have w:(0:Int)<=(u2:Int)*s:=k10 N I;have i:(0:Int)<=(v2:Int)*t:=k10 O J;have j:(0:Int)<=((u1:Int)+u2)*s:=k10 (by omega) I;have k:(0:Int)<=((v1:Int)+v2)*t:=k10 (by omega) J;cases q4x
 ·simp only[k1t,if_false] at g;have S:(u1:Int)*v2=u2*v1+1:=by
   have:=k0g (fun n:Nat=>(n:Int)) g
   simpa using this
  have C:(v2:Int)*b-u2*a=M*y+v2*t-u2*s:=by rw[d,f];clear l m o p q r u v w i j k d f;grind
  have D:((u1:Int)*a-v1*b)-((v2:Int)*b-u2*a)=M*((x:Int)-y)+(u1+u2)*s-(v1+v2)*t:=by rw[d,f];clear l m o p q r u v w i j k d f;grind
  have G:M*(v2:Int)=v2*M:=k2J _ _;have H:M*((v1:Int)+v2)=(v1+v2)*M:=k2J _ _;have c:0<=(v2:Int)*b-u2*a:=by rw[C];omega
  have E:0<=((u1:Int)*a-v1*b)-((v2:Int)*b-u2*a):=by rw[D];omega
  clear l m o p q r u v w i j k d f C D G H;refine⟨((u1:Int)*a-v1*b).toNat,((v2:Int)*b-u2*a).toNat,?_,?_,?_,?_,by omega,h1,by omega,by omega,by omega,by omega,by omega⟩
  ·rw[Bool.not_false,if_pos rfl,k12 (by omega)]
  ·rw[Bool.not_false,if_pos rfl,k12 c]
  ·rw[k12 (by omega),k12 c];clear E c g;grind
  ·rw[k12 (by omega),k12 c];clear E c g;grind
 ·simp only[if_true] at g;have S:(u1:Int)*v2+1=u2*v1:=by
   have:=k0g (fun n:Nat=>(n:Int)) g
   simpa using this
  have C:(u2:Int)*a-v2*b=M*y+u2*s-v2*t:=by rw[d,f];clear l m o p q r u v w i j k d f;grind
  have D:((v1:Int)*b-u1*a)-((u2:Int)*a-v2*b)=M*((x:Int)-y)+(v1+v2)*t-(u1+u2)*s:=by rw[d,f];clear l m o p q r u v w i j k d f;grind
  have G:M*(v2:Int)=v2*M:=k2J _ _;have H:M*((v1:Int)+v2)=(v1+v2)*M:=k2J _ _;have c:0<=(u2:Int)*a-v2*b:=by rw[C];omega
  have E:0<=((v1:Int)*b-u1*a)-((u2:Int)*a-v2*b):=by rw[D];omega
  clear l m o p q r u v w i j k d f C D G H;refine⟨((v1:Int)*b-u1*a).toNat,((u2:Int)*a-v2*b).toNat,?_,?_,?_,?_,by omega,h1,by omega,by omega,by omega,by omega,by omega⟩
  ·rw[Bool.not_true,if_neg (by decide),k12 (by omega)]
  ·rw[Bool.not_true,if_neg (by decide),k12 c]
  ·rw[k12 (by omega),k12 c];clear E c g;grind
  ·rw[k12 (by omega),k12 c];clear E c g;grind
theorem q7f(h:Good a b u0 u1 v0 v1 q4x A B):Nat.gcd A B=Nat.gcd a b:=by
 have g:a=v1*A+v0*B:=by have:=h.ja;exact Int.ofNat.inj (by rw[k1X,k1X,this];simp)
 have i:b=u1*A+u0*B:=by have:=h.jb;exact Int.ofNat.inj (by rw[k1X,k1X,this];simp)
 apply Nat.dvd_antisymm
 ·have e:=k1G A B;have f:=k0V A B;refine Nat.dvd_gcd ?_ ?_
  ·conv=>rhs;rw[g]
   exact Nat.dvd_add (Nat.dvd_trans e (Nat.dvd_mul_left _ _)) (Nat.dvd_trans f (Nat.dvd_mul_left _ _))
  ·conv=>rhs;rw[i]
   exact Nat.dvd_add (Nat.dvd_trans e (Nat.dvd_mul_left _ _)) (Nat.dvd_trans f (Nat.dvd_mul_left _ _))
 ·have c:((Nat.gcd a b:Nat):Int) ∣ (a:Int):=k2u.2 (k1G a b);have d:((Nat.gcd a b:Nat):Int) ∣ (b:Int):=k2u.2 (k0V a b);refine Nat.dvd_gcd ?_ ?_
  ·apply k2u.1;have:=h.ea;cases q4x
   ·rw[if_neg (by decide)] at this;rw[this];exact Int.dvd_sub (k2t d (k1V _ _)) (k2t c (k1V _ _))
   ·rw[if_pos rfl] at this;rw[this];exact Int.dvd_sub (k2t c (k1V _ _)) (k2t d (k1V _ _))
  ·apply k2u.1;have:=h.eb;cases q4x
   ·rw[if_neg (by decide)] at this;rw[this];exact Int.dvd_sub (k2t c (k1V _ _)) (k2t d (k1V _ _))
   ·rw[if_pos rfl] at this;rw[this];exact Int.dvd_sub (k2t d (k1V _ _)) (k2t c (k1V _ _))
theorem q9q(h:Good a b u0 u1 v0 v1 q4x A B):A+B<=a:=by
 have c:a=v1*A+v0*B:=by have:=h.ja;exact Int.ofNat.inj (by rw[k1X,k1X,this];simp)
 rw[c];exact Nat.add_le_add (k1y _ h.p1) (k1y _ h.p0)
end
section
open Go
def p2(n:Int):Nat:=2^n.toNat
theorem q0r(n:Int):0<p2 n:=k0m _
theorem q0n{n:Int}(h:n<=0):p2 n=1:=by unfold p2;rw[show n.toNat=0 by omega]
theorem q1S(n:Nat):p2 (n:Int)=2^n:=by unfold p2;rw[k20]
theorem q1G{n:Int}(h:0<=m)(k:0<=n):p2 (m+n)=p2 m*p2 n:=by unfold p2;rw[Int.toNat_add h k,k0q]
theorem q3r(m n:Int):p2 (m+n)*(p2 (-m)*p2 (-n))=p2 (-(m+n))*(p2 m*p2 n):=by unfold p2;rw[<- k0q,<- k0q,<- k0q,<- k0q];congr 1;omega
theorem qaz{n:Int}(h0:0<=m)(h:m<n):2*p2 m<=p2 n:=by unfold p2;rw[k0h,<- k0f];exact k05 (by omega) (by omega)
theorem q6q{n:Int}(h:m<=n):p2 m<=p2 n:=k05 (by omega) (by omega)
def q5A(e:Int)(a b:Nat):Prop:=b*p2 e<=a*p2 (-e)/\a*p2 (-e)<2*(b*p2 e)
theorem qaJ(h:e<=f)(hf:b*p2 f<=a*p2 (-f)):b*p2 e<=a*p2 (-e):=by
 have k:=q3r e (f-e);rw[show e+(f-e)=f by omega,q0n (n:=-(f-e)) (by omega),k0H] at k;have c:=q0r (f-e);have d:=q0r (-f);have g:b*p2 f*p2 (-e)<=a*p2 (-f)*p2 (-e):=k0r _ hf;have i:p2 (-f)*(b*p2 e)<=p2 (-f)*(a*p2 (-e)):=by
  calc p2 (-f)*(b*p2 e)<=p2 (-f)*(b*p2 e)*p2 (f-e):=Nat.le_mul_of_pos_right _ c
   _=b*(p2 (-f)*(p2 e*p2 (f-e))):=by grind
   _=b*(p2 f*p2 (-e)):=by rw[k]
   _=b*p2 f*p2 (-e):=by grind
   _<=a*p2 (-f)*p2 (-e):=g
   _=p2 (-f)*(a*p2 (-e)):=by grind
 exact k2G i d
theorem q3H(h:e<f)(hf:a*p2 (-e)<2*(b*p2 e)):a*p2 (-f)<b*p2 f:=by
 have k:=q3r e (f-e);rw[show e+(f-e)=f by omega,q0n (n:=-(f-e)) (by omega),k0H] at k;have d:2*1<=p2 (f-e):=by have:=qaz (m:=0) (n:=f-e) (by omega) (by omega);simpa [p2] using this
 have g:=q0r (-e);have c:p2 (-e)*(a*p2 (-f))<p2 (-e)*(b*p2 f):=by
  calc p2 (-e)*(a*p2 (-f))=a*p2 (-e)*p2 (-f):=by grind
   _<2*(b*p2 e)*p2 (-f):=k0B hf (q0r _)
   _<=p2 (f-e)*(b*p2 e)*p2 (-f):=k0r _ (k0r _ (by omega))
   _=b*(p2 (-f)*(p2 e*p2 (f-e))):=by grind
   _=b*(p2 f*p2 (-e)):=by rw[k]
   _=p2 (-e)*(b*p2 f):=by grind
 exact k1n c
theorem q5A.uniq(h:q5A e a b)(k:q5A f a b):e=f:=by
 rcases k1d e f with c|c|c
 ·have d:=q3H c h.2;have:=k.1;omega
 ·exact c
 ·have d:=q3H c k.2;have:=h.1;omega
def q0V(a b:Nat):Int:=if a*p2 (-((bl a:Int)-bl b))<b*p2 ((bl a:Int)-bl b) then(bl a:Int)-bl b-1 else(bl a:Int)-bl b
theorem q1a(ha:0<a)(hb:0<b):q5A (q0V a b) a b:=by
 have d:=q1Q a;have f:=qaK ha;have g:=q1Q b;have i:=qaK hb;have n:=q4r ha;have o:=q4r hb;have hi:a*p2 (-((bl a:Int)-bl b))<2*(b*p2 ((bl a:Int)-bl b)):=by
  have c:p2 (bl a:Int)*p2 (-((bl a:Int)-bl b))=p2 (bl b:Int)*p2 ((bl a:Int)-bl b):=by unfold p2;rw[<- k0q,<- k0q];congr 1;omega
  rw[q1S,q1S] at c
  calc a*p2 (-((bl a:Int)-bl b))<2^bl a*p2 (-((bl a:Int)-bl b)):=k0B d (q0r _)
   _=2^bl b*p2 ((bl a:Int)-bl b):=c
   _=2*2^(bl b-1)*p2 ((bl a:Int)-bl b):=by rw[k0h 2,<- k0f,show(bl b-1).succ=bl b by omega]
   _<=2*b*p2 ((bl a:Int)-bl b):=k0r _ (k0t _ i)
   _=_:=by grind
 have j:b*p2 ((bl a:Int)-bl b-1)<=a*p2 (-((bl a:Int)-bl b-1)):=by
  have c:p2 ((bl a:Int)-1)*p2 (-((bl a:Int)-bl b-1))=p2 (bl b:Int)*p2 ((bl a:Int)-bl b-1):=by unfold p2;rw[<- k0q,<- k0q];congr 1;omega
  have l:p2 ((bl a:Int)-1)=2^(bl a-1):=by rw[<- q1S];congr 1;omega
  rw[q1S,l] at c
  calc b*p2 ((bl a:Int)-bl b-1)<=2^bl b*p2 ((bl a:Int)-bl b-1):=k0r _ (k1j g)
   _=2^(bl a-1)*p2 (-((bl a:Int)-bl b-1)):=c.symm
   _<=a*p2 (-((bl a:Int)-bl b-1)):=k0r _ f
 unfold q0V;split
 ·rename_i h;refine⟨j,?_⟩;generalize (bl a:Int)-bl b=e at *
  have k:=q3r (e-1) 1;rw[show e-1+1=e by omega,show p2 1=2 from rfl,show p2 (-1)=1 from rfl,k0H] at k;have m:p2 (-e)*(a*p2 (-(e-1)))<p2 (-e)*(2*(b*p2 (e-1))):=by
   calc p2 (-e)*(a*p2 (-(e-1)))=a*p2 (-e)*p2 (-(e-1)):=by grind
    _<b*p2 e*p2 (-(e-1)):=k0B h (q0r _)
    _=b*(p2 e*p2 (-(e-1))):=by grind
    _=b*(p2 (-e)*(p2 (e-1)*2)):=by rw[k]
    _=_:=by grind
  exact k1n m
 ·rename_i h;exact⟨by omega,hi⟩
theorem q5A.cross(h:q5A e a b)(hb:0<b)(hd:0<d)(hx:a*d=c*b):q5A e c d:=by
 constructor
 ·have:b*(d*p2 e)<=b*(c*p2 (-e)):=by
   calc b*(d*p2 e)=d*(b*p2 e):=by grind
    _<=d*(a*p2 (-e)):=k0t _ h.1
    _=a*d*p2 (-e):=by grind
    _=c*b*p2 (-e):=by rw[hx]
    _=_:=by grind
  exact k2G this hb
 ·have:b*(c*p2 (-e))<b*(2*(d*p2 e)):=by
   calc b*(c*p2 (-e))=c*b*p2 (-e):=by grind
    _=a*d*p2 (-e):=by rw[hx]
    _=d*(a*p2 (-e)):=by grind
    _<d*(2*(b*p2 e)):=Nat.mul_lt_mul_of_pos_left h.2 hd
    _=_:=by grind
  exact k1n this
theorem q4U(ha:0<a)(hb:0<b)(hd:0<d)(hx:a*d=c*b):q0V a b=q0V c d:=by
 have e:0<c:=by
  rcases k04 c with h|h
  ·subst h;rw[k1K] at hx;have:=k0w ha hd;omega
  ·exact h
 exact((q1a ha hb).cross hb hd hx).uniq (q1a e hd)
theorem q9f(ha:0<a)(hb:0<b)(he:e=(bl a:Int)-bl b):q0V a b=if a*p2 (-e)<b*p2 e then e-1 else e:=by subst he;rfl
def q3B(neg:Bool)(mode:Nat)(odd:Bool)(c:Int):Bool:=
 match mode with
 | 0=>qa (0<c) || (qa (c=0) && odd)
 | 1=>qa (0<=c)
 | 2=>false
 | 3=>!neg
 | _=>neg
def rnd(neg:Bool)(mode a b:Nat):Nat:=
 if a%b=0 then a/b else if q3B neg mode (qa (a/b%2=1)) (q15 (2*(a%b)) b) then a/b+1 else a/b
theorem q3g(k a b:Nat)(hk:0<k):q15 (k*a) (k*b)=q15 a b:=by unfold q15;have c:(k*a<k*b)=(a<b):=propext (Nat.mul_lt_mul_left hk);have d:(k*b<k*a)=(b<a):=propext (Nat.mul_lt_mul_left hk);simp only[c,d]
theorem q8I(neg:Bool)(mode k a b:Nat)(hk:0<k):rnd neg mode (k*a) (k*b)=rnd neg mode a b:=by unfold rnd;rw[Nat.mul_div_mul_left _ _ hk,Nat.mul_mod_mul_left,k0Q,q3g _ _ _ hk];have:(k*(a%b)=0)=(a%b=0):=propext ⟨fun h=>by rcases Nat.mul_eq_zero.1 h with h|h<;>omega,fun h=>by rw[h,k1w]⟩;simp only[this]
theorem q8K(hb:0<b)(hd:0<d)(hx:a*d=c*b):rnd neg mode a b=rnd neg mode c d:=by rw[<- q8I neg mode d a b hd,<- q8I neg mode b c d hb,k0h d a,hx,k0h d b,k0h c b]
theorem qbn(neg:Bool)(mode a b:Nat):rnd neg mode a b<=a/b+1:=by unfold rnd;split<;>(try split)<;>omega
theorem qdm(neg:Bool)(mode a b:Nat):a/b<=rnd neg mode a b:=by unfold rnd;split<;>(try split)<;>omega
theorem qaq(hb:0<b):rnd neg mode a b*b=a↔a%b=0:=by
 have c:=k0O a b;have d:=k0z a hb;constructor
 ·intro h;unfold rnd at h;by_cases h0:a%b=0
  ·exact h0
  rw[if_neg h0] at h;split at h
  ·rw[k0U,k0N,k0h] at h;omega
  ·rw[k0h] at h;omega
 ·intro h;unfold rnd;rw[if_pos h,k0h];omega
def q0d(E:Nat):Int:=2^(E-1)-1
def q19(neg:Bool)(mode:Nat):Bool:=qa (mode=2) || (qa (mode=3) && neg) || (qa (mode=4) && !neg)
def q0K(E:Nat)(a b:Nat):Int:=max (q0V a b) (1-q0d E)
def mant(E F:Nat)(neg:Bool)(mode a b:Nat):Nat:=rnd neg mode (a*p2 (F-q0K E a b)) (b*p2 (q0K E a b-F))
def q5g(E F:Nat)(a b:Nat):Nat:=(a*p2 (F-q0K E a b))%(b*p2 (q0K E a b-F))
def q2t(F:Nat)(neg:Bool)(mode a b:Nat):Nat:=rnd neg mode (a*p2 (F-q0V a b)) (b*p2 (q0V a b-F))
def q1Z(E F:Nat)(neg:Bool)(mode a b:Nat):Nat:=mant E F neg mode a b+(q0K E a b+q0d E-1).toNat*2^F
def q2i(E F:Nat):Nat:=2^(E+F)-2^F
def over(E F:Nat)(neg:Bool)(mode a b:Nat):Bool:=qa (q0d E<q0K E a b) || decide (q2i E F<=q1Z E F neg mode a b)
def q1Y(E F:Nat)(neg:Bool)(mode a b:Nat):Bool:=qa (q0V a b<1-q0d E) && (qa (q0V a b < -q0d E) || decide (bl (q2t F neg mode a b)<=F+1))
def q1u(E F:Nat)(neg:Bool)(mode a b:Nat):Nat:=if q5g E F a b=0 then 0 else if q1Y E F neg mode a b then 5 else 1
def out(E F:Nat)(neg:Bool)(mode a b:Nat):Nat × Nat:=
 if over E F neg mode a b then(if q19 neg mode then q2i E F-1 else q2i E F,3) else(q1Z E F neg mode a b,q1u E F neg mode a b)
theorem q1c(h:2<=E):1<=q0d E:=by
 unfold q0d;have b:(2:Nat)^1<=2^(E-1):=k05 (by omega) (by omega);have a:((2^(E-1):Nat):Int)=(2:Int)^(E-1):=by rw[k0v];rfl
 rw[<- a];omega
theorem q2l(h:E<=11):q0d E<=1023:=by
 unfold q0d;have b:(2:Nat)^(E-1)<=2^10:=k05 (by omega) (by omega);have a:((2^(E-1):Nat):Int)=(2:Int)^(E-1):=by rw[k0v];rfl
 rw[<- a];omega
theorem qbb(h:2<=E):(2:Int)^E=2*q0d E+2:=by
 unfold q0d;have:(2:Int)^E=2^(E-1)*2:=by rw[<- Int.pow_succ];congr 1;omega
 rw[this];omega
theorem qbv(h:2<=E):(q2i E F:Int)=(2*q0d E+1)*(2^F:Nat):=by
 have a:=qbb h;have b:((2^E:Nat):Int)=(2:Int)^E:=by rw[k0v];rfl
 have c:2^F<=2^(E+F):=k05 (by omega) (by omega);unfold q2i;rw[Int.natCast_sub c,k0q,k0a,b,a]
 grind
theorem q4W(a b F:Nat)(e:Int):a*p2 (F-e)*(b*p2 e)=a*p2 (-e)*2^F*(b*p2 (e-F)):=by
 have k:=q3r (-e) F;rw[show -e+(F:Int)=F-e by omega,show -(-e)=e by omega,show -(F:Int) = -F from rfl,q0n (n:=-(F:Int)) (by omega),k0H,q1S,show -((F:Int)-e)=e-F by omega] at k
 calc a*p2 (F-e)*(b*p2 e)=a*b*(p2 (F-e)*p2 e):=by grind
  _=a*b*(p2 (e-F)*(p2 (-e)*2^F)):=by rw[k]
  _=_:=by grind
theorem q36(hb:0<b)(h:q5A e a b):2^F*(b*p2 (e-F))<=a*p2 (F-e)/\a*p2 (F-e)<2^(F+1)*(b*p2 (e-F)):=by
 have k:=q4W a b F e;have c:0<b*p2 e:=k0w hb (q0r _);constructor
 ·have:b*p2 e*(2^F*(b*p2 (e-F)))<=b*p2 e*(a*p2 (F-e)):=by
   calc b*p2 e*(2^F*(b*p2 (e-F)))<=a*p2 (-e)*(2^F*(b*p2 (e-F))):=k0r _ h.1
    _=a*p2 (-e)*2^F*(b*p2 (e-F)):=by grind
    _=a*p2 (F-e)*(b*p2 e):=k.symm
    _=_:=by grind
  exact k2G this c
 ·have:b*p2 e*(a*p2 (F-e))<b*p2 e*(2^(F+1)*(b*p2 (e-F))):=by
   calc b*p2 e*(a*p2 (F-e))=a*p2 (F-e)*(b*p2 e):=by grind
    _=a*p2 (-e)*2^F*(b*p2 (e-F)):=k
    _=a*p2 (-e)*(2^F*(b*p2 (e-F))):=by grind
    _<2*(b*p2 e)*(2^F*(b*p2 (e-F))):=k0B h.2 (k0w (k0m _) (k0w hb (q0r _)))
    _=_:=by rw[k0f];grind
  exact k1n this
theorem q5N{l:Int}(hb:0<b)(h:q5A e a b)(hl:e<l):a*p2 (F-l)<2^F*(b*p2 (l-F)):=by
 have c:=q3H hl h.2;have k:=q4W a b F l;have d:0<b*p2 l:=k0w hb (q0r _);have:b*p2 l*(a*p2 (F-l))<b*p2 l*(2^F*(b*p2 (l-F))):=by
  calc b*p2 l*(a*p2 (F-l))=a*p2 (F-l)*(b*p2 l):=by grind
   _=a*p2 (-l)*2^F*(b*p2 (l-F)):=k
   _=a*p2 (-l)*(2^F*(b*p2 (l-F))):=by grind
   _<b*p2 l*(2^F*(b*p2 (l-F))):=k0B c (k0w (k0m _) (k0w hb (q0r _)))
 exact k1n this
theorem q8J(hb:0<b)(h:N*b<=a):N<=rnd neg mode a b:=k06 ((k1T hb).2 h) (qdm _ _ _ _)
theorem q3G(h:a<N*b):rnd neg mode a b<=N:=by have:=qbn neg mode a b;have:a/b<N:=k0J (by rw[k0h];exact h);omega
section
variable {E F : Nat} {neg : Bool} {mode a b : Nat}
theorem q49(ha:0<a)(hb:0<b):mant E F neg mode a b<=2^(F+1):=by
 have c:=q1a ha hb;unfold mant q0K;rcases k1f (q0V a b) (1-q0d E) with h|h
 ·rw[Int.max_eq_right (by omega)];have:=q3G (neg:=neg) (mode:=mode) (q5N (F:=F) hb c h);rw[k0f];have:=k0m F;omega
 ·rw[Int.max_eq_left (by omega)];exact q3G (q36 (F:=F) hb c).2
theorem qaF(ha:0<a)(hb:0<b)(h:q0V a b<1-q0d E):mant E F neg mode a b<=2^F:=by unfold mant q0K;rw[Int.max_eq_right (by omega)];exact q3G (q5N (F:=F) hb (q1a ha hb) h)
theorem q6r(ha:0<a)(hb:0<b)(h:1-q0d E<=q0V a b):2^F<=mant E F neg mode a b:=by unfold mant q0K;rw[Int.max_eq_left (by omega)];exact q8J (k0w hb (q0r _)) (q36 (F:=F) hb (q1a ha hb)).1
theorem q6D(ha:0<a)(hb:0<b):q2t F neg mode a b<=2^(F+1):=q3G (q36 (F:=F) hb (q1a ha hb)).2
theorem qcq(ha:0<a)(hb:0<b):2^F<=q2t F neg mode a b:=q8J (k0w hb (q0r _)) (q36 (F:=F) hb (q1a ha hb)).1
theorem q9b:1-q0d E<=q0K E a b:=Int.le_max_right _ _
theorem q9a(h:1-q0d E<q0K E a b):q0K E a b=q0V a b:=by unfold q0K at *;omega
theorem q9L(m N:Nat)(q r:Int):q15 (m*p2 q*p2 (-r)) (N*p2 r*p2 (-q))=q15 (m*p2 (q-r)) (N*p2 (r-q)):=by
 have k:=q3r q (-r);rw[show q + -r=q-r by omega,show -(-r)=r by omega,show -(q-r)=r-q by omega] at k;have a:0<p2 q*p2 (-r):=k0w (q0r _) (q0r _);have b:0<p2 (q-r):=q0r _;rw[<- q3g (p2 (q-r)) _ _ b,<- q3g (p2 q*p2 (-r)) (m*p2 (q-r)) _ a];congr 1
 ·grind
 ·calc p2 (q-r)*(N*p2 r*p2 (-q))=N*(p2 (q-r)*(p2 (-q)*p2 r)):=by grind
   _=N*(p2 (r-q)*(p2 q*p2 (-r))):=by rw[k]
   _=_:=by grind
theorem q70(hb:0<b):q15 (mant E F neg mode a b*p2 (q0K E a b-F)*b) (a*p2 (F-q0K E a b))=0↔q5g E F a b=0:=by
 have h:=qaq (neg:=neg) (mode:=mode) (a:=a*p2 (F-q0K E a b)) (b:=b*p2 (q0K E a b-F)) (k0w hb (q0r _));unfold q5g;rw[<- h];unfold mant;generalize rnd neg mode (a*p2 (F-q0K E a b)) (b*p2 (q0K E a b-F))=m;rw[show m*p2 (q0K E a b-F)*b=m*(b*p2 (q0K E a b-F)) by grind];unfold q15;constructor
 ·intro k;by_cases h1:m*(b*p2 (q0K E a b-F))<a*p2 (F-q0K E a b)
  ·rw[if_pos h1] at k;omega
  ·rw[if_neg h1] at k;by_cases h2:a*p2 (F-q0K E a b)<m*(b*p2 (q0K E a b-F))
   ·rw[if_pos h2] at k;omega
   ·omega
 ·intro k;rw[k,if_neg (Nat.lt_irrefl _),if_neg (Nat.lt_irrefl _)]
theorem q5I(ha:0<a)(hb:0<b)(hE:2<=E):q15 (q2t F neg mode a b*p2 (q0V a b-F)*p2 (q0d E-1)) (p2 (1-q0d E)*p2 (F-q0V a b))<0↔q1Y E F neg mode a b=true:=by
 have f:=q6D (F:=F) (neg:=neg) (mode:=mode) ha hb;have g:=qcq (F:=F) (neg:=neg) (mode:=mode) ha hb;have o:=q1c hE;have k:=q9L (q2t F neg mode a b) 1 (q0V a b-F) (1-q0d E);rw[k0N,show -(1-q0d E)=q0d E-1 by omega,show -(q0V a b-(F:Int))=F-q0V a b by omega] at k;rw[k,q3w,k0N];unfold q1Y;rw[k0C,k1z,k1o,k1o,k1o];generalize q2t F neg mode a b=m at *
 generalize q0V a b=e at *
 have d:bl m<=F+1↔m<2^(F+1):=⟨fun h=>k01 (q1Q m) (k05 (by omega) h),fun h=>q1g h⟩;rw[d];rcases k1f e (1-q0d E) with h|h
 ·rw[q0n (n:=e-F-(1-q0d E)) (by omega),k0H];have i:p2 (1-q0d E-(e-F))=2^F*p2 (1-q0d E-e):=by rw[<- q1S,<- q1G (by omega) (by omega)];congr 1;omega
  rw[i];rcases k1f e (-q0d E) with c|c
  ·have:=qaz (m:=0) (n:=1-q0d E-e-1) (by omega) (by omega);have p:p2 (1-q0d E-e)=2*p2 (1-q0d E-e-1):=by have:=q1G (m:=1) (n:=1-q0d E-e-1) (by omega) (by omega);rw[show(1:Int)+(1-q0d E-e-1)=1-q0d E-e by omega] at this;rw[this];rfl
   have j:p2 0=1:=rfl;rw[j] at this;have q:2^F*4<=2^F*p2 (1-q0d E-e):=k0t _ (by omega);rw[k0f] at f;have:=k0m F;exact⟨fun _=>⟨h,.inl c⟩,fun _=>by omega⟩
  ·have l:e = -q0d E:=by omega
   rw[l,show(1:Int)-q0d E - -q0d E=1 by omega,show p2 1=2 from rfl,k0f];constructor
   ·intro k;exact⟨by omega,.inr k⟩
   ·rintro⟨-,k|k⟩
    ·omega
    ·exact k
 ·constructor
  ·intro k;rcases k1f (e-F-(1-q0d E)) 0 with c|c
   ·exfalso;rw[q0n (n:=e-F-(1-q0d E)) (by omega),k0H] at k;have:p2 (1-q0d E-(e-F))<=p2 (F:Int):=q6q (by omega);rw[q1S] at this;omega
   ·exfalso;rw[q0n (n:=1-q0d E-(e-F)) (by omega)] at k;have:=k0w (k01 (k0m F) g) (q0r (e-F-(1-q0d E)));omega
  ·rintro⟨k,-⟩;omega
theorem q74(ha:0<a)(hb:0<b)(hE:2<=E):0<q15 (mant E F neg mode a b*p2 (q0K E a b-F)*p2 (F-q0d E)) ((2^(F+1)-1)*p2 (q0d E-F)*p2 (F-q0K E a b))↔over E F neg mode a b=true:=by
 have j:=q49 (E:=E) (F:=F) (neg:=neg) (mode:=mode) ha hb;have o:=q6r (E:=E) (F:=F) (neg:=neg) (mode:=mode) ha hb;have s:=qaF (E:=E) (F:=F) (neg:=neg) (mode:=mode) ha hb;have u:=q1c hE;have v:=q9b (E:=E) (a:=a) (b:=b);have w:=q9a (E:=E) (a:=a) (b:=b);have hi:=qbv (F:=F) hE;have k:=q9L (mant E F neg mode a b) (2^(F+1)-1) (q0K E a b-F) (q0d E-F);rw[show -(q0d E-(F:Int))=F-q0d E by omega,show -(q0K E a b-(F:Int))=F-q0K E a b by omega,show q0K E a b-F-(q0d E-F)=q0K E a b-q0d E by omega,show q0d E-F-(q0K E a b-F)=q0d E-q0K E a b by omega] at k;rw[k,q3x];unfold over q1Z;rw[k1z,k1o,k1o];have x:=k0m F;have t:q0K E a b=max (q0V a b) (1-q0d E):=rfl;generalize mant E F neg mode a b=m at *
 generalize q0K E a b=l at *
 have p:2^(F+1)=2*2^F:=by rw[k0f,k0h]
 rw[p] at j ⊢;rcases k1f (q0d E) l with h|h
 ·refine⟨fun _=>.inl h,fun _=>?_⟩;rw[q0n (n:=q0d E-l) (by omega),k0H];have q:=o (by omega);have f:2*p2 0<=p2 (l-q0d E):=qaz (by omega) (by omega);rw[show p2 0=1 from rfl] at f;have:2^F*2<=m*p2 (l-q0d E):=k2m q (by omega);omega
 ·rw[q0n (n:=l-q0d E) (by omega),k0H];have r:((l+q0d E-1).toNat:Int)=l+q0d E-1:=by omega
  have i:(q2i E F<=m+(l+q0d E-1).toNat*2^F)↔l=q0d E/\m=2*2^F:=by
   have y:((m+(l+q0d E-1).toNat*2^F:Nat):Int)=m+(l+q0d E-1)*(2^F:Nat):=by rw[k0X,k0a,r]
   have f:(2*q0d E+1)*((2^F:Nat):Int)=(l+q0d E-1)*(2^F:Nat)+(q0d E-l+2)*(2^F:Nat):=by grind
   generalize (2^F:Nat)=T at *
   constructor
   ·intro c;have e:(q0d E-l+2)*(T:Int)<=m:=by omega
    have z:(m:Int)<=2*T:=by omega
    rcases k1f l (q0d E) with g|g
    ·have:3*(T:Int)<=(q0d E-l+2)*T:=k1g (by omega) (by omega);omega
    ·have d:l=q0d E:=by omega
     rw[d,show q0d E-q0d E+2=2 by omega] at e;exact⟨d,by omega⟩
   ·rintro⟨c,e⟩;subst c;rw[show q0d E-q0d E+2=2 by omega] at f;omega
  rw[i];constructor
  ·intro c;right;rcases k1f l (q0d E) with g|g
   ·have:=qaz (m:=0) (n:=q0d E-l) (by omega) (by omega);rw[show p2 0=1 from rfl] at this;have:(2*2^F-1)*2<=(2*2^F-1)*p2 (q0d E-l):=k0t _ (by omega);omega
   ·have d:l=q0d E:=by omega
    rw[d,show q0d E-q0d E=0 by omega,show p2 0=1 from rfl] at c;exact⟨d,by omega⟩
  ·rintro(c|⟨c,e⟩)
   ·omega
   ·rw[c,e,show q0d E-q0d E=0 by omega,show p2 0=1 from rfl];omega
end
end
end Go.Proofs.YthopehoklmgphaaGreatDoor
