/- Lemmas. -/
import Derived.Test.YtabcgemembkkcaaGreatDoorPartAA
import Derived.Laws.MathBits
import Derived.Lib.ItoaNum
set_option linter.all false
open Decidable renaming decide->qa
open Int renaming dvd_sub->qb,ofNat.inj->qc,max_eq_right->qd,max_eq_left->qe
namespace Go.Proofs.YtabcgemembkkcaaGreatDoor
variable{n k a b x N h s i d r u v v1 v2 u3 p G c P R u0 u1 u2 y j A v0 B mode E F:Nat}{U Q xs V vs W X:List Nat}{m e f:Int}{q3k neg:Bool}
section
def bl(n:Nat):Nat:=Go.bitLen n
theorem qaK:bl 0=0:=rfl
theorem q0S(n:Nat):n<2^bl n:=(Go.bitLen_spec n).1
theorem q8U(h:0<n):2^(bl n-1)<=n:=(Go.bitLen_spec n).2 (by omega)
theorem q3I(h:0<n):0<bl n:=by
 rcases k01 (bl n) with a|a
 ·have:=q0S n;rw[a] at this;omega
 ·exact a
theorem q0B(h:n<2^k):bl n<=k:=by
 rcases k01 n with a|a
 ·subst a;rw[qaK];omega
 ·have c:=q8U a;have d:=q3I a;have b:2^(bl n-1)<2^k:=by omega
  have:=(k1J (by omega:1<2)).1 b;omega
theorem qc2(h:n<2^k)(h1:2^(k-1)<=n)(hk:0<k):bl n=k:=by
 have b:=q0B h;have c:=q0S n;have a:2^(k-1)<2^bl n:=by omega
 have:=(k1J (by omega:1<2)).1 a;omega
theorem q13(h:a<=b):bl a<=bl b:=q0B (k0C h (q0S b))
theorem q9f(h:x/2^b≠0):bl x=b+bl (x/2^b):=Go.bitLen_shift x b h
theorem q7E(h:x<18446744073709551616):Go.Lib.bitLen x=bl x:=by
 rcases k01 x with a|a
 ·subst a;rfl
 ·obtain⟨d,b,c⟩:=Go.Lib.bitLenAux_bounds 64 x h (by omega);exact(qc2 c b (by omega)).symm
theorem q1z(k:Nat):4294967296^k=2^(32*k):=by rw[k14]
theorem bl_words(h:0<N):bl N=32*(words N-1)+bl (nth (toL N) (words N-1))/\0<nth (toL N) (words N-1):=by
 have d:=q3A h;have a:=q0h N;have f:0<words N:=by
  rcases k01 (words N) with b|b
  ·rw[b] at a;simp at a;omega
  ·exact b
 have e:nth (toL N) (words N-1)=N/4294967296^(words N-1):=by rw[q12];apply k0D;apply k0w;rw[<- k0a,show(words N-1).succ=words N by omega];exact a
 have c:0<N/4294967296^(words N-1):=k1i d (k1p (by omega));rw[e];refine⟨?_,c⟩;rw[q1z] at c ⊢;exact q9f (by omega)
theorem q1q{Q:Nat}(h:∀i,i<U.length->nth U i=Q/4294967296^i%4294967296):val U=Q%4294967296^U.length:=by
 induction U generalizing Q with
 | nil=>simp [val,Nat.mod_one]
 | cons x xs ih =>
  have a:=h 0 (by simp);have b:nth (x::xs) 0=x:=rfl;rw[b] at a;have c:∀i,i<xs.length->nth xs i=(Q/4294967296)/4294967296^i%4294967296:=by
   intro i hi;have:=h (i+1) (by simp;omega);have e:nth (x::xs) (i+1)=nth xs i:=by unfold nth;simp
   rw[e,k0a,k0b,<- k0r] at this;exact this
  rw[val,ih c,k1Y,a,k0E,k1d,k0a,k0b (4294967296^xs.length),Nat.mod_mul]
theorem q2T{zs:List Nat}(hl:Lim zs)(i s:Nat)(hs:s<32):(nth zs i+4294967296*nth zs (i+1))/2^s%4294967296=(val zs/2^s)/4294967296^i%4294967296:=by
 have a:val zs/4294967296^i=nth zs i+4294967296*nth zs (i+1)+18446744073709551616*val (zs.drop (i+1+1)):=by rw[q11 hl,q0s zs i,q0s zs (i+1)];omega
 have b:(val zs/2^s)/4294967296^i=(val zs/4294967296^i)/2^s:=by rw[k0r,k0r,k0b]
 rw[b,a];have c:18446744073709551616*val (zs.drop (i+1+1))=2^s*(2^(32-s)*(4294967296*val (zs.drop (i+1+1)))):=by rw[<- k0h,<- k0i,show s+(32-s)=32 by omega];omega
 rw[c,k1Q _ _ (k0c s),<- k0h,k0b (2^(32-s)),k0h,k1s]
theorem qbB{l:Nat}(hh:h<2^s):h ||| 2^s*l=h+2^s*l:=by have:=k1e hh l;rw[Nat.or_comm,<- this,k0V]
theorem q48(hx:x<4294967296)(hs:s<32):(x*2^s)%4294967296=2^s*(x%2^(32-s))/\(x*2^s)/4294967296<2^s/\x*2^s<18446744073709551616:=by
 have e:(4294967296:Nat)=2^s*2^(32-s):=by rw[<- k0i,show s+(32-s)=32 by omega]
 have a:0<2^s:=k0c s;refine⟨?_,?_,?_⟩
 ·rw[k0b x]
  conv=>lhs;rw[e]
  rw[Nat.mul_mod_mul_left]
 ·apply k0w;exact k0z hx a
 ·have b:2^s<=2^31:=k04 (by omega) (by omega);have c:x*2^s<=4294967295*2^31:=k1S (by omega) b;omega
theorem q6O(hU:i+k+1<U.length)(hh:nth U (i+k)=h)(hlt:h<2^s)(hx:nth xs i=x)(hxl:x<4294967296)(hs:s<32)
  (hv:val (U.take (i+k))+4294967296^(i+k)*h=4294967296^k*(2^s*val (xs.take i))) :
  val (((U.set (i+k) (h ||| (x*2^s)%4294967296)).set (i+k+1) ((x*2^s)/4294967296)).take (i+1+k))+4294967296^(i+1+k)*((x*2^s)/4294967296)=4294967296^k*(2^s*val (xs.take (i+1))):=by
 obtain⟨a,c,_⟩:=q48 hxl hs;rw[show i+1+k=i+k+1 by omega,List.take_set_of_le (Nat.le_refl _),q0i U _ _ (by omega),a,qbB hlt,q08,hx,k0a,k0h,k1x,<- k0m,<- a];have b:h+x*2^s%4294967296+4294967296*(x*2^s/4294967296)=h+x*2^s:=by omega
 rw[b,k0m,k0m,k0m,<- hv];have d:4294967296^(i+k)*(x*2^s)=4294967296^k*(2^s*(4294967296^i*x)):=by rw[k0i,k0b x,k0h,k0P,k0P (4294967296^i)]
 omega
theorem q6P(hU:U.length=n+k+1)(hx:xs.length<=n)(hh:nth U (n+k)=h)
  (hv:val (U.take (n+k))+4294967296^(n+k)*h=4294967296^k*(2^s*val (xs.take n))):val U=val xs*2^(32*k+s):=by
 rw[q0j (xs:=xs) hx] at hv;have e:=q08 U (n+k);rw[q0j (xs:=U) (by omega),hh,hv] at e;rw[e,k0i,<- q1z,<- k0h,k0b]
theorem divs_step(hd:0<d)(hr:r<d)(hx:nth xs i<4294967296)(hv:∀j,i<j->nth V j=(val xs/d)/4294967296^j%4294967296)(hr':r=(val xs/4294967296^(i+1))%d)(hl:Lim xs):(r*4294967296+nth xs i)/d=(val xs/d)/4294967296^i%4294967296/\(r*4294967296+nth xs i)%d=(val xs/4294967296^i)%d/\(r*4294967296+nth xs i)/d<4294967296:=by
 have c:val xs/4294967296^i=nth xs i+4294967296*(val xs/4294967296^(i+1)):=by rw[q11 hl,q11 hl,q0s]
 generalize hM:val xs/4294967296^(i+1)=M at *
 have e:M=d*(M/d)+r:=by rw[hr'];exact(k0M M d).symm
 have a:val xs/4294967296^i=(r*4294967296+nth xs i)+d*(4294967296*(M/d)):=by
  rw[c];have:4294967296*M=4294967296*(d*(M/d))+4294967296*r:=by rw[<- k0m,<- e]
  rw[this,k0P];omega
 have b:(r*4294967296+nth xs i)/d<4294967296:=by apply k0w;have:(r+1)*4294967296<=d*4294967296:=k0n _ hr;omega
 refine⟨?_,?_,b⟩
 ·have f:(val xs/d)/4294967296^i=(val xs/4294967296^i)/d:=by rw[k0r,k0r,k0b]
  rw[f,a,k1Q _ _ hd,k1s,k0D b]
 ·rw[a,k1s]
end
section
theorem q7K(hv:(v1*4294967296+v2)*p<=v)(hu:u<(u3+1)*p)(h:u3<G*(v1*4294967296+v2)):u/v<G:=by have a:(u3+1)*p<=G*(v1*4294967296+v2)*p:=k0n _ h;rw[k0h] at a;have b:G*((v1*4294967296+v2)*p)<=G*v:=k0g _ hv;exact k0w (by rw[k0b];exact k02 hu (k06 a b))
theorem q6t(hv:v<(v1*4294967296+v2+1)*p)(hv':(v1*4294967296+v2)*p<=v)(hu:u3*p<=u)(hv1:0<v1)(hG:G<4294967296)(h:G*(v1*4294967296+v2)<=u3):G<=u/v+1:=by
 rcases k01 G with b|b
 ·rw[b];exact k0x _
 ·have a:0<p:=by
   rcases k01 p with a|a
   ·subst a;omega
   ·exact a
  have c:0<v:=by have:0<(v1*4294967296+v2)*p:=k0j (by omega) a;omega
  have d:G*(v1*4294967296+v2)*p<=u3*p:=k0n _ h;rw[k0h] at d;have e:G*v<=G*((v1*4294967296+v2)*p+p):=k0g _ (by rw[k0Z,k0J] at hv;omega);rw[k0m] at e;have g:G*p<=v:=by have i:G*p<=(v1*4294967296+v2)*p:=k0n _ (by omega);omega
  have f:(G-1)*v<=u:=by
   have j:G*v=(G-1)*v+v:=by conv=>lhs;rw[show G=(G-1)+1 by omega,k0Z,k0J]
   omega
  have:=(k1E c).2 f;omega
theorem q7u{b':Nat}(hX:i<X.length)(hs:nth X i=nth W i)(hd:d+(G*nth vs i+c)%4294967296+b=nth X i+4294967296*b')
  (h:val (X.take i)+G*val (vs.take i)=val (W.take i)+4294967296^i*(c+b)) :
  val ((X.set i d).take (i+1))+G*val (vs.take (i+1))=val (W.take (i+1))+4294967296^(i+1)*((G*nth vs i+c)/4294967296+b'):=by
 rw[q0i X i _ hX,q08,q08,k0a,k0h,<- hs];have e:=k0M (G*nth vs i+c) 4294967296;have a:4294967296^i*(d+(G*nth vs i+c)+b)=4294967296^i*(nth X i+4294967296*((G*nth vs i+c)/4294967296+b')):=by congr 1;omega
 rw[k0m,k0m,k0m,k0m] at a;rw[k0m G,k0P G];rw[k0m] at h;omega
theorem q7w(hX:i<X.length)(hs:nth X i=nth W i)
  (h:val (X.take i)+4294967296^i*c=val (W.take i)+val (vs.take i)) :
  val ((X.set i ((nth X i+nth vs i+c)%4294967296)).take (i+1))+4294967296^(i+1)*((nth X i+nth vs i+c)/4294967296)=val (W.take (i+1))+val (vs.take (i+1)):=by
 rw[q0i X i _ hX,q08,q08,k0a,k0h,k1x,<- k0m,k26,hs,k0m,k0m];omega
theorem q1B(U:List Nat)(j i x:Nat):(U.set (j+i) x).drop j=(U.drop j).set i x:=by
 apply q3B
 ·rw[k0k,k09,k09,k0k]
 ·intro k a;rw[k0k,k09] at a;rw[q0E];by_cases h:k=i
  ·subst h;rw[q0K _ _ _ _ (by omega),k0q rfl,q0K _ _ _ _ (by rw[k0k];omega),k0q rfl]
  ·rw[q0m _ _ (by omega),q0m _ _ h,q0E]
theorem q7Q{q X:Nat}(h:X+G*v=u)(hlow:u/v<=G)(hv:0<v)(hq:q=u/v)(_:X<P):G=q/\X=u%v:=by
 have a:G*v<=u:=by omega
 have c:=(k1E hv).2 a;have b:G=u/v:=by omega
 refine⟨by omega,?_⟩;have:=k0M u v;rw[<- b,k0b] at this;omega
theorem q91{X:Nat}(h:X+G*v=u+P)(hX:X<P)(hhigh:G<=u/v+1)(hv:0<v):G=u/v+1/\X+v=u%v+P:=by
 have b:u<G*v:=by omega
 have c:u/v<G:=k0w (by rw[k0b];exact b);have a:G=u/v+1:=by omega
 refine⟨a,?_⟩;have:=k0M u v;rw[a,k0Z,k0J,k0b] at h;omega
theorem q50(he:G*v1+R=u1+4294967296*u0)(h:G*v2<=R*4294967296+u2):G*(v1*4294967296+v2)<=u2+4294967296*u1+18446744073709551616*u0:=by rw[k0m,<- k0h];omega
theorem q8X(he:G*v1+R=u1+4294967296*u0)(h:R*4294967296+u2<G*v2):u2+4294967296*u1+18446744073709551616*u0<G*(v1*4294967296+v2):=by rw[k0m,<- k0h];omega
theorem q5o(hv:2147483648<=v1)(hv':v1<4294967296)(hu0:u0<=v1)(hu1:u1<4294967296)(hu2:u2<4294967296):u2+4294967296*u1+18446744073709551616*u0<((u1+4294967296*u0)/v1+1)*(v1*4294967296+v2)/\(u1+4294967296*u0)/v1<=4294967297/\(u1+4294967296*u0)/v1*v1+(u1+4294967296*u0)%v1=u1+4294967296*u0:=by
 have a:=k0M (u1+4294967296*u0) v1;have b:=k0l (u1+4294967296*u0) (show v1 > 0 by omega);have c:(u1+4294967296*u0)/v1<4294967298:=k0w (by omega);generalize (u1+4294967296*u0)/v1=G at *
 generalize (u1+4294967296*u0)%v1=R at *
 rw[k0b] at a;refine⟨?_,by omega,a⟩;rw[k0m,<- k0h,k0Z,k0J];omega
theorem q5p(he:G*v1+R=u1+4294967296*u0)(hu0:u0<=v1)(hu1:u1<4294967296)(hR:4294967296<=R)(hv2:v2<4294967296):G<4294967296/\∀u2,G*v2<=R*4294967296+u2:=by
 have a:G<4294967296:=by
  rcases k0A G 4294967296 with h|h
  ·exact h
  ·have b:4294967296*v1<=G*v1:=k0n _ h;omega
 refine⟨a,fun u2=>?_⟩;have:=q1v a hv2;omega
theorem q7Y(h:G*v1+R=N)(hG:0<G):(G-1)*v1+(R+v1)=N:=by
 have e:G*v1=(G-1)*v1+v1:=by conv=>lhs;rw[show G=(G-1)+1 by omega,k0Z,k0J]
 omega
theorem q9G(x z y:Nat)(hx:x<4294967296)(hz:z<4294967296)(hy:y<=1):∃d q,d<4294967296/\q<=1/\d+z+y=x+4294967296*q:=by
 by_cases h:z+y<=x
 ·exact⟨x-z-y,0,by omega,by omega,by omega⟩
 ·exact⟨x+4294967296-z-y,1,by omega,by omega,by omega⟩
theorem q92{Y:Nat}(hY:Y<4294967296^n)(hr:r<4294967296^n)(h:Y+4294967296^n*(c+d)=r+4294967296^n*4294967296):c+d=4294967296/\Y=r:=by
 rcases k1v (c+d) 4294967296 with a|a|a
 ·have b:4294967296^n*(c+d+1)<=4294967296^n*4294967296:=k0g _ a;rw[k0m _ _ 1,k0u] at b;omega
 ·rw[a] at h;exact⟨a,by omega⟩
 ·have b:4294967296^n*(4294967296+1)<=4294967296^n*(c+d):=k0g _ a;rw[k0m _ _ 1,k0u] at b;omega
theorem q7v(hXl:n<X.length)(hW:u=val (W.take (n+1)))(hu0:nth W n=u0)(hd:d+x+y=u0+4294967296*b)
  (h:val (X.take n)+G*v=val (W.take n)+4294967296^n*(x+y)):val ((X.set n d).take (n+1))+G*v=u+4294967296^(n+1)*b:=by
 rw[q0i X n d hXl,hW,q08,hu0,k0a,k0h];have e:4294967296^n*(d+(x+y))=4294967296^n*(u0+4294967296*b):=by congr 1;omega
 simp only[k0m] at e h ⊢;omega
end
section
theorem q36(xs:List Nat)(n:Nat):val (xs++List.replicate n 0)=val xs:=by rw[q15,q0e];simp
theorem q8N(h:0<b):words (b*2^(32-bl (nth (toL b) (words b-1))))=words b/\2147483648<=nth (toL (b*2^(32-bl (nth (toL b) (words b-1))))) (words b-1)/\32-bl (nth (toL b) (words b-1))<32:=by
 obtain⟨e,f⟩:=bl_words h;have m:0<words b:=by
  rcases k01 (words b) with a|a
  ·have:=q06.1 a;omega
  ·exact a
 have n:bl (nth (toL b) (words b-1))<=32:=q0B (nth_lt (q24 b) _);have o:=q3I f;generalize nth (toL b) (words b-1)=t at *
 have g:=q0S b;have i:=q8U h;have c:b*2^(32-bl t)<2^(32*words b):=by have:b*2^(32-bl t)<2^bl b*2^(32-bl t):=k0z g (k0c _);rw[<- k0i,show bl b+(32-bl t)=32*words b by omega] at this;exact this
 have d:2^(32*words b-1)<=b*2^(32-bl t):=by have:2^(bl b-1)*2^(32-bl t)<=b*2^(32-bl t):=k0n _ i;rw[<- k0i,show bl b-1+(32-bl t)=32*words b-1 by omega] at this;exact this
 rw[<- q1z] at c;have j:4294967296^(words b-1)<=b*2^(32-bl t):=by rw[q1z];exact k06 (k04 (by omega) (by omega)) d
 have k:words (b*2^(32-bl t))=words b:=by have p:=q10 c;have l:=q0h (b*2^(32-bl t));have q:words b-1<words (b*2^(32-bl t)):=q9C (k0C j l);omega
 refine⟨k,?_,by omega⟩;rw[q12,k0D]
 ·rw[k1E (k1p (by omega)),q1z];rw[show(2147483648:Nat)=2^31 by rfl,<- k0i,show 31+32*(words b-1)=32*words b-1 by omega];exact d
 ·apply k0w;rw[<- k0a,show(words b-1).succ=words b by omega];exact c
theorem qb6(hl:Lim U)(hv:v<=4294967296^n)(h:val (U.drop (j+1))<v):val ((U.drop j).take (n+1))=val (U.drop j)/\val ((U.drop j).take (n+1))<4294967296*v:=by
 have c:val (U.drop j)=nth U j+4294967296*val (U.drop (j+1)):=q0s U j;have d:=nth_lt hl j;have a:val (U.drop j)<4294967296^(n+1):=by rw[k0a];omega
 have b:val ((U.drop j).take (n+1))=val (U.drop j):=by rw[<- q3n (q0Y hl j),k0D a]
 exact⟨b,by omega⟩
theorem q99(hl:Lim U)(hl':Lim V)(hlen:V.length=U.length)(hjn:j+n+1<=U.length)(hs:∀p,p<j\/j+n+1<=p->nth V p=nth U p)
  (hw:val ((U.drop j).take (n+1))=val (U.drop j)) (hr:val ((V.drop j).take (n+1))=val ((U.drop j).take (n+1))%v) :
  val V+4294967296^j*(v*(val ((U.drop j).take (n+1))/v))=val U/\val (V.drop j)=val (U.drop j)%v:=by
 have d:V.take j=U.take j:=q3B (by rw[k0s,k0s,hlen]) fun i hi=>by rw[k0s] at hi;rw[q4l _ _ _ (by omega),q4l _ _ _ (by omega)];exact hs i (by omega)
 have e:V.drop (j+(n+1))=U.drop (j+(n+1)):=q3B (by rw[k0k,k0k,hlen]) fun i _=>by rw[q0E,q0E];exact hs _ (by omega)
 have z:val (U.drop (j+(n+1)))=0:=by
  have a:=q0z (U.drop j) (n+1) (by rw[k0k];omega);rw[hw,List.drop_drop] at a;have k:0<4294967296^(n+1):=k1p (by omega);rcases k01 (val (U.drop (j+(n+1)))) with h|h
  ·exact h
  ·have:4294967296^(n+1)*1<=4294967296^(n+1)*val (U.drop (j+(n+1))):=k0g _ h;omega
 have b:val (V.drop j)=val (U.drop j)%v:=by have a:=q0z (V.drop j) (n+1) (by rw[k0k];omega);rw[List.drop_drop,e,z,k1h,k18,hr,hw] at a;exact a
 refine⟨?_,b⟩;have c:=q0z V j (by omega);have f:=q0z U j (by omega);rw[d,b] at c;rw[c,f,hw];have g:=k0M (val (U.drop j)) v;rw[k1x,<- k0m,k0V (val (U.drop j)%v),g]
theorem q8F(hj:j<Q.length):val ((Q.set j x).drop j)=x+4294967296*val (Q.drop (j+1)):=by rw[q0s,q0K _ _ _ _ hj,k0q rfl];have e:(Q.set j x).drop (j+1)=Q.drop (j+1):=List.drop_set_of_lt (by omega);rw[e]
theorem q7W{m:Nat}(hl:Lim U)(hU:val U=a*2^s)(ha:a<4294967296^n)(hs:s<32)(hmn:m<=n)(hm:0<m)(ht:2147483648<=nth (toL (b*2^s)) (m-1)):val (U.drop (n-m+1))<b*2^s:=by
 rw[<- q11 hl,hU];apply k0w;rw[q12] at ht;have c:2147483648<=b*2^s/4294967296^(m-1):=k06 ht (Nat.mod_le _ _);rw[k1E (k1p (by omega))] at c;have f:a*2^s<4294967296^n*2147483648:=by have d:2^s<=2^31:=k04 (by omega) (by omega);have g:a*2^s<4294967296^n*2^s:=k0z ha (k0c _);have h:4294967296^n*2^s<=4294967296^n*2^31:=k0g _ d;omega
 have e:4294967296^(n-m+1)*(2147483648*4294967296^(m-1))<=4294967296^(n-m+1)*(b*2^s):=k0g _ c;rw[k0P,<- k0i,show n-m+1+(m-1)=n by omega] at e;omega
theorem qaF(hb:0<b)(h:a*2^s=val U+b*2^s*val Q)(hu:val U<b*2^s):val Q=a/b/\val U/2^s=a%b:=by
 have c:0<2^s:=k0c s;have d:a*2^s/(b*2^s)=val Q:=by rw[h,k1Q _ _ (k0j hb c),k0R hu,k0W]
 have e:a*2^s%(b*2^s)=val U:=by rw[h,k1s,k0D hu]
 rw[Nat.mul_div_mul_right _ _ c] at d;rw[Nat.mul_mod_mul_right] at e;exact⟨d.symm,by rw[<- e,Nat.mul_div_cancel _ c]⟩
theorem qaE(hj:j<Q.length)(h:A=val U+v*(4294967296^(j+1)*val (Q.drop (j+1))))(hs:val V+4294967296^j*(v*x)=val U):A=val V+v*(4294967296^j*val ((Q.set j x).drop j)):=by rw[q8F hj,h,<- hs,k0m (4294967296^j),k0m v,k0a,k0h (4294967296^j),k0P v (4294967296^j) x];omega
end
section
structure Lehmer(a b e x y u1 u2 v1 v2:Nat)(q3k:Bool):Prop where
 i1:a/2^e=v2*x+v1*y
 i2:b/2^e=u2*x+u1*y
 det:if q3k then u1*v2+1=u2*v1 else u1*v2=u2*v1+1
 hu1:u1<=v2
 hu2:u2<=v2
 hs:u1+u2<=v1+v2
 hv:v1<=v2
 h1:1<=v2
 hxy:y<=x
 hx:x<1152921504606846976
structure Good(a b u0 u1 v0 v1:Nat)(q3k:Bool)(A B:Nat):Prop where
 ea:if q3k then(A:Int)=u0*a-v0*b else(A:Int)=v0*b-u0*a
 eb:if q3k then(B:Int)=v1*b-u1*a else(B:Int)=u1*a-v1*b
 ja:(a:Int)=v1*A+v0*B
 jb:(b:Int)=u1*A+u0*B
 le:B<=A
 p0:1<=v0
 p1:1<=v1
 bu0:u0<1073741824
 bu1:u1<1073741824
 bv0:v0<1073741824
 bv1:v1<1073741824
theorem q32{e:Nat}(h:b<=a)(hx:a/2^e<1152921504606846976):Lehmer a b e (a/2^e) (b/2^e) 1 0 0 1 false:=⟨by simp,by simp,by simp,by omega,by omega,by omega,by omega,by omega,Nat.div_le_div_right h,hx⟩
theorem q8R(h:v*v<1152921504606846976):v<1073741824:=by apply k2r;intro a;have:=k1S a a;omega
theorem q2d{e:Nat}(h:Lehmer a b e x y u1 u2 v1 v2 q3k)(ha:a/2^e<1152921504606846976)(hy:v2<=y):v2<1073741824:=by apply q8R;have c:v2*v2<=v2*x:=k0g _ (k06 hy h.hxy);have d:=h.i1;omega
theorem q3y{e:Nat}(h:Lehmer a b e x y u1 u2 v1 v2 q3k)(hy:v2<=y):Lehmer a b e y (x-x/y*y) u2 (u1+x/y*u2) v2 (v1+x/y*v2) (!q3k):=by
 have g:0<y:=k02 h.h1 hy;have j:1<=x/y:=(k1E g).2 (by have:=h.hxy;omega);have hx:x=x/y*y+(x-x/y*y):=by have:=Nat.div_mul_le_self x y;omega
 have k:x-x/y*y<y:=by have:=k0l x g;have e:=k26 x y;rw[k0b] at e;omega
 generalize x-x/y*y=r at *
 generalize x/y=q at *
 obtain⟨p,rfl⟩:∃p,q=p+1:=⟨q-1,by omega⟩;have c:p*u2<=p*v2:=k0g _ h.hu2;have d:(p+1)*u2=p*u2+u2:=Nat.succ_mul _ _;have f:(p+1)*v2=p*v2+v2:=Nat.succ_mul _ _;have l:=h.hu1;have m:=h.hu2;have n:=h.hs;have o:=h.hv;have s:=h.h1;have t:=h.hx;have u:=h.hxy;refine⟨?_,?_,?_,by omega,by omega,by omega,by omega,by omega,by omega,by omega⟩
 ·rw[h.i1]
  conv=>lhs;rw[hx]
  clear hx c d f
  grind
 ·rw[h.i2]
  conv=>lhs;rw[hx]
  clear hx c d f
  grind
 ·have i:=h.det;clear hx c d f h;cases q3k
  ·simp only[k1q,k2O,k2n,k2S] at i ⊢
   grind
  ·simp only[k2S,k2B,k1q,k2O] at i ⊢
   grind
theorem q2H{u r M:Int}(hu:0<=u)(hr:r<=M):u*r<=u*M:=k1t hr hu
theorem q3z{e:Nat}(h:Lehmer a b e x y u1 u2 v1 v2 q3k)(ha:a/2^e<1152921504606846976)(hy:v2<=y)(hxy:v1+v2<=x-y)(h1:1<=v1):∃A B,Good a b u1 u2 v1 v2 (!q3k) A B:=by
 have V:=q2d h ha hy;have d:(a:Int)=(2^e:Nat)*((v2:Int)*x+v1*y)+((a%2^e:Nat):Int):=by have z:=k0M a (2^e);rw[h.i1] at z;have:=k0v (fun n:Nat=>(n:Int)) z;simp only[k1c,k07] at this;omega
 have f:(b:Int)=(2^e:Nat)*((u2:Int)*x+u1*y)+((b%2^e:Nat):Int):=by have z:=k0M b (2^e);rw[h.i2] at z;have:=k0v (fun n:Nat=>(n:Int)) z;simp only[k1c,k07] at this;omega
 have K:((a%2^e:Nat):Int)<=((2^e:Nat):Int):=k1Z.2 (k1a (k0l _ (k0c _)));have L:((b%2^e:Nat):Int)<=((2^e:Nat):Int):=k1Z.2 (k1a (k0l _ (k0c _)));have I:(0:Int)<=((a%2^e:Nat):Int):=k0f _;have J:(0:Int)<=((b%2^e:Nat):Int):=k0f _;have F:(0:Int)<=((2^e:Nat):Int):=k0f _;have g:=h.det;have W:=h.hu1;have T:=h.hu2;have X:=h.hs;have Y:=h.hv;have Z:=h.hxy;clear h;generalize ((a%2^e:Nat):Int)=s at *
 generalize ((b%2^e:Nat):Int)=t at *
 generalize ((2^e:Nat):Int)=M at *
 have U:(v2:Int)<=(y:Int):=k1Z.2 hy;have P:(v1:Int)+v2<=(x:Int)-y:=by omega
 have Q:(u2:Int)<=(v2:Int):=k1Z.2 T;have R:(u1:Int)+u2<=(v1:Int)+v2:=by omega
 have n1:(0:Int)<=(u1:Int):=k0f _;have N:(0:Int)<=(u2:Int):=k0f _;have n3:(0:Int)<=(v1:Int):=k0f _;have O:(0:Int)<=(v2:Int):=k0f _;have l:M*(v2:Int)<=M*(y:Int):=k1t U F;have m:M*((v1:Int)+v2)<=M*((x:Int)-y):=k1t P F;have o:(u2:Int)*s<=u2*M:=q2H N K;have p:(u2:Int)*M<=v2*M:=k1g Q F;have q:(v2:Int)*t<=v2*M:=q2H O L;have r:((u1:Int)+u2)*s<=(u1+u2)*M:=q2H (by omega) K;have u:((u1:Int)+u2)*M<=(v1+v2)*M:=k1g R F;have v:((v1:Int)+v2)*t<=(v1+v2)*M:=q2H (by omega) L;have w:(0:Int)<=(u2:Int)*s:=k0X N I;have i:(0:Int)<=(v2:Int)*t:=k0X O J;have j:(0:Int)<=((u1:Int)+u2)*s:=k0X (by omega) I;have k:(0:Int)<=((v1:Int)+v2)*t:=k0X (by omega) J;cases q3k
 ·simp only[k1q,k2O] at g;have S:(u1:Int)*v2=u2*v1+1:=by
   have:=k0v (fun n:Nat=>(n:Int)) g
   simpa using this
  have C:(v2:Int)*b-u2*a=M*y+v2*t-u2*s:=by rw[d,f];clear l m o p q r u v w i j k d f;grind
  have D:((u1:Int)*a-v1*b)-((v2:Int)*b-u2*a)=M*((x:Int)-y)+(u1+u2)*s-(v1+v2)*t:=by rw[d,f];clear l m o p q r u v w i j k d f;grind
  have G:M*(v2:Int)=v2*M:=k2y _ _;have H:M*((v1:Int)+v2)=(v1+v2)*M:=k2y _ _;have c:0<=(v2:Int)*b-u2*a:=by rw[C];omega
  have E:0<=((u1:Int)*a-v1*b)-((v2:Int)*b-u2*a):=by rw[D];omega
  clear l m o p q r u v w i j k d f C D G H;refine⟨((u1:Int)*a-v1*b).toNat,((v2:Int)*b-u2*a).toNat,?_,?_,?_,?_,by omega,h1,by omega,by omega,by omega,by omega,by omega⟩
  ·rw[k2n,k0q rfl,k0Y (by omega)]
  ·rw[k2n,k0q rfl,k0Y c]
  ·rw[k0Y (by omega),k0Y c];clear E c g;grind
  ·rw[k0Y (by omega),k0Y c];clear E c g;grind
 ·simp only[k2S] at g;have S:(u1:Int)*v2+1=u2*v1:=by
   have:=k0v (fun n:Nat=>(n:Int)) g
   simpa using this
  have C:(u2:Int)*a-v2*b=M*y+u2*s-v2*t:=by rw[d,f];clear l m o p q r u v w i j k d f;grind
  have D:((v1:Int)*b-u1*a)-((u2:Int)*a-v2*b)=M*((x:Int)-y)+(v1+v2)*t-(u1+u2)*s:=by rw[d,f];clear l m o p q r u v w i j k d f;grind
  have G:M*(v2:Int)=v2*M:=k2y _ _;have H:M*((v1:Int)+v2)=(v1+v2)*M:=k2y _ _;have c:0<=(u2:Int)*a-v2*b:=by rw[C];omega
  have E:0<=((v1:Int)*b-u1*a)-((u2:Int)*a-v2*b):=by rw[D];omega
  clear l m o p q r u v w i j k d f C D G H;refine⟨((v1:Int)*b-u1*a).toNat,((u2:Int)*a-v2*b).toNat,?_,?_,?_,?_,by omega,h1,by omega,by omega,by omega,by omega,by omega⟩
  ·rw[k2B,k0t (by decide),k0Y (by omega)]
  ·rw[k2B,k0t (by decide),k0Y c]
  ·rw[k0Y (by omega),k0Y c];clear E c g;grind
  ·rw[k0Y (by omega),k0Y c];clear E c g;grind
theorem q60(h:Good a b u0 u1 v0 v1 q3k A B):Nat.gcd A B=Nat.gcd a b:=by
 have g:a=v1*A+v0*B:=by have:=h.ja;exact qc (by rw[k1P,k1P,this];simp)
 have i:b=u1*A+u0*B:=by have:=h.jb;exact qc (by rw[k1P,k1P,this];simp)
 apply Nat.dvd_antisymm
 ·have e:=k15 A B;have f:=k0y A B;refine Nat.dvd_gcd ?_ ?_
  ·conv=>rhs;rw[g]
   exact Nat.dvd_add (k2l e (k2L _ _)) (k2l f (k2L _ _))
  ·conv=>rhs;rw[i]
   exact Nat.dvd_add (k2l e (k2L _ _)) (k2l f (k2L _ _))
 ·have c:((Nat.gcd a b:Nat):Int) ∣ (a:Int):=k29.2 (k15 a b);have d:((Nat.gcd a b:Nat):Int) ∣ (b:Int):=k29.2 (k0y a b);refine Nat.dvd_gcd ?_ ?_
  ·apply k29.1;have:=h.ea;cases q3k
   ·rw[k0t (by decide)] at this;rw[this];exact qb (k28 d (k1K _ _)) (k28 c (k1K _ _))
   ·rw[k0q rfl] at this;rw[this];exact qb (k28 c (k1K _ _)) (k28 d (k1K _ _))
  ·apply k29.1;have:=h.eb;cases q3k
   ·rw[k0t (by decide)] at this;rw[this];exact qb (k28 c (k1K _ _)) (k28 d (k1K _ _))
   ·rw[k0q rfl] at this;rw[this];exact qb (k28 d (k1K _ _)) (k28 c (k1K _ _))
theorem q7L(h:Good a b u0 u1 v0 v1 q3k A B):A+B<=a:=by
 have c:a=v1*A+v0*B:=by have:=h.ja;exact qc (by rw[k1P,k1P,this];simp)
 rw[c];exact Nat.add_le_add (k1y _ h.p1) (k1y _ h.p0)
end
section
open Go
def p2(n:Int):Nat:=2^n.toNat
theorem q0l(n:Int):0<p2 n:=k0c _
theorem q0c{n:Int}(h:n<=0):p2 n=1:=by unfold p2;rw[show n.toNat=0 by omega]
theorem q1a(n:Nat):p2 (n:Int)=2^n:=by unfold p2;rw[k2k]
theorem q1r{n:Int}(h:0<=m)(k:0<=n):p2 (m+n)=p2 m*p2 n:=by unfold p2;rw[Int.toNat_add h k,k0i]
theorem q31(m n:Int):p2 (m+n)*(p2 (-m)*p2 (-n))=p2 (-(m+n))*(p2 m*p2 n):=by unfold p2;rw[<- k0i,<- k0i,<- k0i,<- k0i];congr 1;omega
theorem q8K{n:Int}(h0:0<=m)(h:m<n):2*p2 m<=p2 n:=by unfold p2;rw[k0b,<- k0a];exact k04 (by omega) (by omega)
theorem q7k{n:Int}(h:m<=n):p2 m<=p2 n:=k04 (by omega) (by omega)
def q4D(e:Int)(a b:Nat):Prop:=b*p2 e<=a*p2 (-e)/\a*p2 (-e)<2*(b*p2 e)
theorem q8T(h:e<=f)(hf:b*p2 f<=a*p2 (-f)):b*p2 e<=a*p2 (-e):=by
 have k:=q31 e (f-e);rw[show e+(f-e)=f by omega,q0c (n:=-(f-e)) (by omega),k0u] at k;have c:=q0l (f-e);have d:=q0l (-f);have g:b*p2 f*p2 (-e)<=a*p2 (-f)*p2 (-e):=k0n _ hf;have i:p2 (-f)*(b*p2 e)<=p2 (-f)*(a*p2 (-e)):=by
  calc p2 (-f)*(b*p2 e)<=p2 (-f)*(b*p2 e)*p2 (f-e):=k2F _ c
   _=b*(p2 (-f)*(p2 e*p2 (f-e))):=by grind
   _=b*(p2 f*p2 (-e)):=by rw[k]
   _=b*p2 f*p2 (-e):=by grind
   _<=a*p2 (-f)*p2 (-e):=g
   _=p2 (-f)*(a*p2 (-e)):=by grind
 exact k2p i d
theorem q3i(h:e<f)(hf:a*p2 (-e)<2*(b*p2 e)):a*p2 (-f)<b*p2 f:=by
 have k:=q31 e (f-e);rw[show e+(f-e)=f by omega,q0c (n:=-(f-e)) (by omega),k0u] at k;have d:2*1<=p2 (f-e):=by have:=q8K (m:=0) (n:=f-e) (by omega) (by omega);simpa [p2] using this
 have g:=q0l (-e);have c:p2 (-e)*(a*p2 (-f))<p2 (-e)*(b*p2 f):=by
  calc p2 (-e)*(a*p2 (-f))=a*p2 (-e)*p2 (-f):=by grind
   _<2*(b*p2 e)*p2 (-f):=k0z hf (q0l _)
   _<=p2 (f-e)*(b*p2 e)*p2 (-f):=k0n _ (k0n _ (by omega))
   _=b*(p2 (-f)*(p2 e*p2 (f-e))):=by grind
   _=b*(p2 f*p2 (-e)):=by rw[k]
   _=p2 (-e)*(b*p2 f):=by grind
 exact k1k c
theorem q4D.uniq(h:q4D e a b)(k:q4D f a b):e=f:=by
 rcases k0L e f with c|c|c
 ·have d:=q3i c h.2;have:=k.1;omega
 ·exact c
 ·have d:=q3i c k.2;have:=h.1;omega
def q0I(a b:Nat):Int:=if a*p2 (-((bl a:Int)-bl b))<b*p2 ((bl a:Int)-bl b) then(bl a:Int)-bl b-1 else(bl a:Int)-bl b
theorem q0T(ha:0<a)(hb:0<b):q4D (q0I a b) a b:=by
 have d:=q0S a;have f:=q8U ha;have g:=q0S b;have i:=q8U hb;have n:=q3I ha;have o:=q3I hb;have hi:a*p2 (-((bl a:Int)-bl b))<2*(b*p2 ((bl a:Int)-bl b)):=by
  have c:p2 (bl a:Int)*p2 (-((bl a:Int)-bl b))=p2 (bl b:Int)*p2 ((bl a:Int)-bl b):=by unfold p2;rw[<- k0i,<- k0i];congr 1;omega
  rw[q1a,q1a] at c
  calc a*p2 (-((bl a:Int)-bl b))<2^bl a*p2 (-((bl a:Int)-bl b)):=k0z d (q0l _)
   _=2^bl b*p2 ((bl a:Int)-bl b):=c
   _=2*2^(bl b-1)*p2 ((bl a:Int)-bl b):=by rw[k0b 2,<- k0a,show(bl b-1).succ=bl b by omega]
   _<=2*b*p2 ((bl a:Int)-bl b):=k0n _ (k0g _ i)
   _=_:=by grind
 have j:b*p2 ((bl a:Int)-bl b-1)<=a*p2 (-((bl a:Int)-bl b-1)):=by
  have c:p2 ((bl a:Int)-1)*p2 (-((bl a:Int)-bl b-1))=p2 (bl b:Int)*p2 ((bl a:Int)-bl b-1):=by unfold p2;rw[<- k0i,<- k0i];congr 1;omega
  have l:p2 ((bl a:Int)-1)=2^(bl a-1):=by rw[<- q1a];congr 1;omega
  rw[q1a,l] at c
  calc b*p2 ((bl a:Int)-bl b-1)<=2^bl b*p2 ((bl a:Int)-bl b-1):=k0n _ (k1a g)
   _=2^(bl a-1)*p2 (-((bl a:Int)-bl b-1)):=c.symm
   _<=a*p2 (-((bl a:Int)-bl b-1)):=k0n _ f
 unfold q0I;split
 ·rename_i h;refine⟨j,?_⟩;generalize (bl a:Int)-bl b=e at *
  have k:=q31 (e-1) 1;rw[show e-1+1=e by omega,show p2 1=2 from rfl,show p2 (-1)=1 from rfl,k0u] at k;have m:p2 (-e)*(a*p2 (-(e-1)))<p2 (-e)*(2*(b*p2 (e-1))):=by
   calc p2 (-e)*(a*p2 (-(e-1)))=a*p2 (-e)*p2 (-(e-1)):=by grind
    _<b*p2 e*p2 (-(e-1)):=k0z h (q0l _)
    _=b*(p2 e*p2 (-(e-1))):=by grind
    _=b*(p2 (-e)*(p2 (e-1)*2)):=by rw[k]
    _=_:=by grind
  exact k1k m
 ·rename_i h;exact⟨by omega,hi⟩
theorem q4D.cross(h:q4D e a b)(hb:0<b)(hd:0<d)(hx:a*d=c*b):q4D e c d:=by
 constructor
 ·have:b*(d*p2 e)<=b*(c*p2 (-e)):=by
   calc b*(d*p2 e)=d*(b*p2 e):=by grind
    _<=d*(a*p2 (-e)):=k0g _ h.1
    _=a*d*p2 (-e):=by grind
    _=c*b*p2 (-e):=by rw[hx]
    _=_:=by grind
  exact k2p this hb
 ·have:b*(c*p2 (-e))<b*(2*(d*p2 e)):=by
   calc b*(c*p2 (-e))=c*b*p2 (-e):=by grind
    _=a*d*p2 (-e):=by rw[hx]
    _=d*(a*p2 (-e)):=by grind
    _<d*(2*(b*p2 e)):=Nat.mul_lt_mul_of_pos_left h.2 hd
    _=_:=by grind
  exact k1k this
theorem q3Y(ha:0<a)(hb:0<b)(hd:0<d)(hx:a*d=c*b):q0I a b=q0I c d:=by
 have e:0<c:=by
  rcases k01 c with h|h
  ·subst h;rw[k1T] at hx;have:=k0j ha hd;omega
  ·exact h
 exact((q0T ha hb).cross hb hd hx).uniq (q0T e hd)
theorem q7H(ha:0<a)(hb:0<b)(he:e=(bl a:Int)-bl b):q0I a b=if a*p2 (-e)<b*p2 e then e-1 else e:=by subst he;rfl
def q3h(neg:Bool)(mode:Nat)(odd:Bool)(c:Int):Bool:=
 match mode with
 | 0=>qa (0<c) || (qa (c=0) && odd)
 | 1=>qa (0<=c)
 | 2=>false
 | 3=>!neg
 | _=>neg
def rnd(neg:Bool)(mode a b:Nat):Nat:=
 if a%b=0 then a/b else if q3h neg mode (qa (a/b%2=1)) (q0y (2*(a%b)) b) then a/b+1 else a/b
theorem q21(k a b:Nat)(hk:0<k):q0y (k*a) (k*b)=q0y a b:=by unfold q0y;have c:(k*a<k*b)=(a<b):=propext (Nat.mul_lt_mul_left hk);have d:(k*b<k*a)=(b<a):=propext (Nat.mul_lt_mul_left hk);simp only[c,d]
theorem q7c(neg:Bool)(mode k a b:Nat)(hk:0<k):rnd neg mode (k*a) (k*b)=rnd neg mode a b:=by unfold rnd;rw[Nat.mul_div_mul_left _ _ hk,Nat.mul_mod_mul_left,k0P,q21 _ _ _ hk];have:(k*(a%b)=0)=(a%b=0):=propext ⟨fun h=>by rcases Nat.mul_eq_zero.1 h with h|h<;>omega,fun h=>by rw[h,k1h]⟩;simp only[this]
theorem q7e(hb:0<b)(hd:0<d)(hx:a*d=c*b):rnd neg mode a b=rnd neg mode c d:=by rw[<- q7c neg mode d a b hd,<- q7c neg mode b c d hb,k0b d a,hx,k0b d b,k0b c b]
theorem q9q(neg:Bool)(mode a b:Nat):rnd neg mode a b<=a/b+1:=by unfold rnd;split<;>(try split)<;>omega
theorem qbu(neg:Bool)(mode a b:Nat):a/b<=rnd neg mode a b:=by unfold rnd;split<;>(try split)<;>omega
theorem q8B(hb:0<b):rnd neg mode a b*b=a↔a%b=0:=by
 have c:=k0M a b;have d:=k0l a hb;constructor
 ·intro h;unfold rnd at h;by_cases h0:a%b=0
  ·exact h0
  rw[k0t h0] at h;split at h
  ·rw[k0Z,k0J,k0b] at h;omega
  ·rw[k0b] at h;omega
 ·intro h;unfold rnd;rw[k0q h,k0b];omega
def q09(E:Nat):Int:=2^(E-1)-1
def inner(neg:Bool)(mode:Nat):Bool:=qa (mode=2) || (qa (mode=3) && neg) || (qa (mode=4) && !neg)
def q0x(E:Nat)(a b:Nat):Int:=max (q0I a b) (1-q09 E)
def q2m(E F:Nat)(neg:Bool)(mode a b:Nat):Nat:=rnd neg mode (a*p2 (F-q0x E a b)) (b*p2 (q0x E a b-F))
def q4g(E F:Nat)(a b:Nat):Nat:=(a*p2 (F-q0x E a b))%(b*p2 (q0x E a b-F))
def q28(F:Nat)(neg:Bool)(mode a b:Nat):Nat:=rnd neg mode (a*p2 (F-q0I a b)) (b*p2 (q0I a b-F))
def q1J(E F:Nat)(neg:Bool)(mode a b:Nat):Nat:=q2m E F neg mode a b+(q0x E a b+q09 E-1).toNat*2^F
def q1X(E F:Nat):Nat:=2^(E+F)-2^F
def over(E F:Nat)(neg:Bool)(mode a b:Nat):Bool:=qa (q09 E<q0x E a b) || decide (q1X E F<=q1J E F neg mode a b)
def q2k(E F:Nat)(neg:Bool)(mode a b:Nat):Bool:=qa (q0I a b<1-q09 E) && (qa (q0I a b < -q09 E) || decide (bl (q28 F neg mode a b)<=F+1))
def q1b(E F:Nat)(neg:Bool)(mode a b:Nat):Nat:=if q4g E F a b=0 then 0 else if q2k E F neg mode a b then 5 else 1
def out(E F:Nat)(neg:Bool)(mode a b:Nat):Nat × Nat:=
 if over E F neg mode a b then(if inner neg mode then q1X E F-1 else q1X E F,3) else(q1J E F neg mode a b,q1b E F neg mode a b)
theorem q0X(h:2<=E):1<=q09 E:=by
 unfold q09;have b:(2:Nat)^1<=2^(E-1):=k04 (by omega) (by omega);have a:((2^(E-1):Nat):Int)=(2:Int)^(E-1):=by rw[k0F];rfl
 rw[<- a];omega
theorem q22(h:E<=11):q09 E<=1023:=by
 unfold q09;have b:(2:Nat)^(E-1)<=2^10:=k04 (by omega) (by omega);have a:((2^(E-1):Nat):Int)=(2:Int)^(E-1):=by rw[k0F];rfl
 rw[<- a];omega
theorem q9g(h:2<=E):(2:Int)^E=2*q09 E+2:=by
 unfold q09;have:(2:Int)^E=2^(E-1)*2:=by rw[<- Int.pow_succ];congr 1;omega
 rw[this];omega
theorem q9z(h:2<=E):(q1X E F:Int)=(2*q09 E+1)*(2^F:Nat):=by
 have a:=q9g h;have b:((2^E:Nat):Int)=(2:Int)^E:=by rw[k0F];rfl
 have c:2^F<=2^(E+F):=k04 (by omega) (by omega);unfold q1X;rw[Int.natCast_sub c,k0i,k07,b,a]
 grind
theorem q3Z(a b F:Nat)(e:Int):a*p2 (F-e)*(b*p2 e)=a*p2 (-e)*2^F*(b*p2 (e-F)):=by
 have k:=q31 (-e) F;rw[show -e+(F:Int)=F-e by omega,show -(-e)=e by omega,show -(F:Int) = -F from rfl,q0c (n:=-(F:Int)) (by omega),k0u,q1a,show -((F:Int)-e)=e-F by omega] at k
 calc a*p2 (F-e)*(b*p2 e)=a*b*(p2 (F-e)*p2 e):=by grind
  _=a*b*(p2 (e-F)*(p2 (-e)*2^F)):=by rw[k]
  _=_:=by grind
theorem q2F(hb:0<b)(h:q4D e a b):2^F*(b*p2 (e-F))<=a*p2 (F-e)/\a*p2 (F-e)<2^(F+1)*(b*p2 (e-F)):=by
 have k:=q3Z a b F e;have c:0<b*p2 e:=k0j hb (q0l _);constructor
 ·have:b*p2 e*(2^F*(b*p2 (e-F)))<=b*p2 e*(a*p2 (F-e)):=by
   calc b*p2 e*(2^F*(b*p2 (e-F)))<=a*p2 (-e)*(2^F*(b*p2 (e-F))):=k0n _ h.1
    _=a*p2 (-e)*2^F*(b*p2 (e-F)):=by grind
    _=a*p2 (F-e)*(b*p2 e):=k.symm
    _=_:=by grind
  exact k2p this c
 ·have:b*p2 e*(a*p2 (F-e))<b*p2 e*(2^(F+1)*(b*p2 (e-F))):=by
   calc b*p2 e*(a*p2 (F-e))=a*p2 (F-e)*(b*p2 e):=by grind
    _=a*p2 (-e)*2^F*(b*p2 (e-F)):=k
    _=a*p2 (-e)*(2^F*(b*p2 (e-F))):=by grind
    _<2*(b*p2 e)*(2^F*(b*p2 (e-F))):=k0z h.2 (k0j (k0c _) (k0j hb (q0l _)))
    _=_:=by rw[k0a];grind
  exact k1k this
theorem q4R{l:Int}(hb:0<b)(h:q4D e a b)(hl:e<l):a*p2 (F-l)<2^F*(b*p2 (l-F)):=by
 have c:=q3i hl h.2;have k:=q3Z a b F l;have d:0<b*p2 l:=k0j hb (q0l _);have:b*p2 l*(a*p2 (F-l))<b*p2 l*(2^F*(b*p2 (l-F))):=by
  calc b*p2 l*(a*p2 (F-l))=a*p2 (F-l)*(b*p2 l):=by grind
   _=a*p2 (-l)*2^F*(b*p2 (l-F)):=k
   _=a*p2 (-l)*(2^F*(b*p2 (l-F))):=by grind
   _<b*p2 l*(2^F*(b*p2 (l-F))):=k0z c (k0j (k0c _) (k0j hb (q0l _)))
 exact k1k this
theorem q7d(hb:0<b)(h:N*b<=a):N<=rnd neg mode a b:=k06 ((k1E hb).2 h) (qbu _ _ _ _)
theorem q3g(h:a<N*b):rnd neg mode a b<=N:=by have:=q9q neg mode a b;have:a/b<N:=k0w (by rw[k0b];exact h);omega
section
variable {E F : Nat} {neg : Bool} {mode a b : Nat}
theorem q3x(ha:0<a)(hb:0<b):q2m E F neg mode a b<=2^(F+1):=by
 have c:=q0T ha hb;unfold q2m q0x;rcases k17 (q0I a b) (1-q09 E) with h|h
 ·rw[qd (by omega)];have:=q3g (neg:=neg) (mode:=mode) (q4R (F:=F) hb c h);rw[k0a];have:=k0c F;omega
 ·rw[qe (by omega)];exact q3g (q2F (F:=F) hb c).2
theorem q8Q(ha:0<a)(hb:0<b)(h:q0I a b<1-q09 E):q2m E F neg mode a b<=2^F:=by unfold q2m q0x;rw[qd (by omega)];exact q3g (q4R (F:=F) hb (q0T ha hb) h)
theorem q5k(ha:0<a)(hb:0<b)(h:1-q09 E<=q0I a b):2^F<=q2m E F neg mode a b:=by unfold q2m q0x;rw[qe (by omega)];exact q7d (k0j hb (q0l _)) (q2F (F:=F) hb (q0T ha hb)).1
theorem q5r(ha:0<a)(hb:0<b):q28 F neg mode a b<=2^(F+1):=q3g (q2F (F:=F) hb (q0T ha hb)).2
theorem qaw(ha:0<a)(hb:0<b):2^F<=q28 F neg mode a b:=q7d (k0j hb (q0l _)) (q2F (F:=F) hb (q0T ha hb)).1
theorem q7C:1-q09 E<=q0x E a b:=Int.le_max_right _ _
theorem q7B(h:1-q09 E<q0x E a b):q0x E a b=q0I a b:=by unfold q0x at *;omega
theorem q80(m N:Nat)(q r:Int):q0y (m*p2 q*p2 (-r)) (N*p2 r*p2 (-q))=q0y (m*p2 (q-r)) (N*p2 (r-q)):=by
 have k:=q31 q (-r);rw[show q + -r=q-r by omega,show -(-r)=r by omega,show -(q-r)=r-q by omega] at k;have a:0<p2 q*p2 (-r):=k0j (q0l _) (q0l _);have b:0<p2 (q-r):=q0l _;rw[<- q21 (p2 (q-r)) _ _ b,<- q21 (p2 q*p2 (-r)) (m*p2 (q-r)) _ a];congr 1
 ·grind
 ·calc p2 (q-r)*(N*p2 r*p2 (-q))=N*(p2 (q-r)*(p2 (-q)*p2 r)):=by grind
   _=N*(p2 (r-q)*(p2 q*p2 (-r))):=by rw[k]
   _=_:=by grind
theorem q5M(hb:0<b):q0y (q2m E F neg mode a b*p2 (q0x E a b-F)*b) (a*p2 (F-q0x E a b))=0↔q4g E F a b=0:=by
 have h:=q8B (neg:=neg) (mode:=mode) (a:=a*p2 (F-q0x E a b)) (b:=b*p2 (q0x E a b-F)) (k0j hb (q0l _));unfold q4g;rw[<- h];unfold q2m;generalize rnd neg mode (a*p2 (F-q0x E a b)) (b*p2 (q0x E a b-F))=m;rw[show m*p2 (q0x E a b-F)*b=m*(b*p2 (q0x E a b-F)) by grind];unfold q0y;constructor
 ·intro k;by_cases h1:m*(b*p2 (q0x E a b-F))<a*p2 (F-q0x E a b)
  ·rw[k0q h1] at k;omega
  ·rw[k0t h1] at k;by_cases h2:a*p2 (F-q0x E a b)<m*(b*p2 (q0x E a b-F))
   ·rw[k0q h2] at k;omega
   ·omega
 ·intro k;rw[k,k0t (Nat.lt_irrefl _),k0t (Nat.lt_irrefl _)]
theorem q4I(ha:0<a)(hb:0<b)(hE:2<=E):q0y (q28 F neg mode a b*p2 (q0I a b-F)*p2 (q09 E-1)) (p2 (1-q09 E)*p2 (F-q0I a b))<0↔q2k E F neg mode a b=true:=by
 have f:=q5r (F:=F) (neg:=neg) (mode:=mode) ha hb;have g:=qaw (F:=F) (neg:=neg) (mode:=mode) ha hb;have o:=q0X hE;have k:=q80 (q28 F neg mode a b) 1 (q0I a b-F) (1-q09 E);rw[k0J,show -(1-q09 E)=q09 E-1 by omega,show -(q0I a b-(F:Int))=F-q0I a b by omega] at k;rw[k,q34,k0J];unfold q2k;rw[k0U,k1C,k1r,k1r,k1r];generalize q28 F neg mode a b=m at *
 generalize q0I a b=e at *
 have d:bl m<=F+1↔m<2^(F+1):=⟨fun h=>k02 (q0S m) (k04 (by omega) h),fun h=>q0B h⟩;rw[d];rcases k17 e (1-q09 E) with h|h
 ·rw[q0c (n:=e-F-(1-q09 E)) (by omega),k0u];have i:p2 (1-q09 E-(e-F))=2^F*p2 (1-q09 E-e):=by rw[<- q1a,<- q1r (by omega) (by omega)];congr 1;omega
  rw[i];rcases k17 e (-q09 E) with c|c
  ·have:=q8K (m:=0) (n:=1-q09 E-e-1) (by omega) (by omega);have p:p2 (1-q09 E-e)=2*p2 (1-q09 E-e-1):=by have:=q1r (m:=1) (n:=1-q09 E-e-1) (by omega) (by omega);rw[show(1:Int)+(1-q09 E-e-1)=1-q09 E-e by omega] at this;rw[this];rfl
   have j:p2 0=1:=rfl;rw[j] at this;have q:2^F*4<=2^F*p2 (1-q09 E-e):=k0g _ (by omega);rw[k0a] at f;have:=k0c F;exact⟨fun _=>⟨h,.inl c⟩,fun _=>by omega⟩
  ·have l:e = -q09 E:=by omega
   rw[l,show(1:Int)-q09 E - -q09 E=1 by omega,show p2 1=2 from rfl,k0a];constructor
   ·intro k;exact⟨by omega,.inr k⟩
   ·rintro⟨-,k|k⟩
    ·omega
    ·exact k
 ·constructor
  ·intro k;rcases k17 (e-F-(1-q09 E)) 0 with c|c
   ·exfalso;rw[q0c (n:=e-F-(1-q09 E)) (by omega),k0u] at k;have:p2 (1-q09 E-(e-F))<=p2 (F:Int):=q7k (by omega);rw[q1a] at this;omega
   ·exfalso;rw[q0c (n:=1-q09 E-(e-F)) (by omega)] at k;have:=k0j (k02 (k0c F) g) (q0l (e-F-(1-q09 E)));omega
  ·rintro⟨k,-⟩;omega
theorem q5R(ha:0<a)(hb:0<b)(hE:2<=E):0<q0y (q2m E F neg mode a b*p2 (q0x E a b-F)*p2 (F-q09 E)) ((2^(F+1)-1)*p2 (q09 E-F)*p2 (F-q0x E a b))↔over E F neg mode a b=true:=by
 have j:=q3x (E:=E) (F:=F) (neg:=neg) (mode:=mode) ha hb;have o:=q5k (E:=E) (F:=F) (neg:=neg) (mode:=mode) ha hb;have s:=q8Q (E:=E) (F:=F) (neg:=neg) (mode:=mode) ha hb;have u:=q0X hE;have v:=q7C (E:=E) (a:=a) (b:=b);have w:=q7B (E:=E) (a:=a) (b:=b);have hi:=q9z (F:=F) hE;have k:=q80 (q2m E F neg mode a b) (2^(F+1)-1) (q0x E a b-F) (q09 E-F);rw[show -(q09 E-(F:Int))=F-q09 E by omega,show -(q0x E a b-(F:Int))=F-q0x E a b by omega,show q0x E a b-F-(q09 E-F)=q0x E a b-q09 E by omega,show q09 E-F-(q0x E a b-F)=q09 E-q0x E a b by omega] at k;rw[k,q35];unfold over q1J;rw[k1C,k1r,k1r];have x:=k0c F;have t:q0x E a b=max (q0I a b) (1-q09 E):=rfl;generalize q2m E F neg mode a b=m at *
 generalize q0x E a b=l at *
 have p:2^(F+1)=2*2^F:=by rw[k0a,k0b]
 rw[p] at j ⊢;rcases k17 (q09 E) l with h|h
 ·refine⟨fun _=>.inl h,fun _=>?_⟩;rw[q0c (n:=q09 E-l) (by omega),k0u];have q:=o (by omega);have f:2*p2 0<=p2 (l-q09 E):=q8K (by omega) (by omega);rw[show p2 0=1 from rfl] at f;have:2^F*2<=m*p2 (l-q09 E):=k1S q (by omega);omega
 ·rw[q0c (n:=l-q09 E) (by omega),k0u];have r:((l+q09 E-1).toNat:Int)=l+q09 E-1:=by omega
  have i:(q1X E F<=m+(l+q09 E-1).toNat*2^F)↔l=q09 E/\m=2*2^F:=by
   have y:((m+(l+q09 E-1).toNat*2^F:Nat):Int)=m+(l+q09 E-1)*(2^F:Nat):=by rw[k1c,k07,r]
   have f:(2*q09 E+1)*((2^F:Nat):Int)=(l+q09 E-1)*(2^F:Nat)+(q09 E-l+2)*(2^F:Nat):=by grind
   generalize (2^F:Nat)=T at *
   constructor
   ·intro c;have e:(q09 E-l+2)*(T:Int)<=m:=by omega
    have z:(m:Int)<=2*T:=by omega
    rcases k17 l (q09 E) with g|g
    ·have:3*(T:Int)<=(q09 E-l+2)*T:=k1g (by omega) (by omega);omega
    ·have d:l=q09 E:=by omega
     rw[d,show q09 E-q09 E+2=2 by omega] at e;exact⟨d,by omega⟩
   ·rintro⟨c,e⟩;subst c;rw[show q09 E-q09 E+2=2 by omega] at f;omega
  rw[i];constructor
  ·intro c;right;rcases k17 l (q09 E) with g|g
   ·have:=q8K (m:=0) (n:=q09 E-l) (by omega) (by omega);rw[show p2 0=1 from rfl] at this;have:(2*2^F-1)*2<=(2*2^F-1)*p2 (q09 E-l):=k0g _ (by omega);omega
   ·have d:l=q09 E:=by omega
    rw[d,show q09 E-q09 E=0 by omega,show p2 0=1 from rfl] at c;exact⟨d,by omega⟩
  ·rintro(c|⟨c,e⟩)
   ·omega
   ·rw[c,e,show q09 E-q09 E=0 by omega,show p2 0=1 from rfl];omega
end
end
end Go.Proofs.YtabcgemembkkcaaGreatDoor
