/- Lemmas. -/
import Derived.Test.YtcdimmblnbkjjaaGreatDoorPartAA
import Derived.Laws.MathBits
import Derived.Lib.ItoaNum
set_option linter.all false
namespace Go.Proofs.YtcdimmblnbkjjaaGreatDoor
def bl(n:Nat):Nat:=Go.bitLen n
theorem qaa:bl 0=0:=rfl
theorem q20(n:Nat):n<2^bl n:=(Go.bitLen_spec n).1
theorem q8n{n:Nat}(h:0<n):2^(bl n-1)<=n:=(Go.bitLen_spec n).2 (by omega)
theorem q4F{n:Nat}(h:0<n):0<bl n:=by
 rcases Nat.eq_zero_or_pos (bl n) with h0|h0
 ·have:=q20 n;rw[h0] at this;omega
 ·exact h0
theorem q1F{n k:Nat}(h:n<2^k):bl n<=k:=by
 rcases Nat.eq_zero_or_pos n with h0|h0
 ·subst h0;rw[qaa];omega
 ·have h1:=q8n h0;have h2:=q4F h0;have h3:2^(bl n-1)<2^k:=by omega
  have:=(Nat.pow_lt_pow_iff_right (by omega:1<2)).1 h3;omega
theorem qb8{n k:Nat}(h:n<2^k)(h1:2^(k-1)<=n)(hk:0<k):bl n=k:=by
 have h2:=q1F h;have h3:=q20 n;have h4:2^(k-1)<2^bl n:=by omega
 have:=(Nat.pow_lt_pow_iff_right (by omega:1<2)).1 h4;omega
theorem q7y{a b:Nat}(h:a<=b):bl a<=bl b:=q1F (Nat.lt_of_le_of_lt h (q20 b))
theorem q8K{x b:Nat}(h:x/2^b≠0):bl x=b+bl (x/2^b):=Go.bitLen_shift x b h
theorem q90{x:Nat}(h:x<18446744073709551616):Go.Lib.bitLen x=bl x:=by
 rcases Nat.eq_zero_or_pos x with h0|h0
 ·subst h0;rfl
 ·obtain⟨h1,h2,h3⟩:=Go.Lib.bitLenAux_bounds 64 x h (by omega);exact(qb8 h3 h2 (by omega)).symm
theorem q38(k:Nat):4294967296^k=2^(32*k):=by rw[Nat.pow_mul]
theorem bl_words{N:Nat}(h:0<N):bl N=32*(words N-1)+bl (nth (toL N) (words N-1))/\0<nth (toL N) (words N-1):=by
 have h1:=q3f h;have h2:=q0o N;have hw:0<words N:=by
  rcases Nat.eq_zero_or_pos (words N) with h0|h0
  ·rw[h0] at h2;simp at h2;omega
  ·exact h0
 have e:nth (toL N) (words N-1)=N/4294967296^(words N-1):=by
  rw[q0V];apply Nat.mod_eq_of_lt
  apply Nat.div_lt_of_lt_mul
  rw[<- Nat.pow_succ,show(words N-1).succ=words N by omega];exact h2
 have hp:0<N/4294967296^(words N-1):=Nat.div_pos h1 (Nat.pow_pos (by omega));rw[e];refine⟨?_,hp⟩;rw[q38] at hp ⊢;exact q8K (by omega)
theorem q2h{U:List Nat}{Q:Nat}(h:∀i,i<U.length->nth U i=Q/4294967296^i%4294967296):val U=Q%4294967296^U.length:=by
 induction U generalizing Q with
 | nil=>simp [val,Nat.mod_one]
 | cons x xs ih =>
  have h0:=h 0 (by simp);have e0:nth (x::xs) 0=x:=rfl;rw[e0] at h0;have h1:∀i,i<xs.length->nth xs i=(Q/4294967296)/4294967296^i%4294967296:=by
   intro i hi;have:=h (i+1) (by simp;omega);have e:nth (x::xs) (i+1)=nth xs i:=by unfold nth;simp
   rw[e,Nat.pow_succ,Nat.mul_comm,<- Nat.div_div_eq_div_mul] at this;exact this
  rw[val,ih h1,List.length_cons,h0,Nat.pow_zero,Nat.div_one,Nat.pow_succ,Nat.mul_comm (4294967296^xs.length),Nat.mod_mul]
theorem q3M{zs:List Nat}(hl:Lim zs)(i s:Nat)(hs:s<32):(nth zs i+4294967296*nth zs (i+1))/2^s%4294967296=(val zs/2^s)/4294967296^i%4294967296:=by
 have e1:val zs/4294967296^i=nth zs i+4294967296*nth zs (i+1)+18446744073709551616*val (zs.drop (i+1+1)):=by
  rw[q0Z hl,q0p zs i,q0p zs (i+1)];omega
 have e2:(val zs/2^s)/4294967296^i=(val zs/4294967296^i)/2^s:=by
  rw[Nat.div_div_eq_div_mul,Nat.div_div_eq_div_mul,Nat.mul_comm]
 rw[e2,e1];have e3:18446744073709551616*val (zs.drop (i+1+1))=2^s*(2^(32-s)*(4294967296*val (zs.drop (i+1+1)))):=by
  rw[<- Nat.mul_assoc,<- Nat.pow_add,show s+(32-s)=32 by omega];omega
 rw[e3,Nat.add_mul_div_left _ _ (Nat.two_pow_pos s),<- Nat.mul_assoc,Nat.mul_comm (2^(32-s)),Nat.mul_assoc,Nat.add_mul_mod_self_left]
theorem qaQ{h l s:Nat}(hh:h<2^s):h ||| 2^s*l=h+2^s*l:=by
 have:=Nat.two_pow_add_eq_or_of_lt hh l;rw[Nat.or_comm,<- this,Nat.add_comm]
theorem q5l{x s:Nat}(hx:x<4294967296)(hs:s<32):(x*2^s)%4294967296=2^s*(x%2^(32-s))/\(x*2^s)/4294967296<2^s/\x*2^s<18446744073709551616:=by
 have e:(4294967296:Nat)=2^s*2^(32-s):=by rw[<- Nat.pow_add,show s+(32-s)=32 by omega]
 have hp:0<2^s:=Nat.two_pow_pos s;refine⟨?_,?_,?_⟩
 ·rw[Nat.mul_comm x]
  conv=>lhs;rw[e]
  rw[Nat.mul_mod_mul_left]
 ·apply Nat.div_lt_of_lt_mul
  exact Nat.mul_lt_mul_of_pos_right hx hp
 ·have h1:2^s<=2^31:=Nat.pow_le_pow_right (by omega) (by omega);have h2:x*2^s<=4294967295*2^31:=Nat.mul_le_mul (by omega) h1;omega
theorem q9m{xs U:List Nat}{i k s h x:Nat}(hU:i+k+1<U.length)(hh:nth U (i+k)=h)(hlt:h<2^s)(hx:nth xs i=x)(hxl:x<4294967296)(hs:s<32)
  (hv:val (U.take (i+k))+4294967296^(i+k)*h=4294967296^k*(2^s*val (xs.take i))) :
  val (((U.set (i+k) (h ||| (x*2^s)%4294967296)).set (i+k+1) ((x*2^s)/4294967296)).take (i+1+k))+4294967296^(i+1+k)*((x*2^s)/4294967296)=4294967296^k*(2^s*val (xs.take (i+1))):=by
 obtain⟨e1,e2,_⟩:=q5l hxl hs;rw[show i+1+k=i+k+1 by omega,List.take_set_of_le (Nat.le_refl _),q0g U _ _ (by omega),e1,qaQ hlt,q09,hx,Nat.pow_succ,Nat.mul_assoc,Nat.add_assoc,<- Nat.mul_add,<- e1];have e3:h+x*2^s%4294967296+4294967296*(x*2^s/4294967296)=h+x*2^s:=by omega
 rw[e3,Nat.mul_add,Nat.mul_add,Nat.mul_add,<- hv];have e4:4294967296^(i+k)*(x*2^s)=4294967296^k*(2^s*(4294967296^i*x)):=by
  rw[Nat.pow_add,Nat.mul_comm x,Nat.mul_assoc,Nat.mul_left_comm,Nat.mul_left_comm (4294967296^i)]
 omega
theorem q9n{xs U:List Nat}{n k s h:Nat}(hU:U.length=n+k+1)(hx:xs.length<=n)(hh:nth U (n+k)=h)
  (hv:val (U.take (n+k))+4294967296^(n+k)*h=4294967296^k*(2^s*val (xs.take n))):val U=val xs*2^(32*k+s):=by
 rw[q0l (xs:=xs) hx] at hv;have e:=q09 U (n+k);rw[q0l (xs:=U) (by omega),hh,hv] at e;rw[e,Nat.pow_add,<- q38,<- Nat.mul_assoc,Nat.mul_comm]
theorem q7r{xs V:List Nat}{i d r:Nat}(hd:0<d)(hr:r<d)(hx:nth xs i<4294967296)(hv:∀j,i<j->nth V j=(val xs/d)/4294967296^j%4294967296)(hr':r=(val xs/4294967296^(i+1))%d)(hl:Lim xs):
  (r*4294967296+nth xs i)/d=(val xs/d)/4294967296^i%4294967296/\(r*4294967296+nth xs i)%d=(val xs/4294967296^i)%d/\(r*4294967296+nth xs i)/d<4294967296:=by
 have e1:val xs/4294967296^i=nth xs i+4294967296*(val xs/4294967296^(i+1)):=by
  rw[q0Z hl,q0Z hl,q0p]
 generalize hM:val xs/4294967296^(i+1)=M at *
 have e2:M=d*(M/d)+r:=by rw[hr'];exact(Nat.div_add_mod M d).symm
 have e3:val xs/4294967296^i=(r*4294967296+nth xs i)+d*(4294967296*(M/d)):=by
  rw[e1];have:4294967296*M=4294967296*(d*(M/d))+4294967296*r:=by rw[<- Nat.mul_add,<- e2]
  rw[this,Nat.mul_left_comm];omega
 have hq:(r*4294967296+nth xs i)/d<4294967296:=by
  apply Nat.div_lt_of_lt_mul
  have:(r+1)*4294967296<=d*4294967296:=Nat.mul_le_mul_right _ hr;omega
 refine⟨?_,?_,hq⟩
 ·have e4:(val xs/d)/4294967296^i=(val xs/4294967296^i)/d:=by rw[Nat.div_div_eq_div_mul,Nat.div_div_eq_div_mul,Nat.mul_comm]
  rw[e4,e3,Nat.add_mul_div_left _ _ hd,Nat.add_mul_mod_self_left,Nat.mod_eq_of_lt hq]
 ·rw[e3,Nat.add_mul_mod_self_left]
end Go.Proofs.YtcdimmblnbkjjaaGreatDoor
namespace Go.Proofs.YtcdimmblnbkjjaaGreatDoor
theorem q7d{u v v1 v2 u3 p G:Nat}(hv:(v1*4294967296+v2)*p<=v)(hu:u<(u3+1)*p)(h:u3<G*(v1*4294967296+v2)):u/v<G:=by
 have h1:(u3+1)*p<=G*(v1*4294967296+v2)*p:=Nat.mul_le_mul_right _ h;rw[Nat.mul_assoc] at h1;have h2:G*((v1*4294967296+v2)*p)<=G*v:=Nat.mul_le_mul_left _ hv;exact Nat.div_lt_of_lt_mul (by rw[Nat.mul_comm];exact Nat.lt_of_lt_of_le hu (Nat.le_trans h1 h2))
theorem q66{u v v1 v2 u3 p G:Nat}(hv:v<(v1*4294967296+v2+1)*p)(hv':(v1*4294967296+v2)*p<=v)(hu:u3*p<=u)(hv1:0<v1)(hG:G<4294967296)(h:G*(v1*4294967296+v2)<=u3):G<=u/v+1:=by
 rcases Nat.eq_zero_or_pos G with h0|h0
 ·rw[h0];exact Nat.zero_le _
 ·have hp:0<p:=by
   rcases Nat.eq_zero_or_pos p with hp|hp
   ·subst hp;omega
   ·exact hp
  have a0:0<v:=by
   have:0<(v1*4294967296+v2)*p:=Nat.mul_pos (by omega) hp;omega
  have h1:G*(v1*4294967296+v2)*p<=u3*p:=Nat.mul_le_mul_right _ h;rw[Nat.mul_assoc] at h1;have h2:G*v<=G*((v1*4294967296+v2)*p+p):=Nat.mul_le_mul_left _ (by rw[Nat.add_mul,Nat.one_mul] at hv;omega);rw[Nat.mul_add] at h2;have h3:G*p<=v:=by
   have h4:G*p<=(v1*4294967296+v2)*p:=Nat.mul_le_mul_right _ (by omega);omega
  have h5:(G-1)*v<=u:=by
   have h6:G*v=(G-1)*v+v:=by
    conv=>lhs;rw[show G=(G-1)+1 by omega,Nat.add_mul,Nat.one_mul]
   omega
  have:=(Nat.le_div_iff_mul_le a0).2 h5;omega
theorem q6V{vs W X:List Nat}{i G c b d b':Nat}(hX:i<X.length)(hs:nth X i=nth W i)(hd:d+(G*nth vs i+c)%4294967296+b=nth X i+4294967296*b')
  (h:val (X.take i)+G*val (vs.take i)=val (W.take i)+4294967296^i*(c+b)) :
  val ((X.set i d).take (i+1))+G*val (vs.take (i+1))=val (W.take (i+1))+4294967296^(i+1)*((G*nth vs i+c)/4294967296+b'):=by
 rw[q0g X i _ hX,q09,q09,Nat.pow_succ,Nat.mul_assoc,<- hs];have e:=Nat.div_add_mod (G*nth vs i+c) 4294967296;have e1:4294967296^i*(d+(G*nth vs i+c)+b)=4294967296^i*(nth X i+4294967296*((G*nth vs i+c)/4294967296+b')):=by
  congr 1;omega
 rw[Nat.mul_add,Nat.mul_add,Nat.mul_add,Nat.mul_add] at e1;rw[Nat.mul_add G,Nat.mul_left_comm G];rw[Nat.mul_add] at h;omega
theorem q71{vs W X:List Nat}{i c:Nat}(hX:i<X.length)(hs:nth X i=nth W i)
  (h:val (X.take i)+4294967296^i*c=val (W.take i)+val (vs.take i)) :
  val ((X.set i ((nth X i+nth vs i+c)%4294967296)).take (i+1))+4294967296^(i+1)*((nth X i+nth vs i+c)/4294967296)=val (W.take (i+1))+val (vs.take (i+1)):=by
 rw[q0g X i _ hX,q09,q09,Nat.pow_succ,Nat.mul_assoc,Nat.add_assoc,<- Nat.mul_add,Nat.mod_add_div,hs,Nat.mul_add,Nat.mul_add];omega
theorem q1k(U:List Nat)(j i x:Nat):(U.set (j+i) x).drop j=(U.drop j).set i x:=by
 apply q3j
 ·rw[List.length_drop,List.length_set,List.length_set,List.length_drop]
 ·intro k hk;rw[List.length_drop,List.length_set] at hk;rw[q0s];by_cases h:k=i
  ·subst h;rw[q0M _ _ _ _ (by omega),if_pos rfl,q0M _ _ _ _ (by rw[List.length_drop];omega),if_pos rfl]
  ·rw[q0q _ _ (by omega),q0q _ _ h,q0s]
theorem q7f{u v G q X P:Nat}(h:X+G*v=u)(hlow:u/v<=G)(hv:0<v)(hq:q=u/v)(_:X<P):G=q/\X=u%v:=by
 have h1:G*v<=u:=by omega
 have h2:=(Nat.le_div_iff_mul_le hv).2 h1;have h3:G=u/v:=by omega
 refine⟨by omega,?_⟩;have:=Nat.div_add_mod u v;rw[<- h3,Nat.mul_comm] at this;omega
theorem q8w{u v G X P:Nat}(h:X+G*v=u+P)(hX:X<P)(hhigh:G<=u/v+1)(hv:0<v):G=u/v+1/\X+v=u%v+P:=by
 have h1:u<G*v:=by omega
 have h2:u/v<G:=Nat.div_lt_of_lt_mul (by rw[Nat.mul_comm];exact h1);have h3:G=u/v+1:=by omega
 refine⟨h3,?_⟩;have:=Nat.div_add_mod u v;rw[h3,Nat.add_mul,Nat.one_mul,Nat.mul_comm] at h;omega
theorem q4y{G R v1 v2 u0 u1 u2:Nat}(he:G*v1+R=u1+4294967296*u0)(h:G*v2<=R*4294967296+u2):G*(v1*4294967296+v2)<=u2+4294967296*u1+18446744073709551616*u0:=by
 rw[Nat.mul_add,<- Nat.mul_assoc];omega
theorem q8q{G R v1 v2 u0 u1 u2:Nat}(he:G*v1+R=u1+4294967296*u0)(h:R*4294967296+u2<G*v2):u2+4294967296*u1+18446744073709551616*u0<G*(v1*4294967296+v2):=by
 rw[Nat.mul_add,<- Nat.mul_assoc];omega
theorem q56{v1 v2 u0 u1 u2:Nat}(hv:2147483648<=v1)(hv':v1<4294967296)(hu0:u0<=v1)(hu1:u1<4294967296)(hu2:u2<4294967296):
  u2+4294967296*u1+18446744073709551616*u0<((u1+4294967296*u0)/v1+1)*(v1*4294967296+v2)/\(u1+4294967296*u0)/v1<=4294967297/\(u1+4294967296*u0)/v1*v1+(u1+4294967296*u0)%v1=u1+4294967296*u0:=by
 have h1:=Nat.div_add_mod (u1+4294967296*u0) v1;have h2:=Nat.mod_lt (u1+4294967296*u0) (show v1 > 0 by omega);have h3:(u1+4294967296*u0)/v1<4294967298:=Nat.div_lt_of_lt_mul (by omega);generalize (u1+4294967296*u0)/v1=G at *
 generalize (u1+4294967296*u0)%v1=R at *
 rw[Nat.mul_comm] at h1;refine⟨?_,by omega,h1⟩;rw[Nat.mul_add,<- Nat.mul_assoc,Nat.add_mul,Nat.one_mul];omega
theorem q57{G R v1 v2 u0 u1:Nat}(he:G*v1+R=u1+4294967296*u0)(hu0:u0<=v1)(hu1:u1<4294967296)(hR:4294967296<=R)(hv2:v2<4294967296):G<4294967296/\∀u2,G*v2<=R*4294967296+u2:=by
 have hG:G<4294967296:=by
  rcases Nat.lt_or_ge G 4294967296 with h|h
  ·exact h
  ·have h1:4294967296*v1<=G*v1:=Nat.mul_le_mul_right _ h;omega
 refine⟨hG,fun u2=>?_⟩;have:=q1L hG hv2;omega
theorem q7t{G v1 R N:Nat}(h:G*v1+R=N)(hG:0<G):(G-1)*v1+(R+v1)=N:=by
 have e:G*v1=(G-1)*v1+v1:=by
  conv=>lhs;rw[show G=(G-1)+1 by omega,Nat.add_mul,Nat.one_mul]
 omega
theorem q99(x z y:Nat)(hx:x<4294967296)(hz:z<4294967296)(hy:y<=1):∃d q,d<4294967296/\q<=1/\d+z+y=x+4294967296*q:=by
 by_cases h:z+y<=x
 ·exact⟨x-z-y,0,by omega,by omega,by omega⟩
 ·exact⟨x+4294967296-z-y,1,by omega,by omega,by omega⟩
theorem q8x{Y r c d n:Nat}(hY:Y<4294967296^n)(hr:r<4294967296^n)(h:Y+4294967296^n*(c+d)=r+4294967296^n*4294967296):c+d=4294967296/\Y=r:=by
 rcases Nat.lt_trichotomy (c+d) 4294967296 with h1|h1|h1
 ·have h2:4294967296^n*(c+d+1)<=4294967296^n*4294967296:=Nat.mul_le_mul_left _ h1;rw[Nat.mul_add _ _ 1,Nat.mul_one] at h2;omega
 ·rw[h1] at h;exact⟨h1,by omega⟩
 ·have h2:4294967296^n*(4294967296+1)<=4294967296^n*(c+d):=Nat.mul_le_mul_left _ h1;rw[Nat.mul_add _ _ 1,Nat.mul_one] at h2;omega
theorem q6W{W X:List Nat}{n G v u u0 x y d b:Nat}(hXl:n<X.length)(hW:u=val (W.take (n+1)))(hu0:nth W n=u0)(hd:d+x+y=u0+4294967296*b)
  (h:val (X.take n)+G*v=val (W.take n)+4294967296^n*(x+y)):val ((X.set n d).take (n+1))+G*v=u+4294967296^(n+1)*b:=by
 rw[q0g X n d hXl,hW,q09,hu0,Nat.pow_succ,Nat.mul_assoc];have e:4294967296^n*(d+(x+y))=4294967296^n*(u0+4294967296*b):=by congr 1;omega
 simp only[Nat.mul_add] at e h ⊢;omega
end Go.Proofs.YtcdimmblnbkjjaaGreatDoor
namespace Go.Proofs.YtcdimmblnbkjjaaGreatDoor
theorem q2N(xs:List Nat)(n:Nat):val (xs++List.replicate n 0)=val xs:=by rw[q10,q0h];simp
theorem q8b{b:Nat}(h:0<b):words (b*2^(32-bl (nth (toL b) (words b-1))))=words b/\2147483648<=nth (toL (b*2^(32-bl (nth (toL b) (words b-1))))) (words b-1)/\32-bl (nth (toL b) (words b-1))<32:=by
 obtain⟨e,hp⟩:=bl_words h;have hw:0<words b:=by
  rcases Nat.eq_zero_or_pos (words b) with h0|h0
  ·have:=q0c.1 h0;omega
  ·exact h0
 have h1:bl (nth (toL b) (words b-1))<=32:=q1F (nth_lt (q1B b) _);have h2:=q4F hp;generalize nth (toL b) (words b-1)=t at *
 have h3:=q20 b;have h4:=q8n h;have h5:b*2^(32-bl t)<2^(32*words b):=by
  have:b*2^(32-bl t)<2^bl b*2^(32-bl t):=Nat.mul_lt_mul_of_pos_right h3 (Nat.two_pow_pos _);rw[<- Nat.pow_add,show bl b+(32-bl t)=32*words b by omega] at this;exact this
 have h6:2^(32*words b-1)<=b*2^(32-bl t):=by
  have:2^(bl b-1)*2^(32-bl t)<=b*2^(32-bl t):=Nat.mul_le_mul_right _ h4;rw[<- Nat.pow_add,show bl b-1+(32-bl t)=32*words b-1 by omega] at this;exact this
 rw[<- q38] at h5;have h7:4294967296^(words b-1)<=b*2^(32-bl t):=by
  rw[q38];exact Nat.le_trans (Nat.pow_le_pow_right (by omega) (by omega)) h6
 have h8:words (b*2^(32-bl t))=words b:=by
  have g1:=q17 h5;have g2:=q0o (b*2^(32-bl t));have g3:words b-1<words (b*2^(32-bl t)):=q96 (Nat.lt_of_le_of_lt h7 g2);omega
 refine⟨h8,?_,by omega⟩;rw[q0V,Nat.mod_eq_of_lt]
 ·rw[Nat.le_div_iff_mul_le (Nat.pow_pos (by omega)),q38];rw[show(2147483648:Nat)=2^31 by rfl,<- Nat.pow_add,show 31+32*(words b-1)=32*words b-1 by omega];exact h6
 ·apply Nat.div_lt_of_lt_mul
  rw[<- Nat.pow_succ,show(words b-1).succ=words b by omega];exact h5
theorem qap{U:List Nat}{j n v:Nat}(hl:Lim U)(hv:v<=4294967296^n)(h:val (U.drop (j+1))<v):val ((U.drop j).take (n+1))=val (U.drop j)/\val ((U.drop j).take (n+1))<4294967296*v:=by
 have h1:val (U.drop j)=nth U j+4294967296*val (U.drop (j+1)):=q0p U j;have h2:=nth_lt hl j;have h3:val (U.drop j)<4294967296^(n+1):=by rw[Nat.pow_succ];omega
 have h4:val ((U.drop j).take (n+1))=val (U.drop j):=by rw[<- q30 (q0F hl j),Nat.mod_eq_of_lt h3]
 exact⟨h4,by omega⟩
theorem q8A{U V:List Nat}{j n v:Nat}(hl:Lim U)(hl':Lim V)(hlen:V.length=U.length)(hjn:j+n+1<=U.length)(hs:∀p,p<j\/j+n+1<=p->nth V p=nth U p)
  (hw:val ((U.drop j).take (n+1))=val (U.drop j)) (hr:val ((V.drop j).take (n+1))=val ((U.drop j).take (n+1))%v) :
  val V+4294967296^j*(v*(val ((U.drop j).take (n+1))/v))=val U/\val (V.drop j)=val (U.drop j)%v:=by
 have e1:V.take j=U.take j:=q3j (by rw[List.length_take,List.length_take,hlen]) fun i hi=>by
  rw[List.length_take] at hi;rw[q3X _ _ _ (by omega),q3X _ _ _ (by omega)];exact hs i (by omega)
 have e2:V.drop (j+(n+1))=U.drop (j+(n+1)):=q3j (by rw[List.length_drop,List.length_drop,hlen]) fun i _=>by
  rw[q0s,q0s];exact hs _ (by omega)
 have z:val (U.drop (j+(n+1)))=0:=by
  have h1:=q0r (U.drop j) (n+1) (by rw[List.length_drop];omega);rw[hw,List.drop_drop] at h1;have hp:0<4294967296^(n+1):=Nat.pow_pos (by omega);rcases Nat.eq_zero_or_pos (val (U.drop (j+(n+1)))) with h|h
  ·exact h
  ·have:4294967296^(n+1)*1<=4294967296^(n+1)*val (U.drop (j+(n+1))):=Nat.mul_le_mul_left _ h;omega
 have h2:val (V.drop j)=val (U.drop j)%v:=by
  have h1:=q0r (V.drop j) (n+1) (by rw[List.length_drop];omega);rw[List.drop_drop,e2,z,Nat.mul_zero,Nat.add_zero,hr,hw] at h1;exact h1
 refine⟨?_,h2⟩;have h3:=q0r V j (by omega);have h4:=q0r U j (by omega);rw[e1,h2] at h3;rw[h3,h4,hw];have h5:=Nat.div_add_mod (val (U.drop j)) v;rw[Nat.add_assoc,<- Nat.mul_add,Nat.add_comm (val (U.drop j)%v),h5]
theorem q85{Q:List Nat}{j x:Nat}(hj:j<Q.length):val ((Q.set j x).drop j)=x+4294967296*val (Q.drop (j+1)):=by
 rw[q0p,q0M _ _ _ _ hj,if_pos rfl];have e:(Q.set j x).drop (j+1)=Q.drop (j+1):=List.drop_set_of_lt (by omega);rw[e]
theorem q7s{a b s n m:Nat}{U:List Nat}(hl:Lim U)(hU:val U=a*2^s)(ha:a<4294967296^n)(hs:s<32)(hmn:m<=n)(hm:0<m)(ht:2147483648<=nth (toL (b*2^s)) (m-1)):val (U.drop (n-m+1))<b*2^s:=by
 rw[<- q0Z hl,hU];apply Nat.div_lt_of_lt_mul
 rw[q0V] at ht;have h1:2147483648<=b*2^s/4294967296^(m-1):=Nat.le_trans ht (Nat.mod_le _ _);rw[Nat.le_div_iff_mul_le (Nat.pow_pos (by omega))] at h1;have h2:a*2^s<4294967296^n*2147483648:=by
  have h3:2^s<=2^31:=Nat.pow_le_pow_right (by omega) (by omega);have h4:a*2^s<4294967296^n*2^s:=Nat.mul_lt_mul_of_pos_right ha (Nat.two_pow_pos _);have h5:4294967296^n*2^s<=4294967296^n*2^31:=Nat.mul_le_mul_left _ h3;omega
 have h6:4294967296^(n-m+1)*(2147483648*4294967296^(m-1))<=4294967296^(n-m+1)*(b*2^s):=Nat.mul_le_mul_left _ h1;rw[Nat.mul_left_comm,<- Nat.pow_add,show n-m+1+(m-1)=n by omega] at h6;omega
theorem qa1{U Q:List Nat}{a b s:Nat}(hb:0<b)(h:a*2^s=val U+b*2^s*val Q)(hu:val U<b*2^s):val Q=a/b/\val U/2^s=a%b:=by
 have hp:0<2^s:=Nat.two_pow_pos s;have h1:a*2^s/(b*2^s)=val Q:=by
  rw[h,Nat.add_mul_div_left _ _ (Nat.mul_pos hb hp),Nat.div_eq_of_lt hu,Nat.zero_add]
 have h2:a*2^s%(b*2^s)=val U:=by
  rw[h,Nat.add_mul_mod_self_left,Nat.mod_eq_of_lt hu]
 rw[Nat.mul_div_mul_right _ _ hp] at h1;rw[Nat.mul_mod_mul_right] at h2;exact⟨h1.symm,by rw[<- h2,Nat.mul_div_cancel _ hp]⟩
theorem qa0{A v x:Nat}{V Q U:List Nat}{j:Nat}(hj:j<Q.length)(h:A=val U+v*(4294967296^(j+1)*val (Q.drop (j+1))))(hs:val V+4294967296^j*(v*x)=val U):
  A=val V+v*(4294967296^j*val ((Q.set j x).drop j)):=by
 rw[q85 hj,h,<- hs,Nat.mul_add (4294967296^j),Nat.mul_add v,Nat.pow_succ,Nat.mul_assoc (4294967296^j),Nat.mul_left_comm v (4294967296^j) x];omega
end Go.Proofs.YtcdimmblnbkjjaaGreatDoor
namespace Go.Proofs.YtcdimmblnbkjjaaGreatDoor
structure Lehmer(a b e x y u1 u2 v1 v2:Nat)(q3u:Bool):Prop where
 i1:a/2^e=v2*x+v1*y
 i2:b/2^e=u2*x+u1*y
 det:if q3u then u1*v2+1=u2*v1 else u1*v2=u2*v1+1
 hu1:u1<=v2
 hu2:u2<=v2
 hs:u1+u2<=v1+v2
 hv:v1<=v2
 h1:1<=v2
 hxy:y<=x
 hx:x<1152921504606846976
structure Good(a b u0 u1 v0 v1:Nat)(q3u:Bool)(A B:Nat):Prop where
 ea:if q3u then(A:Int)=u0*a-v0*b else(A:Int)=v0*b-u0*a
 eb:if q3u then(B:Int)=v1*b-u1*a else(B:Int)=u1*a-v1*b
 ja:(a:Int)=v1*A+v0*B
 jb:(b:Int)=u1*A+u0*B
 le:B<=A
 p0:1<=v0
 p1:1<=v1
 bu0:u0<1073741824
 bu1:u1<1073741824
 bv0:v0<1073741824
 bv1:v1<1073741824
theorem q4u{a b e:Nat}(h:b<=a)(hx:a/2^e<1152921504606846976):Lehmer a b e (a/2^e) (b/2^e) 1 0 0 1 false:=
 ⟨by simp,by simp,by simp,by omega,by omega,by omega,by omega,by omega,Nat.div_le_div_right h,hx⟩
theorem q8i{v:Nat}(h:v*v<1152921504606846976):v<1073741824:=by
 apply Nat.lt_of_not_le
 intro hc;have:=Nat.mul_le_mul hc hc;omega
theorem q2G{a b e x y u1 u2 v1 v2:Nat}{q3u:Bool}(h:Lehmer a b e x y u1 u2 v1 v2 q3u)(ha:a/2^e<1152921504606846976)(hy:v2<=y):v2<1073741824:=by
 apply q8i
 have h1:v2*v2<=v2*x:=Nat.mul_le_mul_left _ (Nat.le_trans hy h.hxy);have h2:=h.i1;omega
theorem q51{a b e x y u1 u2 v1 v2:Nat}{q3u:Bool}(h:Lehmer a b e x y u1 u2 v1 v2 q3u)(hy:v2<=y):
  Lehmer a b e y (x-x/y*y) u2 (u1+x/y*u2) v2 (v1+x/y*v2) (!q3u):=by
 have a0:0<y:=Nat.lt_of_lt_of_le h.h1 hy;have hq:1<=x/y:=(Nat.le_div_iff_mul_le a0).2 (by have:=h.hxy;omega);have hx:x=x/y*y+(x-x/y*y):=by
  have:=Nat.div_mul_le_self x y;omega
 have hr:x-x/y*y<y:=by
  have:=Nat.mod_lt x a0;have e:=Nat.mod_add_div x y;rw[Nat.mul_comm] at e;omega
 generalize x-x/y*y=r at *
 generalize x/y=q at *
 obtain⟨p,rfl⟩:∃p,q=p+1:=⟨q-1,by omega⟩;have hm:p*u2<=p*v2:=Nat.mul_le_mul_left _ h.hu2;have e1:(p+1)*u2=p*u2+u2:=Nat.succ_mul _ _;have e2:(p+1)*v2=p*v2+v2:=Nat.succ_mul _ _;have g1:=h.hu1;have g2:=h.hu2;have g3:=h.hs;have g4:=h.hv;have g5:=h.h1;have g6:=h.hx;have g7:=h.hxy;refine⟨?_,?_,?_,by omega,by omega,by omega,by omega,by omega,by omega,by omega⟩
 ·rw[h.i1]
  conv=>lhs;rw[hx]
  clear hx hm e1 e2
  grind
 ·rw[h.i2]
  conv=>lhs;rw[hx]
  clear hx hm e1 e2
  grind
 ·have hd:=h.det;clear hx hm e1 e2 h;cases q3u
  ·simp only[Bool.false_eq_true,if_false,Bool.not_false,if_true] at hd ⊢
   grind
  ·simp only[if_true,Bool.not_true,Bool.false_eq_true,if_false] at hd ⊢
   grind
theorem q2m{u r M:Int}(hu:0<=u)(hr:r<=M):u*r<=u*M:=Int.mul_le_mul_of_nonneg_left hr hu
theorem q52{a b e x y u1 u2 v1 v2:Nat}{q3u:Bool}(h:Lehmer a b e x y u1 u2 v1 v2 q3u)(ha:a/2^e<1152921504606846976)(hy:v2<=y)(hxy:v1+v2<=x-y)(h1:1<=v1):
  ∃A B,Good a b u1 u2 v1 v2 (!q3u) A B:=by
 have hb:=q2G h ha hy;have ga:(a:Int)=(2^e:Nat)*((v2:Int)*x+v1*y)+((a%2^e:Nat):Int):=by
  have e1:=Nat.div_add_mod a (2^e);rw[h.i1] at e1;have:=congrArg (fun n:Nat=>(n:Int)) e1;simp only[Int.natCast_add,Int.natCast_mul] at this;omega
 have gb:(b:Int)=(2^e:Nat)*((u2:Int)*x+u1*y)+((b%2^e:Nat):Int):=by
  have e1:=Nat.div_add_mod b (2^e);rw[h.i2] at e1;have:=congrArg (fun n:Nat=>(n:Int)) e1;simp only[Int.natCast_add,Int.natCast_mul] at this;omega
 have ra:((a%2^e:Nat):Int)<=((2^e:Nat):Int):=Int.ofNat_le.2 (Nat.le_of_lt (Nat.mod_lt _ (Nat.two_pow_pos _)));have rb:((b%2^e:Nat):Int)<=((2^e:Nat):Int):=Int.ofNat_le.2 (Nat.le_of_lt (Nat.mod_lt _ (Nat.two_pow_pos _)));have ra0:(0:Int)<=((a%2^e:Nat):Int):=Int.natCast_nonneg _;have rb0:(0:Int)<=((b%2^e:Nat):Int):=Int.natCast_nonneg _;have gM:(0:Int)<=((2^e:Nat):Int):=Int.natCast_nonneg _;have hd:=h.det;have g1:=h.hu1;have g2:=h.hu2;have g3:=h.hs;have g4:=h.hv;have g5:=h.hxy;clear h;generalize ((a%2^e:Nat):Int)=s at *
 generalize ((b%2^e:Nat):Int)=t at *
 generalize ((2^e:Nat):Int)=M at *
 have iy:(v2:Int)<=(y:Int):=Int.ofNat_le.2 hy;have ixy:(v1:Int)+v2<=(x:Int)-y:=by omega
 have ig2:(u2:Int)<=(v2:Int):=Int.ofNat_le.2 g2;have ig3:(u1:Int)+u2<=(v1:Int)+v2:=by omega
 have n1:(0:Int)<=(u1:Int):=Int.natCast_nonneg _;have n2:(0:Int)<=(u2:Int):=Int.natCast_nonneg _;have n3:(0:Int)<=(v1:Int):=Int.natCast_nonneg _;have n4:(0:Int)<=(v2:Int):=Int.natCast_nonneg _;have k1:M*(v2:Int)<=M*(y:Int):=Int.mul_le_mul_of_nonneg_left iy gM;have k2:M*((v1:Int)+v2)<=M*((x:Int)-y):=Int.mul_le_mul_of_nonneg_left ixy gM;have k3:(u2:Int)*s<=u2*M:=q2m n2 ra;have k4:(u2:Int)*M<=v2*M:=Int.mul_le_mul_of_nonneg_right ig2 gM;have k5:(v2:Int)*t<=v2*M:=q2m n4 rb;have k6:((u1:Int)+u2)*s<=(u1+u2)*M:=q2m (by omega) ra;have k7:((u1:Int)+u2)*M<=(v1+v2)*M:=Int.mul_le_mul_of_nonneg_right ig3 gM;have k8:((v1:Int)+v2)*t<=(v1+v2)*M:=q2m (by omega) rb;have k9:(0:Int)<=(u2:Int)*s:=Int.mul_nonneg n2 ra0;have k10:(0:Int)<=(v2:Int)*t:=Int.mul_nonneg n4 rb0;have k11:(0:Int)<=((u1:Int)+u2)*s:=Int.mul_nonneg (by omega) ra0;have k12:(0:Int)<=((v1:Int)+v2)*t:=Int.mul_nonneg (by omega) rb0;cases q3u
 ·simp only[Bool.false_eq_true,if_false] at hd;have a0:(u1:Int)*v2=u2*v1+1:=by
   have:=congrArg (fun n:Nat=>(n:Int)) hd
   simpa using this
  have eB:(v2:Int)*b-u2*a=M*y+v2*t-u2*s:=by rw[ga,gb];clear k1 k2 k3 k4 k5 k6 k7 k8 k9 k10 k11 k12 ga gb;grind
  have eA:((u1:Int)*a-v1*b)-((v2:Int)*b-u2*a)=M*((x:Int)-y)+(u1+u2)*s-(v1+v2)*t:=by rw[ga,gb];clear k1 k2 k3 k4 k5 k6 k7 k8 k9 k10 k11 k12 ga gb;grind
  have c1:M*(v2:Int)=v2*M:=Int.mul_comm _ _;have c2:M*((v1:Int)+v2)=(v1+v2)*M:=Int.mul_comm _ _;have B0:0<=(v2:Int)*b-u2*a:=by rw[eB];omega
  have A0:0<=((u1:Int)*a-v1*b)-((v2:Int)*b-u2*a):=by rw[eA];omega
  clear k1 k2 k3 k4 k5 k6 k7 k8 k9 k10 k11 k12 ga gb eB eA c1 c2;refine⟨((u1:Int)*a-v1*b).toNat,((v2:Int)*b-u2*a).toNat,?_,?_,?_,?_,by omega,h1,by omega,by omega,by omega,by omega,by omega⟩
  ·rw[Bool.not_false,if_pos rfl,Int.toNat_of_nonneg (by omega)]
  ·rw[Bool.not_false,if_pos rfl,Int.toNat_of_nonneg B0]
  ·rw[Int.toNat_of_nonneg (by omega),Int.toNat_of_nonneg B0];clear A0 B0 hd;grind
  ·rw[Int.toNat_of_nonneg (by omega),Int.toNat_of_nonneg B0];clear A0 B0 hd;grind
 ·simp only[if_true] at hd;have a0:(u1:Int)*v2+1=u2*v1:=by
   have:=congrArg (fun n:Nat=>(n:Int)) hd
   simpa using this
  have eB:(u2:Int)*a-v2*b=M*y+u2*s-v2*t:=by rw[ga,gb];clear k1 k2 k3 k4 k5 k6 k7 k8 k9 k10 k11 k12 ga gb;grind
  have eA:((v1:Int)*b-u1*a)-((u2:Int)*a-v2*b)=M*((x:Int)-y)+(v1+v2)*t-(u1+u2)*s:=by rw[ga,gb];clear k1 k2 k3 k4 k5 k6 k7 k8 k9 k10 k11 k12 ga gb;grind
  have c1:M*(v2:Int)=v2*M:=Int.mul_comm _ _;have c2:M*((v1:Int)+v2)=(v1+v2)*M:=Int.mul_comm _ _;have B0:0<=(u2:Int)*a-v2*b:=by rw[eB];omega
  have A0:0<=((v1:Int)*b-u1*a)-((u2:Int)*a-v2*b):=by rw[eA];omega
  clear k1 k2 k3 k4 k5 k6 k7 k8 k9 k10 k11 k12 ga gb eB eA c1 c2;refine⟨((v1:Int)*b-u1*a).toNat,((u2:Int)*a-v2*b).toNat,?_,?_,?_,?_,by omega,h1,by omega,by omega,by omega,by omega,by omega⟩
  ·rw[Bool.not_true,if_neg (by decide),Int.toNat_of_nonneg (by omega)]
  ·rw[Bool.not_true,if_neg (by decide),Int.toNat_of_nonneg B0]
  ·rw[Int.toNat_of_nonneg (by omega),Int.toNat_of_nonneg B0];clear A0 B0 hd;grind
  ·rw[Int.toNat_of_nonneg (by omega),Int.toNat_of_nonneg B0];clear A0 B0 hd;grind
theorem q8r{a b u0 u1 v0 v1 A B:Nat}{q3u:Bool}(h:Good a b u0 u1 v0 v1 q3u A B):Nat.gcd A B=Nat.gcd a b:=by
 have ja:a=v1*A+v0*B:=by have:=h.ja;exact Int.ofNat.inj (by rw[Int.ofNat_eq_natCast,Int.ofNat_eq_natCast,this];simp)
 have jb:b=u1*A+u0*B:=by have:=h.jb;exact Int.ofNat.inj (by rw[Int.ofNat_eq_natCast,Int.ofNat_eq_natCast,this];simp)
 apply Nat.dvd_antisymm
 ·have dA:=Nat.gcd_dvd_left A B;have dB:=Nat.gcd_dvd_right A B;refine Nat.dvd_gcd ?_ ?_
  ·conv=>rhs;rw[ja]
   exact Nat.dvd_add (Nat.dvd_trans dA (Nat.dvd_mul_left _ _)) (Nat.dvd_trans dB (Nat.dvd_mul_left _ _))
  ·conv=>rhs;rw[jb]
   exact Nat.dvd_add (Nat.dvd_trans dA (Nat.dvd_mul_left _ _)) (Nat.dvd_trans dB (Nat.dvd_mul_left _ _))
 ·have da:((Nat.gcd a b:Nat):Int) ∣ (a:Int):=Int.natCast_dvd_natCast.2 (Nat.gcd_dvd_left a b);have db:((Nat.gcd a b:Nat):Int) ∣ (b:Int):=Int.natCast_dvd_natCast.2 (Nat.gcd_dvd_right a b);refine Nat.dvd_gcd ?_ ?_
  ·apply Int.natCast_dvd_natCast.1
   have:=h.ea;cases q3u
   ·rw[if_neg (by decide)] at this;rw[this];exact Int.dvd_sub (Int.dvd_trans db (Int.dvd_mul_left _ _)) (Int.dvd_trans da (Int.dvd_mul_left _ _))
   ·rw[if_pos rfl] at this;rw[this];exact Int.dvd_sub (Int.dvd_trans da (Int.dvd_mul_left _ _)) (Int.dvd_trans db (Int.dvd_mul_left _ _))
  ·apply Int.natCast_dvd_natCast.1
   have:=h.eb;cases q3u
   ·rw[if_neg (by decide)] at this;rw[this];exact Int.dvd_sub (Int.dvd_trans da (Int.dvd_mul_left _ _)) (Int.dvd_trans db (Int.dvd_mul_left _ _))
   ·rw[if_pos rfl] at this;rw[this];exact Int.dvd_sub (Int.dvd_trans db (Int.dvd_mul_left _ _)) (Int.dvd_trans da (Int.dvd_mul_left _ _))
theorem q9V{a b u0 u1 v0 v1 A B:Nat}{q3u:Bool}(h:Good a b u0 u1 v0 v1 q3u A B):A+B<=a:=by
 have ja:a=v1*A+v0*B:=by have:=h.ja;exact Int.ofNat.inj (by rw[Int.ofNat_eq_natCast,Int.ofNat_eq_natCast,this];simp)
 rw[ja];exact Nat.add_le_add (Nat.le_mul_of_pos_left _ h.p1) (Nat.le_mul_of_pos_left _ h.p0)
end Go.Proofs.YtcdimmblnbkjjaaGreatDoor
namespace Go.Proofs.YtcdimmblnbkjjaaGreatDoor
open Go
def p2(n:Int):Nat:=2^n.toNat
theorem q0I(n:Int):0<p2 n:=Nat.two_pow_pos _
theorem q0z{n:Int}(h:n<=0):p2 n=1:=by unfold p2;rw[show n.toNat=0 by omega]
theorem q39(n:Nat):p2 (n:Int)=2^n:=by unfold p2;rw[Int.toNat_natCast]
theorem q2k{m n:Int}(h:0<=m)(k:0<=n):p2 (m+n)=p2 m*p2 n:=by
 unfold p2;rw[Int.toNat_add h k,Nat.pow_add]
theorem q5r(m n:Int):p2 (m+n)*(p2 (-m)*p2 (-n))=p2 (-(m+n))*(p2 m*p2 n):=by
 unfold p2;rw[<- Nat.pow_add,<- Nat.pow_add,<- Nat.pow_add,<- Nat.pow_add];congr 1
 omega
theorem qbo{m n:Int}(h0:0<=m)(h:m<n):2*p2 m<=p2 n:=by
 unfold p2;rw[Nat.mul_comm,<- Nat.pow_succ];exact Nat.pow_le_pow_right (by omega) (by omega)
theorem q9E{m n:Int}(h:m<=n):p2 m<=p2 n:=Nat.pow_le_pow_right (by omega) (by omega)
def qag(e:Int)(a b:Nat):Prop:=b*p2 e<=a*p2 (-e)/\a*p2 (-e)<2*(b*p2 e)
theorem q8m{e f:Int}(h:e<=f){a b:Nat}(hf:b*p2 f<=a*p2 (-f)):b*p2 e<=a*p2 (-e):=by
 have k:=q5r e (f-e);rw[show e+(f-e)=f by omega,q0z (n:=-(f-e)) (by omega),Nat.mul_one] at k;have hp:=q0I (f-e);have hq:=q0I (-f);have h1:b*p2 f*p2 (-e)<=a*p2 (-f)*p2 (-e):=Nat.mul_le_mul_right _ hf;have h2:p2 (-f)*(b*p2 e)<=p2 (-f)*(a*p2 (-e)):=by
  calc p2 (-f)*(b*p2 e)<=p2 (-f)*(b*p2 e)*p2 (f-e):=Nat.le_mul_of_pos_right _ hp
   _=b*(p2 (-f)*(p2 e*p2 (f-e))):=by grind
   _=b*(p2 f*p2 (-e)):=by rw[k]
   _=b*p2 f*p2 (-e):=by grind
   _<=a*p2 (-f)*p2 (-e):=h1
   _=p2 (-f)*(a*p2 (-e)):=by grind
 exact Nat.le_of_mul_le_mul_left h2 hq
theorem q5u{e f:Int}(h:e<f){a b:Nat}(hf:a*p2 (-e)<2*(b*p2 e)):a*p2 (-f)<b*p2 f:=by
 have k:=q5r e (f-e);rw[show e+(f-e)=f by omega,q0z (n:=-(f-e)) (by omega),Nat.mul_one] at k;have hp:2*1<=p2 (f-e):=by have:=qbo (m:=0) (n:=f-e) (by omega) (by omega);simpa [p2] using this
 have hq:=q0I (-e);have h2:p2 (-e)*(a*p2 (-f))<p2 (-e)*(b*p2 f):=by
  calc p2 (-e)*(a*p2 (-f))=a*p2 (-e)*p2 (-f):=by grind
   _<2*(b*p2 e)*p2 (-f):=Nat.mul_lt_mul_of_pos_right hf (q0I _)
   _<=p2 (f-e)*(b*p2 e)*p2 (-f):=Nat.mul_le_mul_right _ (Nat.mul_le_mul_right _ (by omega))
   _=b*(p2 (-f)*(p2 e*p2 (f-e))):=by grind
   _=b*(p2 f*p2 (-e)):=by rw[k]
   _=p2 (-e)*(b*p2 f):=by grind
 exact Nat.lt_of_mul_lt_mul_left h2
def q21(a b:Nat):Int:=if a*p2 (-((bl a:Int)-bl b))<b*p2 ((bl a:Int)-bl b) then(bl a:Int)-bl b-1 else(bl a:Int)-bl b
theorem q2o{a b:Nat}(ha:0<a)(hb:0<b):qag (q21 a b) a b:=by
 have a1:=q20 a;have a2:=q8n ha;have b1:=q20 b;have b2:=q8n hb;have a0:=q4F ha;have a3:=q4F hb;have hi:a*p2 (-((bl a:Int)-bl b))<2*(b*p2 ((bl a:Int)-bl b)):=by
  have e1:p2 (bl a:Int)*p2 (-((bl a:Int)-bl b))=p2 (bl b:Int)*p2 ((bl a:Int)-bl b):=by
   unfold p2;rw[<- Nat.pow_add,<- Nat.pow_add];congr 1;omega
  rw[q39,q39] at e1
  calc a*p2 (-((bl a:Int)-bl b))<2^bl a*p2 (-((bl a:Int)-bl b)):=Nat.mul_lt_mul_of_pos_right a1 (q0I _)
   _=2^bl b*p2 ((bl a:Int)-bl b):=e1
   _=2*2^(bl b-1)*p2 ((bl a:Int)-bl b):=by rw[Nat.mul_comm 2,<- Nat.pow_succ,show(bl b-1).succ=bl b by omega]
   _<=2*b*p2 ((bl a:Int)-bl b):=Nat.mul_le_mul_right _ (Nat.mul_le_mul_left _ b2)
   _=_:=by grind
 have lo:b*p2 ((bl a:Int)-bl b-1)<=a*p2 (-((bl a:Int)-bl b-1)):=by
  have e1:p2 ((bl a:Int)-1)*p2 (-((bl a:Int)-bl b-1))=p2 (bl b:Int)*p2 ((bl a:Int)-bl b-1):=by
   unfold p2;rw[<- Nat.pow_add,<- Nat.pow_add];congr 1;omega
  have e2:p2 ((bl a:Int)-1)=2^(bl a-1):=by rw[<- q39];congr 1;omega
  rw[q39,e2] at e1
  calc b*p2 ((bl a:Int)-bl b-1)<=2^bl b*p2 ((bl a:Int)-bl b-1):=Nat.mul_le_mul_right _ (Nat.le_of_lt b1)
   _=2^(bl a-1)*p2 (-((bl a:Int)-bl b-1)):=e1.symm
   _<=a*p2 (-((bl a:Int)-bl b-1)):=Nat.mul_le_mul_right _ a2
 unfold q21;split
 ·rename_i h;refine⟨lo,?_⟩;generalize (bl a:Int)-bl b=e at *
  have k:=q5r (e-1) 1;rw[show e-1+1=e by omega,show p2 1=2 from rfl,show p2 (-1)=1 from rfl,Nat.mul_one] at k;have h2:p2 (-e)*(a*p2 (-(e-1)))<p2 (-e)*(2*(b*p2 (e-1))):=by
   calc p2 (-e)*(a*p2 (-(e-1)))=a*p2 (-e)*p2 (-(e-1)):=by grind
    _<b*p2 e*p2 (-(e-1)):=Nat.mul_lt_mul_of_pos_right h (q0I _)
    _=b*(p2 e*p2 (-(e-1))):=by grind
    _=b*(p2 (-e)*(p2 (e-1)*2)):=by rw[k]
    _=_:=by grind
  exact Nat.lt_of_mul_lt_mul_left h2
 ·rename_i h;exact⟨by omega,hi⟩
def q3B(neg:Bool)(mode:Nat)(odd:Bool)(c:Int):Bool:=
 match mode with
 | 0=>decide (0<c) || (decide (c=0) && odd)
 | 1=>decide (0<=c)
 | 2=>false
 | 3=>!neg
 | _=>neg
def rnd(neg:Bool)(mode a b:Nat):Nat:=
 if a%b=0 then a/b else if q3B neg mode (decide (a/b%2=1)) (q1G (2*(a%b)) b) then a/b+1 else a/b
theorem qaE(neg:Bool)(mode a b:Nat):rnd neg mode a b<=a/b+1:=by
 unfold rnd;split<;>(try split)<;>omega
def q1m(E:Nat):Int:=2^(E-1)-1
def q1u(neg:Bool)(mode:Nat):Bool:=decide (mode=2) || (decide (mode=3) && neg) || (decide (mode=4) && !neg)
def q4J(E:Nat)(a b:Nat):Int:=max (q21 a b) (1-q1m E)
def mant(E F:Nat)(neg:Bool)(mode a b:Nat):Nat:=rnd neg mode (a*p2 (F-q4J E a b)) (b*p2 (q4J E a b-F))
def q6J(E F:Nat)(a b:Nat):Nat:=(a*p2 (F-q4J E a b))%(b*p2 (q4J E a b-F))
def q9X(F:Nat)(neg:Bool)(mode a b:Nat):Nat:=rnd neg mode (a*p2 (F-q21 a b)) (b*p2 (q21 a b-F))
def q4G(E F:Nat)(neg:Bool)(mode a b:Nat):Nat:=mant E F neg mode a b+(q4J E a b+q1m E-1).toNat*2^F
def q4c(E F:Nat):Nat:=2^(E+F)-2^F
def over(E F:Nat)(neg:Bool)(mode a b:Nat):Bool:=decide (q1m E<q4J E a b) || decide (q4c E F<=q4G E F neg mode a b)
def q3w(E F:Nat)(neg:Bool)(mode a b:Nat):Bool:=decide (q21 a b<1-q1m E) && (decide (q21 a b < -q1m E) || decide (bl (q9X F neg mode a b)<=F+1))
def q5B(E F:Nat)(neg:Bool)(mode a b:Nat):Nat:=if q6J E F a b=0 then 0 else if q3w E F neg mode a b then 5 else 1
def out(E F:Nat)(neg:Bool)(mode a b:Nat):Nat × Nat:=
 if over E F neg mode a b then(if q1u neg mode then q4c E F-1 else q4c E F,3) else(q4G E F neg mode a b,q5B E F neg mode a b)
theorem q5G{E:Nat}(h:2<=E):1<=q1m E:=by
 unfold q1m;have h1:(2:Nat)^1<=2^(E-1):=Nat.pow_le_pow_right (by omega) (by omega);have h2:((2^(E-1):Nat):Int)=(2:Int)^(E-1):=by rw[Int.natCast_pow];rfl
 rw[<- h2];omega
theorem q7z{E:Nat}(h:E<=11):q1m E<=1023:=by
 unfold q1m;have h1:(2:Nat)^(E-1)<=2^10:=Nat.pow_le_pow_right (by omega) (by omega);have h2:((2^(E-1):Nat):Int)=(2:Int)^(E-1):=by rw[Int.natCast_pow];rfl
 rw[<- h2];omega
theorem q8L{E:Nat}(h:2<=E):(2:Int)^E=2*q1m E+2:=by
 unfold q1m;have:(2:Int)^E=2^(E-1)*2:=by rw[<- Int.pow_succ];congr 1;omega
 rw[this];omega
theorem qb1{E F:Nat}(h:2<=E):(q4c E F:Int)=(2*q1m E+1)*(2^F:Nat):=by
 have h1:=q8L h;have h2:((2^E:Nat):Int)=(2:Int)^E:=by rw[Int.natCast_pow];rfl
 have h3:2^F<=2^(E+F):=Nat.pow_le_pow_right (by omega) (by omega);unfold q4c;rw[Int.natCast_sub h3,Nat.pow_add,Int.natCast_mul,h2,h1]
 grind
theorem q3L(a b F:Nat)(e:Int):a*p2 (F-e)*(b*p2 e)=a*p2 (-e)*2^F*(b*p2 (e-F)):=by
 have k:=q5r (-e) F;rw[show -e+(F:Int)=F-e by omega,show -(-e)=e by omega,show -(F:Int) = -F from rfl,q0z (n:=-(F:Int)) (by omega),Nat.mul_one,q39,show -((F:Int)-e)=e-F by omega] at k
 calc a*p2 (F-e)*(b*p2 e)=a*b*(p2 (F-e)*p2 e):=by grind
  _=a*b*(p2 (e-F)*(p2 (-e)*2^F)):=by rw[k]
  _=_:=by grind
theorem q6D{a b F:Nat}{e:Int}(hb:0<b)(h:qag e a b):2^F*(b*p2 (e-F))<=a*p2 (F-e)/\a*p2 (F-e)<2^(F+1)*(b*p2 (e-F)):=by
 have k:=q3L a b F e;have hp:0<b*p2 e:=Nat.mul_pos hb (q0I _)
 constructor
 ·have:b*p2 e*(2^F*(b*p2 (e-F)))<=b*p2 e*(a*p2 (F-e)):=by
   calc b*p2 e*(2^F*(b*p2 (e-F)))<=a*p2 (-e)*(2^F*(b*p2 (e-F))):=Nat.mul_le_mul_right _ h.1
    _=a*p2 (-e)*2^F*(b*p2 (e-F)):=by grind
    _=a*p2 (F-e)*(b*p2 e):=k.symm
    _=_:=by grind
  exact Nat.le_of_mul_le_mul_left this hp
 ·have:b*p2 e*(a*p2 (F-e))<b*p2 e*(2^(F+1)*(b*p2 (e-F))):=by
   calc b*p2 e*(a*p2 (F-e))=a*p2 (F-e)*(b*p2 e):=by grind
    _=a*p2 (-e)*2^F*(b*p2 (e-F)):=k
    _=a*p2 (-e)*(2^F*(b*p2 (e-F))):=by grind
    _<2*(b*p2 e)*(2^F*(b*p2 (e-F))):=Nat.mul_lt_mul_of_pos_right h.2 (Nat.mul_pos (Nat.two_pow_pos _) (Nat.mul_pos hb (q0I _)))
    _=_:=by rw[Nat.pow_succ];grind
  exact Nat.lt_of_mul_lt_mul_left this
theorem q6C{a b F:Nat}{e l:Int}(hb:0<b)(h:qag e a b)(hl:e<l):a*p2 (F-l)<2^F*(b*p2 (l-F)):=by
 have h1:=q5u hl h.2;have k:=q3L a b F l;have hp:0<b*p2 l:=Nat.mul_pos hb (q0I _);have:b*p2 l*(a*p2 (F-l))<b*p2 l*(2^F*(b*p2 (l-F))):=by
  calc b*p2 l*(a*p2 (F-l))=a*p2 (F-l)*(b*p2 l):=by grind
   _=a*p2 (-l)*2^F*(b*p2 (l-F)):=k
   _=a*p2 (-l)*(2^F*(b*p2 (l-F))):=by grind
   _<b*p2 l*(2^F*(b*p2 (l-F))):=Nat.mul_lt_mul_of_pos_right h1 (Nat.mul_pos (Nat.two_pow_pos _) (Nat.mul_pos hb (q0I _)))
 exact Nat.lt_of_mul_lt_mul_left this
theorem q5q{neg:Bool}{mode a b N:Nat}(h:a<N*b):rnd neg mode a b<=N:=by
 have:=qaE neg mode a b;have:a/b<N:=Nat.div_lt_of_lt_mul (by rw[Nat.mul_comm];exact h);omega
section
variable {E F : Nat} {neg : Bool} {mode a b : Nat}
theorem q70(ha:0<a)(hb:0<b):mant E F neg mode a b<=2^(F+1):=by
 have hl:=q2o ha hb;unfold mant q4J;rcases Int.lt_or_le (q21 a b) (1-q1m E) with h|h
 ·rw[Int.max_eq_right (by omega)];have:=q5q (neg:=neg) (mode:=mode) (q6C (F:=F) hb hl h);rw[Nat.pow_succ];have:=Nat.two_pow_pos F;omega
 ·rw[Int.max_eq_left (by omega)];exact q5q (q6D (F:=F) hb hl).2
end
end Go.Proofs.YtcdimmblnbkjjaaGreatDoor
