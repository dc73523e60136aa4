/- Lemmas. -/
import Derived.Test.YthopehoklmgphaaGreatDoorPartAB
import Derived.Lib.TrailingZeros
set_option linter.all false
namespace Go.Proofs.YthopehoklmgphaaGreatDoor
section
open Go
def tz(n:Nat):Nat:=Lib.ctzFrom n n
theorem q3R{n:Nat}(h:0<n):∃m,n=2^tz n*(2*m+1):=by obtain⟨m,a,_⟩:=Lib.ctzFrom_spec n n h Nat.lt_two_pow_self;exact⟨m,a⟩
theorem q8t:∀{k l x y:Nat},2^k*(2*x+1)=2^l*(2*y+1)->k=l
 | 0,0,_,_,_=>rfl
 | 0,l+1,x,y,h=>by rw[k0R,k0N,k0f,k0k,k0Q] at h;omega
 | k+1,0,x,y,h=>by rw[k0R,k0N,k0f,k0k,k0Q] at h;omega
 | k+1,l+1,x,y,h=>by
  have:2^k*(2*x+1)=2^l*(2*y+1):=by rw[k0f,k0f,k0k,k0Q,k0k (2^l),k0Q (2^l)] at h;omega
  rw[q8t this]
theorem qd8{n k m:Nat}(h:n=2^k*(2*m+1)):tz n=k:=by
 have a:0<n:=by rw[h];exact k0w (k0m _) (by omega)
 obtain⟨c,b⟩:=q3R a;exact q8t (b.symm.trans h)
theorem qeh{x:Nat}(h0:0<x)(h:x<4294967296):Lib.ctz 32 x=tz x:=by
 obtain⟨m,a,_⟩:=Lib.ctzFrom_spec 32 x h0 (by omega);have e:Lib.ctz 32 x=Lib.ctzFrom 32 x:=by unfold Lib.ctz;rw[if_neg (by omega)]
 rw[e,qd8 a]
theorem qbR{N k:Nat}(h:N%4294967296^k=0)(h1:N/4294967296^k%4294967296≠0):tz N=32*k+tz (N/4294967296^k%4294967296):=by
 obtain⟨m,a⟩:=q3R (k0Z h1);generalize ex:N/4294967296^k%4294967296=x at *
 have f:tz x<32:=by
  have hx:x<4294967296:=by rw[<- ex];exact k0z _ (by omega)
  have:=Nat.le_mul_of_pos_right (2^tz x) (show 0<2*m+1 by omega);rw[<- a] at this;exact(k1U (show 1<2 by omega)).1 (show 2^tz x<2^32 by omega)
 have c:N/4294967296^k=x+4294967296*(N/4294967296^k/4294967296):=by rw[<- ex];exact(k2q _ _).symm
 have d:N=4294967296^k*(N/4294967296^k):=by have:=k0O N (4294967296^k);rw[h] at this;omega
 generalize N/4294967296^k/4294967296=q at *
 refine qd8 (m:=m+2^(31-tz x)*q) ?_;have b:(4294967296:Nat)=2^tz x*(2*2^(31-tz x)):=by rw[k0Q,<- k0q,show tz x+(31-tz x)=31 by omega]
 have e:4294967296^k=2^(32*k):=by rw[k18]
 rw[d,c,e,k0q,k0k];congr 1;have:4294967296*q=2^tz x*(2*(2^(31-tz x)*q)):=by
  conv=>lhs;rw[b]
  rw[k0k,k0k]
 rw[this];generalize tz x=t at *
 rw[a,<- k0u];congr 1;omega
theorem q1j{n:Nat}(h:0<n):tz n+1<=bl n:=by
 obtain⟨m,a⟩:=q3R h;have b:2^tz n<=n:=by
  conv=>rhs;rw[a]
  exact Nat.le_mul_of_pos_right _ (by omega)
 have c:=q1Q n;exact(k1U (show 1<2 by omega)).1 (k0T b c)
theorem q7J{n:Nat}(h:0<n)(e:tz n+1=bl n):n=2^tz n:=by
 obtain⟨m,b⟩:=q3R h;have a:=q1Q n;rw[<- e,k0f] at a;generalize tz n=k at *
 rw[b] at a;have:2*m+1<2:=k1n a;have:m=0:=by omega
 subst this;rw[b];simp
theorem q6C{a k:Nat}(h:0<a):Nat.gcd a (2^k)=2^min (tz a) k:=by
 obtain⟨m,c⟩:=q3R h;generalize tz a=t at *
 have e:Nat.Coprime (2*m+1) 2:=by
  rw[Nat.coprime_iff_gcd_eq_one,k1i,Nat.gcd_rec];have:(2*m+1)%2=1:=by omega
  rw[this];rfl
 rcases Nat.le_total t k with b|b
 ·obtain⟨d,rfl⟩:=Nat.exists_eq_add_of_le b;rw[c,k0q,Nat.gcd_mul_left,k0K (by omega)];rw[Nat.Coprime.gcd_eq_one (Nat.Coprime.pow_right d e),k0H]
 ·obtain⟨d,rfl⟩:=Nat.exists_eq_add_of_le b;rw[Nat.min_eq_right (by omega),c];apply Nat.gcd_eq_right;rw[k0q,k0k];exact Nat.dvd_mul_right _ _
theorem q2k{a b:Nat}(ha:0<a)(hb:0<b)(e:tz b+1=bl b):Nat.gcd a b=1*2^min (tz a) (tz b):=by
 have:=q7J hb e
 conv=>lhs;rw[this]
 rw[k0N,q6C ha]
end
end Go.Proofs.YthopehoklmgphaaGreatDoor
