/- Lemmas. -/
import Derived.Test.YtabcgemembkkcaaGreatDoorDigsAB
import Derived.Lib.TrailingZeros
set_option linter.all false
namespace Go.Proofs.YtabcgemembkkcaaGreatDoor
section
open Go
def tz(n:Nat):Nat:=Lib.ctzFrom n n
theorem q22{n:Nat}(h:0<n):∃m,n=2^tz n*(2*m+1):=by obtain⟨m,a,_⟩:=Lib.ctzFrom_spec n n h k2m;exact⟨m,a⟩
theorem q7d:∀{k l x y:Nat},2^k*(2*x+1)=2^l*(2*y+1)->k=l
 | 0,0,_,_,_=>rfl
 | 0,l+1,x,y,h=>by rw[k0B,k0S,k0d,k0j,k0W] at h;omega
 | k+1,0,x,y,h=>by rw[k0B,k0S,k0d,k0j,k0W] at h;omega
 | k+1,l+1,x,y,h=>by
  have:2^k*(2*x+1)=2^l*(2*y+1):=by rw[k0d,k0d,k0j,k0W,k0j (2^l),k0W (2^l)] at h;omega
  rw[q7d this]
theorem qbJ{n k m:Nat}(h:n=2^k*(2*m+1)):tz n=k:=by
 have a:0<n:=by rw[h];exact k0N (k0a _) (by omega)
 obtain⟨c,b⟩:=q22 a;exact q7d (b.symm.trans h)
theorem qcI{x:Nat}(h0:0<x)(h:x<4294967296):Lib.ctz 32 x=tz x:=by
 obtain⟨m,a,_⟩:=Lib.ctzFrom_spec 32 x h0 (by omega);have e:Lib.ctz 32 x=Lib.ctzFrom 32 x:=by unfold Lib.ctz;rw[k0r (by omega)]
 rw[e,qbJ a]
theorem q7c{N k:Nat}(h:N%4294967296^k=0)(h1:N/4294967296^k%4294967296≠0):tz N=32*k+tz (N/4294967296^k%4294967296):=by
 obtain⟨m,a⟩:=q22 (k0O h1);generalize ex:N/4294967296^k%4294967296=x at *
 have f:tz x<32:=by
  have hx:x<4294967296:=by rw[<- ex];exact k0i _ (by omega)
  have:=k2Q (2^tz x) (show 0<2*m+1 by omega);rw[<- a] at this;exact(k1X (show 1<2 by omega)).1 (show 2^tz x<2^32 by omega)
 have c:N/4294967296^k=x+4294967296*(N/4294967296^k/4294967296):=by rw[<- ex];exact(k2g _ _).symm
 have d:N=4294967296^k*(N/4294967296^k):=by have:=k0F N (4294967296^k);rw[h] at this;omega
 generalize N/4294967296^k/4294967296=q at *
 refine qbJ (m:=m+2^(31-tz x)*q) ?_;have b:(4294967296:Nat)=2^tz x*(2*2^(31-tz x)):=by rw[k0W,<- k0e,show tz x+(31-tz x)=31 by omega]
 have e:4294967296^k=2^(32*k):=by rw[k1r]
 rw[d,c,e,k0e,k0j];congr 1;have:4294967296*q=2^tz x*(2*(2^(31-tz x)*q)):=by
  conv=>lhs;rw[b]
  rw[k0j,k0j]
 rw[this];generalize tz x=t at *
 rw[a,<- k0u];congr 1;omega
theorem q1h{n:Nat}(h:0<n):tz n+1<=bl n:=by
 obtain⟨m,a⟩:=q22 h;have b:2^tz n<=n:=by
  conv=>rhs;rw[a]
  exact k2Q _ (by omega)
 have c:=q0O n;exact(k1X (show 1<2 by omega)).1 (k0I b c)
theorem q6H{n:Nat}(h:0<n)(e:tz n+1=bl n):n=2^tz n:=by
 obtain⟨m,b⟩:=q22 h;have a:=q0O n;rw[<- e,k0d] at a;generalize tz n=k at *
 rw[b] at a;have:2*m+1<2:=k1t a;have:m=0:=by omega
 subst this;rw[b];simp
theorem q5A{a k:Nat}(h:0<a):Nat.gcd a (2^k)=2^min (tz a) k:=by
 obtain⟨m,c⟩:=q22 h;generalize tz a=t at *
 have e:Nat.Coprime (2*m+1) 2:=by
  rw[Nat.coprime_iff_gcd_eq_one,k1k,k2H];have:(2*m+1)%2=1:=by omega
  rw[this];rfl
 rcases Nat.le_total t k with b|b
 ·obtain⟨d,rfl⟩:=Nat.exists_eq_add_of_le b;rw[c,k0e,Nat.gcd_mul_left,k0Y (by omega)];rw[Nat.Coprime.gcd_eq_one (Nat.Coprime.pow_right d e),k0G]
 ·obtain⟨d,rfl⟩:=Nat.exists_eq_add_of_le b;rw[Nat.min_eq_right (by omega),c];apply Nat.gcd_eq_right;rw[k0e,k0j];exact Nat.dvd_mul_right _ _
theorem q1W{a b:Nat}(ha:0<a)(hb:0<b)(e:tz b+1=bl b):Nat.gcd a b=1*2^min (tz a) (tz b):=by
 have:=q6H hb e
 conv=>lhs;rw[this]
 rw[k0S,q5A ha]
end
end Go.Proofs.YtabcgemembkkcaaGreatDoor
