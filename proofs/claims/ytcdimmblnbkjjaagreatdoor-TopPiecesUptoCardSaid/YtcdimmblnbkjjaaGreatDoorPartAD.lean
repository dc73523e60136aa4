/- Lemmas. -/
import Derived.Test.YtcdimmblnbkjjaaGreatDoorPartAB
import Derived.Lib.TrailingZeros
set_option linter.all false
namespace Go.Proofs.YtcdimmblnbkjjaaGreatDoor
open Go
def tz(n:Nat):Nat:=Lib.ctzFrom n n
theorem q31{n:Nat}(h:0<n):∃m,n=2^tz n*(2*m+1):=by
 obtain⟨m,hm,_⟩:=Lib.ctzFrom_spec n n h Nat.lt_two_pow_self;exact⟨m,hm⟩
theorem q6r:∀{k l x y:Nat},2^k*(2*x+1)=2^l*(2*y+1)->k=l
 | 0,0,_,_,_=>rfl
 | 0,l+1,x,y,h=>by
  rw[Nat.pow_zero,Nat.one_mul,Nat.pow_succ,Nat.mul_assoc,Nat.mul_left_comm] at h;omega
 | k+1,0,x,y,h=>by
  rw[Nat.pow_zero,Nat.one_mul,Nat.pow_succ,Nat.mul_assoc,Nat.mul_left_comm] at h;omega
 | k+1,l+1,x,y,h=>by
  have:2^k*(2*x+1)=2^l*(2*y+1):=by
   rw[Nat.pow_succ,Nat.pow_succ,Nat.mul_assoc,Nat.mul_left_comm,Nat.mul_assoc (2^l),Nat.mul_left_comm (2^l)] at h;omega
  rw[q6r this]
theorem qaq{n k m:Nat}(h:n=2^k*(2*m+1)):tz n=k:=by
 have h0:0<n:=by rw[h];exact Nat.mul_pos (Nat.two_pow_pos _) (by omega)
 obtain⟨m',hm⟩:=q31 h0;exact q6r (hm.symm.trans h)
theorem qbx{x:Nat}(h0:0<x)(h:x<4294967296):Lib.ctz 32 x=tz x:=by
 obtain⟨m,hm,_⟩:=Lib.ctzFrom_spec 32 x h0 (by omega);have e:Lib.ctz 32 x=Lib.ctzFrom 32 x:=by
  unfold Lib.ctz;rw[if_neg (by omega)]
 rw[e,qaq hm]
theorem q9p{N k:Nat}(h:N%4294967296^k=0)(h1:N/4294967296^k%4294967296≠0):tz N=32*k+tz (N/4294967296^k%4294967296):=by
 obtain⟨m,hm⟩:=q31 (Nat.pos_of_ne_zero h1);generalize ex:N/4294967296^k%4294967296=x at *
 have a0:tz x<32:=by
  have hx:x<4294967296:=by rw[<- ex];exact Nat.mod_lt _ (by omega)
  have:=Nat.le_mul_of_pos_right (2^tz x) (show 0<2*m+1 by omega);rw[<- hm] at this;exact(Nat.pow_lt_pow_iff_right (show 1<2 by omega)).1 (show 2^tz x<2^32 by omega)
 have hq:N/4294967296^k=x+4294967296*(N/4294967296^k/4294967296):=by rw[<- ex];exact(Nat.mod_add_div _ _).symm
 have hN:N=4294967296^k*(N/4294967296^k):=by
  have:=Nat.div_add_mod N (4294967296^k);rw[h] at this;omega
 generalize N/4294967296^k/4294967296=q at *
 refine qaq (m:=m+2^(31-tz x)*q) ?_;have e32:(4294967296:Nat)=2^tz x*(2*2^(31-tz x)):=by
  rw[Nat.mul_left_comm,<- Nat.pow_add,show tz x+(31-tz x)=31 by omega]
 have ep:4294967296^k=2^(32*k):=by rw[Nat.pow_mul]
 rw[hN,hq,ep,Nat.pow_add,Nat.mul_assoc];congr 1
 have:4294967296*q=2^tz x*(2*(2^(31-tz x)*q)):=by
  conv=>lhs;rw[e32]
  rw[Nat.mul_assoc,Nat.mul_assoc]
 rw[this];generalize tz x=t at *
 rw[hm,<- Nat.mul_add];congr 1
 omega
theorem q1S{n:Nat}(h:0<n):tz n+1<=bl n:=by
 obtain⟨m,hm⟩:=q31 h;have h1:2^tz n<=n:=by
  conv=>rhs;rw[hm]
  exact Nat.le_mul_of_pos_right _ (by omega)
 have h2:=q20 n;exact(Nat.pow_lt_pow_iff_right (show 1<2 by omega)).1 (Nat.lt_of_le_of_lt h1 h2)
theorem q5T{n:Nat}(h:0<n)(e:tz n+1=bl n):n=2^tz n:=by
 obtain⟨m,hm⟩:=q31 h;have h2:=q20 n;rw[<- e,Nat.pow_succ] at h2;generalize tz n=k at *
 rw[hm] at h2;have:2*m+1<2:=Nat.lt_of_mul_lt_mul_left h2;have:m=0:=by omega
 subst this;rw[hm];simp
theorem q58{a k:Nat}(h:0<a):Nat.gcd a (2^k)=2^min (tz a) k:=by
 obtain⟨m,hm⟩:=q31 h;generalize tz a=t at *
 have hc:Nat.Coprime (2*m+1) 2:=by
  rw[Nat.coprime_iff_gcd_eq_one,Nat.gcd_comm,Nat.gcd_rec];have:(2*m+1)%2=1:=by omega
  rw[this];rfl
 rcases Nat.le_total t k with hk|hk
 ·obtain⟨d,rfl⟩:=Nat.exists_eq_add_of_le hk;rw[hm,Nat.pow_add,Nat.gcd_mul_left,Nat.min_eq_left (by omega)];rw[Nat.Coprime.gcd_eq_one (Nat.Coprime.pow_right d hc),Nat.mul_one]
 ·obtain⟨d,rfl⟩:=Nat.exists_eq_add_of_le hk;rw[Nat.min_eq_right (by omega),hm];apply Nat.gcd_eq_right
  rw[Nat.pow_add,Nat.mul_assoc];exact Nat.dvd_mul_right _ _
theorem q3i{a b:Nat}(ha:0<a)(hb:0<b)(e:tz b+1=bl b):Nat.gcd a b=1*2^min (tz a) (tz b):=by
 have:=q5T hb e
 conv=>lhs;rw[this]
 rw[Nat.one_mul,q58 ha]
end Go.Proofs.YtcdimmblnbkjjaaGreatDoor
