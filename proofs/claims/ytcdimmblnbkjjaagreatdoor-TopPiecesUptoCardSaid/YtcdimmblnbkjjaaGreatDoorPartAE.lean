/- Lemmas. -/
import Derived.Test.YtcdimmblnbkjjaaGreatDoorPartAB
import Derived.Laws.BitsAllLaws
set_option linter.all false
namespace Go.Proofs.YtcdimmblnbkjjaaGreatDoor
open Go
theorem qaP(x y t:Nat)(h:y<2^t)(hx:x*2^t+y<18446744073709551616):bits .or .u64 ((x*2^t:Nat):Int) (y:Int)=((x*2^t+y:Nat):Int):=by
 rw[u64_or_nat _ _ (by omega) (by omega),Nat.mul_comm x,Nat.two_pow_add_eq_or_of_lt h]
theorem q2f(x r:Nat)(h:x*2^r<18446744073709551616):IntKind.u64.wrap ((x:Int)*2^r)=((x*2^r:Nat):Int):=by
 have e0:(x:Int)*2^r=((x*2^r:Nat):Int):=by rw[Int.natCast_mul,Int.natCast_pow];rfl
 rw[IntKind.wrap_u64,e0];omega
theorem q6u{N k s:Nat}(hs:s<32)(hN:N<2^(32*k+s+60)):
  N/2^(32*k+s)=nth (toL N) (k+2)*2^(64-s)+nth (toL N) (k+1)*2^(32-s)+nth (toL N) k/2^s/\nth (toL N) (k+2)*2^(64-s)<2^60:=by
 have e1:N/2^(32*k+s)=N/4294967296^k/2^s:=by rw[Nat.pow_add,<- Nat.div_div_eq_div_mul,Nat.pow_mul]
 have e2:N/4294967296^k<2^s*2^60:=by
  apply Nat.div_lt_of_lt_mul
  have:4294967296^k*(2^s*2^60)=2^(32*k+s+60):=by rw[Nat.pow_add,Nat.pow_add,Nat.pow_mul,Nat.mul_assoc]
  rw[this];exact hN
 rw[e1,q0V,q0V,q0V];have e3:N/4294967296^(k+1)=N/4294967296^k/4294967296:=by rw[Nat.pow_succ,<- Nat.div_div_eq_div_mul]
 have e4:N/4294967296^(k+2)=N/4294967296^k/4294967296/4294967296:=by rw[Nat.pow_succ,Nat.pow_succ,<- Nat.div_div_eq_div_mul,<- Nat.div_div_eq_div_mul]
 rw[e3,e4];clear e1 e3 e4 hN;generalize N/4294967296^k=P at *
 have p1:2^s*2^(32-s)=4294967296:=by rw[<- Nat.pow_add,show s+(32-s)=32 by omega]
 have p2:2^(64-s)=2^(32-s)*4294967296:=by rw[show 64-s=32-s+32 by omega,Nat.pow_add]
 have a0:2^s<=2^31:=Nat.pow_le_pow_right (by omega) (by omega);have e5:P/4294967296/4294967296<4294967296:=by
  have:2^s*2^60<=2^31*2^60:=Nat.mul_le_mul_right _ a0;omega
 rw[Nat.mod_eq_of_lt e5,p2];generalize hA:(2^s:Nat)=A at *
 generalize hC:(2^(32-s):Nat)=C at *
 have a1:0<A:=by rw[<- hA];exact Nat.two_pow_pos _
 have hP:P=P%4294967296+4294967296*(P/4294967296%4294967296)+4294967296*(4294967296*(P/4294967296/4294967296)):=by omega
 generalize P%4294967296=w0 at *
 generalize P/4294967296%4294967296=w1 at *
 generalize P/4294967296/4294967296=w2 at *
 subst hP;have m1:A*(C*w1)=4294967296*w1:=by rw[<- Nat.mul_assoc,p1]
 have m2:A*(C*(4294967296*w2))=4294967296*(4294967296*w2):=by rw[<- Nat.mul_assoc,p1]
 have m3:C*(4294967296*w2)=w2*(C*4294967296):=by rw[Nat.mul_comm w2,Nat.mul_assoc]
 refine⟨?_,?_⟩
 ·have d1:w0+4294967296*w1+4294967296*(4294967296*w2)=w0+A*(C*w1+C*(4294967296*w2)):=by rw[Nat.mul_add,m1,m2,Nat.add_assoc]
  rw[d1,Nat.add_mul_div_left _ _ a1,m3,Nat.mul_comm C w1];omega
 ·have h2:A*(w2*(C*4294967296))<A*2^60:=by
   rw[<- m3,m2];refine Nat.lt_of_le_of_lt ?_ e2;omega
  exact Nat.lt_of_mul_lt_mul_left h2
theorem q3P{U:List Nat}{k:Nat}{A0 B0 p q c x y:Int}{t:Int}(hk:k<U.length)
  (hinv:((val (U.take k):Nat):Int)+4294967296^k*c=p*A0+q*B0) (ht:t=p*x+q*y+c) :
  ((val ((U.set k (t%4294967296).toNat).take (k+1)):Nat):Int)+4294967296^(k+1)*(t/4294967296)=p*(A0+4294967296^k*x)+q*(B0+4294967296^k*y):=by
 rw[q0g U k _ hk,Int.natCast_add,Int.natCast_mul,Int.natCast_pow,Int.pow_succ];have h0:((t%4294967296).toNat:Int)=t%4294967296:=Int.toNat_of_nonneg (Int.emod_nonneg _ (by omega));rw[h0];have h1:t%4294967296+4294967296*(t/4294967296)=t:=Int.emod_add_mul_ediv t 4294967296;show _+(4294967296:Int)^k*_+_=_;generalize (4294967296:Int)^k=X at *
 have h2:X*4294967296*(t/4294967296)=X*(4294967296*(t/4294967296)):=Int.mul_assoc _ _ _;rw[h2,Int.add_assoc,<- Int.mul_add,h1,ht,Int.mul_add,Int.mul_add,Int.mul_add,Int.mul_add];have h3:p*(X*x)=X*(p*x):=by rw[Int.mul_left_comm]
 have h4:q*(X*y)=X*(q*y):=by rw[Int.mul_left_comm]
 rw[h3,h4];omega
theorem q7x{U:List Nat}{n:Nat}{R:Nat}{c:Int}(hl:U.length=n+1)(hlim:Lim U)(hR:R<4294967296^n)
  (hinv:((val (U.take n):Nat):Int)+4294967296^n*c=(R:Int)):c=0/\val (U.set n (c%4294967296).toNat)=R:=by
 have hv:val (U.take n)<4294967296^n:=by
  have:=q0G (q0t hlim n);rw[List.length_take,hl,Nat.min_eq_left (by omega)] at this;exact this
 have hX:(0:Int)<4294967296^n:=Int.pow_pos (by omega);have a0:((val (U.take n):Nat):Int)<4294967296^n:=by
  have:((4294967296^n:Nat):Int)=(4294967296:Int)^n:=Int.natCast_pow _ _;rw[<- this];exact Int.ofNat_lt.2 hv
 have a1:(R:Int)<4294967296^n:=by
  have:((4294967296^n:Nat):Int)=(4294967296:Int)^n:=Int.natCast_pow _ _;rw[<- this];exact Int.ofNat_lt.2 hR
 generalize (4294967296:Int)^n=X at *
 have c0:c=0:=by
  have h1:c<1:=by
   apply Int.lt_of_not_ge
   intro h;have:X*1<=X*c:=Int.mul_le_mul_of_nonneg_left h (by omega);omega
  have h2:-1<c:=by
   apply Int.lt_of_not_ge
   intro h;have:X*c<=X*(-1):=Int.mul_le_mul_of_nonneg_left h (by omega);omega
  omega
 subst c0;refine⟨rfl,?_⟩;have e1:val (U.set n 0)=val ((U.set n 0).take (n+1)):=by rw[List.take_of_length_le (by rw[List.length_set];omega)]
 show val (U.set n 0)=R;rw[e1,q0g U n 0 (by omega)];omega
end Go.Proofs.YtcdimmblnbkjjaaGreatDoor
