/- Lemmas. -/
import Derived.Test.YtabcgemembkkcaaGreatDoorDigsAB
set_option linter.all false
namespace Go.Proofs.YtabcgemembkkcaaGreatDoor
section
open Go
theorem qaL(x y t:Nat)(h:y<2^t)(hx:x*2^t+y<18446744073709551616):bits .or .u64 ((x*2^t:Nat):Int) (y:Int)=((x*2^t+y:Nat):Int):=by rw[u64_or_nat _ _ (by omega) (by omega),k0g x,k1p h]
theorem q44(x r:Nat)(h:x*2^r<18446744073709551616):IntKind.u64.wrap ((x:Int)*2^r)=((x*2^r:Nat):Int):=by
 have a:(x:Int)*2^r=((x*2^r:Nat):Int):=by rw[k0f,k0C];rfl
 rw[IntKind.wrap_u64,a];omega
theorem q7h{N k s:Nat}(hs:s<32)(hN:N<2^(32*k+s+60)):N/2^(32*k+s)=nth (toL N) (k+2)*2^(64-s)+nth (toL N) (k+1)*2^(32-s)+nth (toL N) k/2^s/\nth (toL N) (k+2)*2^(64-s)<2^60:=by
 have a:N/2^(32*k+s)=N/4294967296^k/2^s:=by rw[k0e,<- k0h,k1r]
 have i:N/4294967296^k<2^s*2^60:=by
  apply k0s;have:4294967296^k*(2^s*2^60)=2^(32*k+s+60):=by rw[k0e,k0e,k1r,k0j]
  rw[this];exact hN
 rw[a,q19,q19,q19];have b:N/4294967296^(k+1)=N/4294967296^k/4294967296:=by rw[k0d,<- k0h]
 have c:N/4294967296^(k+2)=N/4294967296^k/4294967296/4294967296:=by rw[k0d,k0d,<- k0h,<- k0h]
 rw[b,c];clear a b c hN;generalize N/4294967296^k=P at *
 have d:2^s*2^(32-s)=4294967296:=by rw[<- k0e,show s+(32-s)=32 by omega]
 have p2:2^(64-s)=2^(32-s)*4294967296:=by rw[show 64-s=32-s+32 by omega,k0e]
 have g:2^s<=2^31:=k00 (by omega) (by omega);have j:P/4294967296/4294967296<4294967296:=by have:2^s*2^60<=2^31*2^60:=k0y _ g;omega
 rw[k0E j,p2];generalize hA:(2^s:Nat)=A at *
 generalize hC:(2^(32-s):Nat)=C at *
 have h:0<A:=by rw[<- hA];exact k0a _
 have l:P=P%4294967296+4294967296*(P/4294967296%4294967296)+4294967296*(4294967296*(P/4294967296/4294967296)):=by omega
 generalize P%4294967296=w0 at *
 generalize P/4294967296%4294967296=w1 at *
 generalize P/4294967296/4294967296=w2 at *
 subst l;have m:A*(C*w1)=4294967296*w1:=by rw[<- k0j,d]
 have e:A*(C*(4294967296*w2))=4294967296*(4294967296*w2):=by rw[<- k0j,d]
 have f:C*(4294967296*w2)=w2*(C*4294967296):=by rw[k0g w2,k0j]
 refine⟨?_,?_⟩
 ·have n:w0+4294967296*w1+4294967296*(4294967296*w2)=w0+A*(C*w1+C*(4294967296*w2)):=by rw[k0u,m,e,k1M]
  rw[n,k21 _ _ h,f,k0g C w1];omega
 ·have o:A*(w2*(C*4294967296))<A*2^60:=by rw[<- f,e];refine k0I ?_ i;omega
  exact k1t o
theorem q40{U:List Nat}{k:Nat}{A0 B0 p q c x y:Int}{t:Int}(hk:k<U.length)
  (hinv:((val (U.take k):Nat):Int)+4294967296^k*c=p*A0+q*B0) (ht:t=p*x+q*y+c) :
  ((val ((U.set k (t%4294967296).toNat).take (k+1)):Nat):Int)+4294967296^(k+1)*(t/4294967296)=p*(A0+4294967296^k*x)+q*(B0+4294967296^k*y):=by
 rw[q0j U k _ hk,k1o,k0f,k0C,Int.pow_succ];have a:((t%4294967296).toNat:Int)=t%4294967296:=k19 (Int.emod_nonneg _ (by omega));rw[a];have b:t%4294967296+4294967296*(t/4294967296)=t:=Int.emod_add_mul_ediv t 4294967296;show _+(4294967296:Int)^k*_+_=_;generalize (4294967296:Int)^k=X at *
 have d:X*4294967296*(t/4294967296)=X*(4294967296*(t/4294967296)):=Int.mul_assoc _ _ _;rw[d,Int.add_assoc,<- k2Y,b,ht,k2Y,k2Y,k2Y,k2Y];have e:p*(X*x)=X*(p*x):=by rw[Int.mul_left_comm]
 have f:q*(X*y)=X*(q*y):=by rw[Int.mul_left_comm]
 rw[e,f];omega
theorem q8p{U:List Nat}{n:Nat}{R:Nat}{c:Int}(hl:U.length=n+1)(hlim:Lim U)(hR:R<4294967296^n)
  (hinv:((val (U.take n):Nat):Int)+4294967296^n*c=(R:Int)):c=0/\val (U.set n (c%4294967296).toNat)=R:=by
 have a:val (U.take n)<4294967296^n:=by have:=q0Y (q0C hlim n);rw[k0v,hl,k0Y (by omega)] at this;exact this
 have g:(0:Int)<4294967296^n:=Int.pow_pos (by omega);have e:((val (U.take n):Nat):Int)<4294967296^n:=by have:((4294967296^n:Nat):Int)=(4294967296:Int)^n:=k0C _ _;rw[<- this];exact Int.ofNat_lt.2 a
 have f:(R:Int)<4294967296^n:=by have:((4294967296^n:Nat):Int)=(4294967296:Int)^n:=k0C _ _;rw[<- this];exact Int.ofNat_lt.2 hR
 generalize (4294967296:Int)^n=X at *
 have b:c=0:=by
  have i:c<1:=by apply Int.lt_of_not_ge;intro h;have:X*1<=X*c:=k1F h (by omega);omega
  have j:-1<c:=by apply Int.lt_of_not_ge;intro h;have:X*c<=X*(-1):=k1F h (by omega);omega
  omega
 subst b;refine⟨rfl,?_⟩;have d:val (U.set n 0)=val ((U.set n 0).take (n+1)):=by rw[k0D (by rw[k0c];omega)]
 show val (U.set n 0)=R;rw[d,q0j U n 0 (by omega)];omega
end
end Go.Proofs.YtabcgemembkkcaaGreatDoor
