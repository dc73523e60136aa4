/- Lemmas. -/
import Derived.Test.YtabcgemembkkcaaGreatDoorDigsBB
import Derived.Test.YtabcgemembkkcaaGreatDoorDigsBI
set_option linter.all false
namespace Go.Proofs.YtabcgemembkkcaaGreatDoor
namespace Sh
open Go
def tw(k:Int):Rat:=mkRat (p2 k:Nat) (p2 (-k))
theorem q4H(k:Int):tw k=(2:Rat)^k:=by
 unfold tw;rcases k3f 0 k with h|h
 ·obtain⟨n,rfl⟩:=k2N h;rw[q0s (n:=-(n:Int)) (by omega),k2n,k2p,q1D,k0J,k2w];rfl
 ·obtain⟨n,rfl⟩:∃n:Nat,k = -(n:Int):=⟨(-k).toNat,by omega⟩;rw[q0s (n:=-(n:Int)) (by omega),Int.neg_neg,Rat.zpow_neg,k2p,k35,q1D,k2w,Rat.div_def];show(1:Rat)*_=_;rw[k2x];rfl
theorem tw_pos(k:Int):0<tw k:=by rw[q4H];exact Rat.zpow_pos (by decide)
theorem q5T(a b:Int):tw (a+b)=tw a*tw b:=by rw[q4H,q4H,q4H,Rat.zpow_add (by decide)]
theorem qbQ:tw 1=2:=rfl
theorem qbR(k:Int):tw (-k)*tw k=1:=by rw[<- q5T,Int.add_left_neg];rfl
theorem q9W(n:Nat):tw n=((2^n:Nat):Rat):=by rw[q4H,k2p,k2w];rfl
theorem q3d(k:Int):tw k=tw (k-1)+tw (k-1):=by
 have:tw k=tw (k-1)*tw 1:=by rw[<- q5T];congr 1;omega
 rw[this,qbQ];grind
def dq(N:Nat)(x:Int):Rat:=(N:Rat)*tw x
theorem q1n(x:Int):dq 0 x=0:=by unfold dq;rw[show((0:Nat):Rat)=0 from rfl,Rat.zero_mul]
theorem q6l{N:Nat}(h:0<N)(x:Int):0<dq N x:=Rat.mul_pos (by exact_mod_cast h) (tw_pos x)
theorem q2E(N:Nat)(k:Nat)(x:Int):dq (N*2^k) x=dq N (x+k):=by unfold dq;rw[Int.add_comm,q5T,<- k1T,q9W,<- k2V]
theorem qcF(N:Nat)(z x:Int)(h:0<=z):dq (N*p2 z) x=dq N (x+z):=by obtain⟨n,rfl⟩:=k2N h;rw[q1D,q2E]
theorem q2F(N M:Nat)(x:Int):dq (N+M) x=dq N x+dq M x:=by unfold dq;rw[k2U,Rat.add_mul]
theorem q6m(N M:Nat)(x y:Int):dq (N*p2 (x-y)+M*p2 (y-x)) (min x y)=dq N x+dq M y:=by
 rw[q2F];rcases k3f x y with h|h
 ·rw[q0s (n:=x-y) (by omega),k0G,qcF _ _ _ (by omega),Int.min_eq_left h,show x+(y-x)=y by omega]
 ·rw[q0s (n:=y-x) (by omega),k0G,qcF _ _ _ (by omega),Int.min_eq_right h,show y+(x-y)=x by omega]
theorem qad{N M:Nat}{x:Int}(h:dq N x=dq M x):N=M:=by
 unfold dq at h;have a:(N:Rat)*tw x*tw (-x)=(M:Rat)*tw x*tw (-x):=by rw[h]
 rw[k1T,k1T,k31 (tw x),qbR,k1Z,k1Z] at a
 exact_mod_cast a
theorem q3k{N K:Nat}{x p:Int}(hN:N%2=1)(hK:0<K)(h:dq N x=dq K p):N<=K/\p<=x/\x<=p+bl K:=by
 rcases k3f p x with hx|hx
 ·obtain⟨k,rfl⟩:∃k:Nat,x=p+k:=⟨(x-p).toNat,by omega⟩;rw[<- q2E] at h;have e:=qad h;have b:N*1<=N*2^k:=k0m _ (k0a k);have d:1*2^k<=N*2^k:=k0y _ (by omega);have f:=q0O K;refine⟨by omega,by omega,?_⟩;rcases k0A k (bl K+1) with a|a
  ·omega
  ·have:=k00 (n:=2) (by decide) (Nat.le_of_succ_le a);omega
 ·obtain⟨k,rfl⟩:∃k:Nat,p=x+k:=⟨(p-x).toNat,by omega⟩;rw[<- q2E] at h;have e:=qad h;rcases k01 k with rfl|a
  ·rw[k0B,k0G] at e;subst e;exact⟨lr,by omega,by omega⟩
  ·exfalso;obtain⟨c,rfl⟩:∃c,k=c+1:=⟨k-1,by omega⟩;rw[k0d,<- k0j] at e;omega
theorem qcG(N:Nat)(x:Int):dq N x=mkRat ((N*p2 x:Nat):Int) (p2 (-x)):=by
 unfold dq tw
 conv=>lhs;lhs;rw[show(N:Rat)=mkRat (N:Int) 1 by rw[k2n,k0J]]
 rw[Rat.mkRat_mul_mkRat,k0S,k0f]
def mgN(F m:Nat):Nat:=Go.Proofs.YtabcgemembkkcaaGreatDoor.Exa.mantOf F (m/2^F) (m%2^F)
def mgX(E F m:Nat):Int:=Go.Proofs.YtabcgemembkkcaaGreatDoor.Exa.powOf E F (m/2^F)
def wv(E F m:Nat):Rat:=dq (mgN F m) (mgX E F m)
structure Edges where
 inner:Rat
 outer:Rat
 ii:Bool
 oi:Bool
def seen(mode:Nat)(neg:Bool):Nat:=if(mode=3/\neg=true)\/(mode=4/\neg=false) then 2 else if mode=4 then 3 else mode
def before(E F m:Nat):Rat:=if m=0 then wv E F m else wv E F (m-1)
def after(E F m:Nat):Rat:=wv E F m+tw (mgX E F m)
def q0D(E F m mode:Nat):Edges:=
 if mode=2 then⟨wv E F m,after E F m,true,false⟩
 else if mode=3 then⟨before E F m,wv E F m,m==0,true⟩
 else if mode=1 then⟨(before E F m+wv E F m)/2,(wv E F m+after E F m)/2,true,false⟩
 else⟨(before E F m+wv E F m)/2,(wv E F m+after E F m)/2,m%2==0,m%2==0⟩
def q0o(E F b:Nat):Nat:=b%2^(E+F)
def q1v(E F b:Nat):Bool:=decide (2^(E+F)<=b)
def q0w(E F b mode:Nat):Span:=
 let e:=q0D E F (q0o E F b) (seen mode (q1v E F b))
 if q1v E F b then⟨-e.outer,-e.inner,e.oi,e.ii⟩ else⟨e.inner,e.outer,e.ii,e.oi⟩
def q2k(E F b:Nat):Rat:=if q1v E F b then -wv E F (q0o E F b) else wv E F (q0o E F b)
theorem q3p(F m:Nat):mgN F m<2^(F+1):=by unfold mgN Go.Proofs.YtabcgemembkkcaaGreatDoor.Exa.mantOf;have:=k0i m (k0a F);rw[k0d];split<;>omega
theorem q5t{F m:Nat}(h:0<m):0<mgN F m:=by
 unfold mgN Go.Proofs.YtabcgemembkkcaaGreatDoor.Exa.mantOf;have:=k0a F;split
 ·rename_i h0;have:=k0F m (2^F);rw[h0,k1m] at this;omega
 ·omega
theorem q2W{E F m:Nat}(h1:2<=E)(h2:E<=11)(h4:F<=52)(hm:m<2^(E+F)):-1100<=mgX E F m/\mgX E F m<=2050:=by
 have a:m/2^F<2^E:=k0s (by rw[<- k0e,k0Z];exact hm);have b:2^E<=2^11:=k00 (by decide) h2;have c:2^(E-1)<=2^10:=k00 (by decide) (by omega);unfold mgX Go.Proofs.YtabcgemembkkcaaGreatDoor.Exa.powOf;generalize m/2^F=x at *
 generalize 2^(E-1)=P at *
 split<;>omega
theorem q1Y(E F m:Nat)(h:0<m):∃K:Nat,∃p:Int,before E F m=dq K p/\K<2^(F+1)/\(p=mgX E F m\/p=mgX E F m-1)/\wv E F m=before E F m+tw p:=by
 have f:=k0a F;have d:=k0F m (2^F);have i:=k0i m f;refine⟨mgN F (m-1),mgX E F (m-1),?_,q3p _ _,?_,?_⟩
 ·unfold before wv;rw[k0r (by omega)]
 ·rcases k01 (m%2^F) with b|b
  ·have hx:0<m/2^F:=by
    rcases k01 (m/2^F) with e|e
    ·rw[e,b] at d;omega
    ·exact e
   have a:(m-1)/2^F=m/2^F-1:=by
    refine k1I ?_ ?_
    ·rw[Nat.sub_mul,k0S,k0g];omega
    ·rw[show m/2^F-1+1=m/2^F by omega,k0g];omega
   unfold mgX Go.Proofs.YtabcgemembkkcaaGreatDoor.Exa.powOf;rw[a];split<;>split<;>omega
  ·left;have a:(m-1)/2^F=m/2^F:=by
    refine k1I ?_ ?_
    ·rw[k0g];omega
    ·rw[k1f,k0S,k0g];omega
   unfold mgX;rw[a]
 ·rcases k01 (m%2^F) with b|b
  ·have hx:0<m/2^F:=by
    rcases k01 (m/2^F) with e|e
    ·rw[e,b] at d;omega
    ·exact e
   have a:(m-1)/2^F=m/2^F-1:=by
    refine k1I ?_ ?_
    ·rw[Nat.sub_mul,k0S,k0g];omega
    ·rw[show m/2^F-1+1=m/2^F by omega,k0g];omega
   have c:(m-1)%2^F=2^F-1:=by have k:=k0F (m-1) (2^F);rw[a,Nat.mul_sub,k0G] at k;have:2^F*1<=2^F*(m/2^F):=k0m _ hx;omega
   unfold before wv;rw[k0r (by omega)];unfold mgN mgX;rw[a,c,b];unfold Go.Proofs.YtabcgemembkkcaaGreatDoor.Exa.mantOf Go.Proofs.YtabcgemembkkcaaGreatDoor.Exa.powOf;rcases k0A (m/2^F) 2 with k|k
   ·rw[show m/2^F=1 by omega];simp only[Nat.sub_self,k3e,k39,Nat.one_ne_zero,k10];unfold dq;rw[show(2:Int)-((2^(E-1):Nat):Int)-(F:Int)+(((1:Nat):Int)-1)=2-((2^(E-1):Nat):Int)-(F:Int)+0 by omega];rw[show((2^F:Nat):Rat)=((2^F-1:Nat):Rat)+1 by rw[show(2^F:Nat)=(2^F-1)+1 by omega,k2U,k0T];rfl]
    grind
   ·rw[k0r (by omega),k0r (by omega),k0r (by omega),k0r (by omega)];rw[show(2:Int)-((2^(E-1):Nat):Int)-(F:Int)+(((m/2^F:Nat):Int)-1)=(2-((2^(E-1):Nat):Int)-(F:Int)+(((m/2^F-1:Nat):Int)-1))+(1:Nat) by omega,<- q2E,k10];unfold dq;rw[show(2^F*2^1:Nat)=(2^F-1+2^F)+1 by omega,k2U];show _=_;rw[show((1:Nat):Rat)=1 from rfl]
    grind
  ·have a:(m-1)/2^F=m/2^F:=by
    refine k1I ?_ ?_
    ·rw[k0g];omega
    ·rw[k1f,k0S,k0g];omega
   have c:(m-1)%2^F=m%2^F-1:=by have k:=k0F (m-1) (2^F);rw[a] at k;omega
   unfold before wv;rw[k0r (by omega)];unfold mgN mgX;rw[a,c];have g:Go.Proofs.YtabcgemembkkcaaGreatDoor.Exa.mantOf F (m/2^F) (m%2^F)=Go.Proofs.YtabcgemembkkcaaGreatDoor.Exa.mantOf F (m/2^F) (m%2^F-1)+1:=by unfold Go.Proofs.YtabcgemembkkcaaGreatDoor.Exa.mantOf;split<;>omega
   rw[g,q2F];unfold dq;rw[show((1:Nat):Rat)=1 from rfl,k2x]
theorem q8u{E F m:Nat}(h:0<m):before E F m<wv E F m:=by
 obtain⟨K,p,-,-,-,e⟩:=q1Y E F m h;have:=tw_pos p
 grind
theorem q9k(E F m:Nat):wv E F m<after E F m:=by
 unfold after;have:=tw_pos (mgX E F m)
 grind
theorem q9B(E F m mode:Nat)(hm:0<m):(q0D E F m mode).inner<(q0D E F m mode).outer/\((q0D E F m mode).inner<wv E F m\/(q0D E F m mode).inner=wv E F m/\(q0D E F m mode).ii=true)/\(wv E F m<(q0D E F m mode).outer\/wv E F m=(q0D E F m mode).outer/\(q0D E F m mode).oi=true):=by
 have a:=q8u (E:=E) (F:=F) hm;have b:=q9k E F m;unfold q0D;split
 ·exact⟨b,.inr ⟨rfl,rfl⟩,.inl b⟩
 ·split
  ·exact⟨a,.inl a,.inr ⟨rfl,rfl⟩⟩
  ·split
   ·dsimp only;exact⟨by grind,.inl (by grind),.inl (by grind)⟩
   ·dsimp only;exact⟨by grind,.inl (by grind),.inl (by grind)⟩
theorem q4g(E F b mode:Nat)(hm:0<q0o E F b):(q0w E F b mode).lo<(q0w E F b mode).hi/\(q0w E F b mode).has (q2k E F b)=true:=by
 obtain⟨d,a,c⟩:=q9B E F (q0o E F b) (seen mode (q1v E F b)) hm;unfold q0w q2k;generalize q0D E F (q0o E F b) (seen mode (q1v E F b))=e at *
 cases q1v E F b
 ·simp only[k1B,k39];exact⟨d,(Span.has_iff _ _).2 ⟨a,c⟩⟩
 ·simp only[k3e];refine⟨by grind,(Span.has_iff _ _).2 ⟨?_,?_⟩⟩
  ·rcases c with h|⟨h,k⟩
   ·exact .inl (by grind)
   ·exact .inr ⟨by grind,k⟩
  ·rcases a with h|⟨h,k⟩
   ·exact .inl (by grind)
   ·exact .inr ⟨by grind,k⟩
theorem qar{M N:Nat}(h:M<=N)(e:Int):wo M e<=wo N e:=by unfold wo;exact k1q (by exact_mod_cast h) (k1w (q23 e))
end Sh
end Go.Proofs.YtabcgemembkkcaaGreatDoor
