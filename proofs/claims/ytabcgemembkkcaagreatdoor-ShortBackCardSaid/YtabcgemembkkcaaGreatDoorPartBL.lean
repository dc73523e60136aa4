/- Lemmas. -/
import Derived.Test.YtabcgemembkkcaaGreatDoorPartBC
import Derived.Test.YtabcgemembkkcaaGreatDoorPartBJ
set_option linter.all false
namespace Go.Proofs.YtabcgemembkkcaaGreatDoor
namespace Sh
open Go
def tw(k:Int):Rat:=mkRat (p2 k:Nat) (p2 (-k))
theorem q4J(k:Int):tw k=(2:Rat)^k:=by
 unfold tw;rcases k2T 0 k with h|h
 ·obtain⟨n,rfl⟩:=k2C h;rw[q0c (n:=-(n:Int)) (by omega),k2b,k2d,q1a,k16,k2j];rfl
 ·obtain⟨n,rfl⟩:∃n:Nat,k = -(n:Int):=⟨(-k).toNat,by omega⟩;rw[q0c (n:=-(n:Int)) (by omega),Int.neg_neg,Rat.zpow_neg,k2d,Rat.mkRat_eq_div,q1a,k2j,Rat.div_def];show(1:Rat)*_=_;rw[k2x];rfl
theorem tw_pos(k:Int):0<tw k:=by rw[q4J];exact Rat.zpow_pos (by decide)
theorem q6V(a b:Int):tw (a+b)=tw a*tw b:=by rw[q4J,q4J,q4J,Rat.zpow_add (by decide)]
theorem qbf:tw 1=2:=rfl
theorem qbg(k:Int):tw (-k)*tw k=1:=by rw[<- q6V,Int.add_left_neg];rfl
theorem qbh(n:Nat):tw n=((2^n:Nat):Rat):=by rw[q4J,k2d,k2j];rfl
theorem q6U(k:Int):tw k=tw (k-1)+tw (k-1):=by
 have:tw k=tw (k-1)*tw 1:=by rw[<- q6V];congr 1;omega
 rw[this,qbf];grind
def dq(N:Nat)(x:Int):Rat:=(N:Rat)*tw x
theorem q2w(x:Int):dq 0 x=0:=by unfold dq;rw[show((0:Nat):Rat)=0 from rfl,Rat.zero_mul]
theorem qbU{N:Nat}(h:0<N)(x:Int):0<dq N x:=Rat.mul_pos (by exact_mod_cast h) (tw_pos x)
theorem q2K(N:Nat)(k:Nat)(x:Int):dq (N*2^k) x=dq N (x+k):=by unfold dq;rw[Int.add_comm,q6V,<- k1B,qbh,<- Rat.natCast_mul]
theorem qbV(N:Nat)(z x:Int)(h:0<=z):dq (N*p2 z) x=dq N (x+z):=by obtain⟨n,rfl⟩:=k2C h;rw[q1a,q2K]
theorem q2L(N M:Nat)(x:Int):dq (N+M) x=dq N x+dq M x:=by unfold dq;rw[k2R,Rat.add_mul]
theorem q98(N M:Nat)(x y:Int):dq (N*p2 (x-y)+M*p2 (y-x)) (min x y)=dq N x+dq M y:=by
 rw[q2L];rcases k2T x y with h|h
 ·rw[q0c (n:=x-y) (by omega),k0u,qbV _ _ _ (by omega),Int.min_eq_left h,show x+(y-x)=y by omega]
 ·rw[q0c (n:=y-x) (by omega),k0u,qbV _ _ _ (by omega),Int.min_eq_right h,show y+(x-y)=x by omega]
theorem q9E{N M:Nat}{x:Int}(h:dq N x=dq M x):N=M:=by
 unfold dq at h;have a:(N:Rat)*tw x*tw (-x)=(M:Rat)*tw x*tw (-x):=by rw[h]
 rw[k1B,k1B,k2K (tw x),qbg,k2c,k2c] at a
 exact_mod_cast a
theorem q7n{N K:Nat}{x p:Int}(hN:N%2=1)(hK:0<K)(h:dq N x=dq K p):N<=K/\p<=x/\x<=p+bl K:=by
 rcases k2T p x with hx|hx
 ·obtain⟨k,rfl⟩:∃k:Nat,x=p+k:=⟨(x-p).toNat,by omega⟩;rw[<- q2K] at h;have e:=q9E h;have b:N*1<=N*2^k:=k0g _ (k0c k);have d:1*2^k<=N*2^k:=k0n _ (by omega);have f:=q0S K;refine⟨by omega,by omega,?_⟩;rcases k0A k (bl K+1) with a|a
  ·omega
  ·have:=k04 (n:=2) (by decide) (Nat.le_of_succ_le a);omega
 ·obtain⟨k,rfl⟩:∃k:Nat,p=x+k:=⟨(p-x).toNat,by omega⟩;rw[<- q2K] at h;have e:=q9E h;rcases k01 k with rfl|a
  ·rw[k0E,k0u] at e;subst e;exact⟨lr,by omega,by omega⟩
  ·exfalso;obtain⟨c,rfl⟩:∃c,k=c+1:=⟨k-1,by omega⟩;rw[k0a,<- k0h] at e;omega
theorem qbW(N:Nat)(x:Int):dq N x=mkRat ((N*p2 x:Nat):Int) (p2 (-x)):=by
 unfold dq tw
 conv=>lhs;lhs;rw[show(N:Rat)=mkRat (N:Int) 1 by rw[k2b,k16]]
 rw[Rat.mkRat_mul_mkRat,k0J,k07]
def mgN(F m:Nat):Nat:=Go.Proofs.YtabcgemembkkcaaGreatDoor.Exa.mantOf F (m/2^F) (m%2^F)
def mgX(E F m:Nat):Int:=Go.Proofs.YtabcgemembkkcaaGreatDoor.Exa.powOf E F (m/2^F)
def wv(E F m:Nat):Rat:=dq (mgN F m) (mgX E F m)
structure Edges where
 inner:Rat
 outer:Rat
 ii:Bool
 oi:Bool
def seen(mode:Nat)(neg:Bool):Nat:=if(mode=3/\neg=true)\/(mode=4/\neg=false) then 2 else if mode=4 then 3 else mode
def before(E F m:Nat):Rat:=if m=0 then wv E F m else wv E F (m-1)
def after(E F m:Nat):Rat:=wv E F m+tw (mgX E F m)
def q1j(E F m mode:Nat):Edges:=
 if mode=2 then⟨wv E F m,after E F m,true,false⟩
 else if mode=3 then⟨before E F m,wv E F m,m==0,true⟩
 else if mode=1 then⟨(before E F m+wv E F m)/2,(wv E F m+after E F m)/2,true,false⟩
 else⟨(before E F m+wv E F m)/2,(wv E F m+after E F m)/2,m%2==0,m%2==0⟩
def q2v(E F b:Nat):Nat:=b%2^(E+F)
def q2R(E F b:Nat):Bool:=decide (2^(E+F)<=b)
def q1g(E F b mode:Nat):Span:=
 let e:=q1j E F (q2v E F b) (seen mode (q2R E F b))
 if q2R E F b then⟨-e.outer,-e.inner,e.oi,e.ii⟩ else⟨e.inner,e.outer,e.ii,e.oi⟩
def q6M(E F b:Nat):Rat:=if q2R E F b then -wv E F (q2v E F b) else wv E F (q2v E F b)
theorem q5W(F m:Nat):mgN F m<2^(F+1):=by unfold mgN Go.Proofs.YtabcgemembkkcaaGreatDoor.Exa.mantOf;have:=k0l m (k0c F);rw[k0a];split<;>omega
theorem qag{F m:Nat}(h:0<m):0<mgN F m:=by
 unfold mgN Go.Proofs.YtabcgemembkkcaaGreatDoor.Exa.mantOf;have:=k0c F;split
 ·rename_i h0;have:=k0M m (2^F);rw[h0,k1h] at this;omega
 ·omega
theorem q4W{E F m:Nat}(h1:2<=E)(h2:E<=11)(h4:F<=52)(hm:m<2^(E+F)):-1100<=mgX E F m/\mgX E F m<=2050:=by
 have a:m/2^F<2^E:=k0w (by rw[<- k0i,k0V];exact hm);have b:2^E<=2^11:=k04 (by decide) h2;have c:2^(E-1)<=2^10:=k04 (by decide) (by omega);unfold mgX Go.Proofs.YtabcgemembkkcaaGreatDoor.Exa.powOf;generalize m/2^F=x at *
 generalize 2^(E-1)=P at *
 split<;>omega
theorem q2z(E F m:Nat)(h:0<m):∃K:Nat,∃p:Int,before E F m=dq K p/\K<2^(F+1)/\(p=mgX E F m\/p=mgX E F m-1)/\wv E F m=before E F m+tw p:=by
 have f:=k0c F;have d:=k0M m (2^F);have i:=k0l m f;refine⟨mgN F (m-1),mgX E F (m-1),?_,q5W _ _,?_,?_⟩
 ·unfold before wv;rw[k0t (by omega)]
 ·rcases k01 (m%2^F) with b|b
  ·have hx:0<m/2^F:=by
    rcases k01 (m/2^F) with e|e
    ·rw[e,b] at d;omega
    ·exact e
   have a:(m-1)/2^F=m/2^F-1:=by
    refine k1V ?_ ?_
    ·rw[Nat.sub_mul,k0J,k0b];omega
    ·rw[show m/2^F-1+1=m/2^F by omega,k0b];omega
   unfold mgX Go.Proofs.YtabcgemembkkcaaGreatDoor.Exa.powOf;rw[a];split<;>split<;>omega
  ·left;have a:(m-1)/2^F=m/2^F:=by
    refine k1V ?_ ?_
    ·rw[k0b];omega
    ·rw[k0Z,k0J,k0b];omega
   unfold mgX;rw[a]
 ·rcases k01 (m%2^F) with b|b
  ·have hx:0<m/2^F:=by
    rcases k01 (m/2^F) with e|e
    ·rw[e,b] at d;omega
    ·exact e
   have a:(m-1)/2^F=m/2^F-1:=by
    refine k1V ?_ ?_
    ·rw[Nat.sub_mul,k0J,k0b];omega
    ·rw[show m/2^F-1+1=m/2^F by omega,k0b];omega
   have c:(m-1)%2^F=2^F-1:=by have k:=k0M (m-1) (2^F);rw[a,Nat.mul_sub,k0u] at k;have:2^F*1<=2^F*(m/2^F):=k0g _ hx;omega
   unfold before wv;rw[k0t (by omega)];unfold mgN mgX;rw[a,c,b];unfold Go.Proofs.YtabcgemembkkcaaGreatDoor.Exa.mantOf Go.Proofs.YtabcgemembkkcaaGreatDoor.Exa.powOf;rcases k0A (m/2^F) 2 with k|k
   ·rw[show m/2^F=1 by omega];simp only[Nat.sub_self,k2S,k2O,Nat.one_ne_zero,k0W];unfold dq;rw[show(2:Int)-((2^(E-1):Nat):Int)-(F:Int)+(((1:Nat):Int)-1)=2-((2^(E-1):Nat):Int)-(F:Int)+0 by omega];rw[show((2^F:Nat):Rat)=((2^F-1:Nat):Rat)+1 by rw[show(2^F:Nat)=(2^F-1)+1 by omega,k2R,k1m];rfl]
    grind
   ·rw[k0t (by omega),k0t (by omega),k0t (by omega),k0t (by omega)];rw[show(2:Int)-((2^(E-1):Nat):Int)-(F:Int)+(((m/2^F:Nat):Int)-1)=(2-((2^(E-1):Nat):Int)-(F:Int)+(((m/2^F-1:Nat):Int)-1))+(1:Nat) by omega,<- q2K,k0W];unfold dq;rw[show(2^F*2^1:Nat)=(2^F-1+2^F)+1 by omega,k2R];show _=_;rw[show((1:Nat):Rat)=1 from rfl]
    grind
  ·have a:(m-1)/2^F=m/2^F:=by
    refine k1V ?_ ?_
    ·rw[k0b];omega
    ·rw[k0Z,k0J,k0b];omega
   have c:(m-1)%2^F=m%2^F-1:=by have k:=k0M (m-1) (2^F);rw[a] at k;omega
   unfold before wv;rw[k0t (by omega)];unfold mgN mgX;rw[a,c];have g:Go.Proofs.YtabcgemembkkcaaGreatDoor.Exa.mantOf F (m/2^F) (m%2^F)=Go.Proofs.YtabcgemembkkcaaGreatDoor.Exa.mantOf F (m/2^F) (m%2^F-1)+1:=by unfold Go.Proofs.YtabcgemembkkcaaGreatDoor.Exa.mantOf;split<;>omega
   rw[g,q2L];unfold dq;rw[show((1:Nat):Rat)=1 from rfl,k2x]
theorem q84{E F m:Nat}(h:0<m):before E F m<wv E F m:=by
 obtain⟨K,p,-,-,-,e⟩:=q2z E F m h;have:=tw_pos p
 grind
theorem q8S(E F m:Nat):wv E F m<after E F m:=by
 unfold after;have:=tw_pos (mgX E F m)
 grind
theorem q94(E F m mode:Nat)(hm:0<m):(q1j E F m mode).inner<(q1j E F m mode).outer/\((q1j E F m mode).inner<wv E F m\/(q1j E F m mode).inner=wv E F m/\(q1j E F m mode).ii=true)/\(wv E F m<(q1j E F m mode).outer\/wv E F m=(q1j E F m mode).outer/\(q1j E F m mode).oi=true):=by
 have a:=q84 (E:=E) (F:=F) hm;have b:=q8S E F m;unfold q1j;split
 ·exact⟨b,.inr ⟨rfl,rfl⟩,.inl b⟩
 ·split
  ·exact⟨a,.inl a,.inr ⟨rfl,rfl⟩⟩
  ·split
   ·dsimp only;exact⟨by grind,.inl (by grind),.inl (by grind)⟩
   ·dsimp only;exact⟨by grind,.inl (by grind),.inl (by grind)⟩
theorem q8D(E F b mode:Nat)(hm:0<q2v E F b):(q1g E F b mode).lo<(q1g E F b mode).hi/\(q1g E F b mode).has (q6M E F b)=true:=by
 obtain⟨d,a,c⟩:=q94 E F (q2v E F b) (seen mode (q2R E F b)) hm;unfold q1g q6M;generalize q1j E F (q2v E F b) (seen mode (q2R E F b))=e at *
 cases q2R E F b
 ·simp only[k1q,k2O];exact⟨d,(Span.has_iff _ _).2 ⟨a,c⟩⟩
 ·simp only[k2S];refine⟨by grind,(Span.has_iff _ _).2 ⟨?_,?_⟩⟩
  ·rcases c with h|⟨h,k⟩
   ·exact .inl (by grind)
   ·exact .inr ⟨by grind,k⟩
  ·rcases a with h|⟨h,k⟩
   ·exact .inl (by grind)
   ·exact .inr ⟨by grind,k⟩
end Sh
end Go.Proofs.YtabcgemembkkcaaGreatDoor
