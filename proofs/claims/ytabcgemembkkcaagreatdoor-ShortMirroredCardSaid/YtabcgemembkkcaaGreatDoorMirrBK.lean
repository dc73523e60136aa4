/- Lemmas. -/
import Derived.Test.YtabcgemembkkcaaGreatDoorMirrBB
import Derived.Test.YtabcgemembkkcaaGreatDoorMirrBI
set_option linter.all false
namespace Go.Proofs.YtabcgemembkkcaaGreatDoor
variable{N M F m E k n:Nat}{x e:Int}
namespace Sh
open Go
def tw(k:Int):Rat:=mkRat (p2 k:Nat) (p2 (-k))
theorem q4i(k:Int):tw k=(2:Rat)^k:=by
 unfold tw;rcases k2J 0 k with h|h
 ·obtain⟨n,rfl⟩:=k29 h;rw[q0l (n:=-(n:Int)) (by omega),k2c,k2d,q1s,k0Y,k2k];rfl
 ·obtain⟨n,rfl⟩:∃n:Nat,k = -(n:Int):=⟨(-k).toNat,by omega⟩;rw[q0l (n:=-(n:Int)) (by omega),Int.neg_neg,Rat.zpow_neg,k2d,Rat.mkRat_eq_div,q1s,k2k,Rat.div_def];show(1:Rat)*_=_;rw[k1E];rfl
theorem tw_pos(k:Int):0<tw k:=by rw[q4i];exact Rat.zpow_pos (by decide)
theorem q4j(a b:Int):tw (a+b)=tw a*tw b:=by rw[q4i,q4i,q4i,Rat.zpow_add (by decide)]
theorem qaZ:tw 1=2:=rfl
theorem qb0(k:Int):tw (-k)*tw k=1:=by rw[<- q4j,Int.add_left_neg];rfl
theorem q6D(n:Nat):tw n=((2^n:Nat):Rat):=by rw[q4i,k2d,k2k];rfl
theorem qaY(k:Int)(h:0<=k):tw k=((p2 k:Nat):Rat):=by obtain⟨n,rfl⟩:=k29 h;rw[q6D,q1s]
theorem q6E(k:Int):tw k=tw (k-1)+tw (k-1):=by
 have:tw k=tw (k-1)*tw 1:=by rw[<- q4j];congr 1;omega
 rw[this,qaZ];grind
def dq(N:Nat)(x:Int):Rat:=(N:Rat)*tw x
theorem q25(x:Int):dq 0 x=0:=by unfold dq;rw[show((0:Nat):Rat)=0 from rfl,Rat.zero_mul]
theorem q7F(h:0<N)(x:Int):0<dq N x:=Rat.mul_pos (by exact_mod_cast h) (tw_pos x)
theorem q2b(N:Nat)(k:Nat)(x:Int):dq (N*2^k) x=dq N (x+k):=by unfold dq;rw[k2T,q4j,<- k1f,q6D,<- k2j]
theorem qbL(N:Nat)(z x:Int)(h:0<=z):dq (N*p2 z) x=dq N (x+z):=by obtain⟨n,rfl⟩:=k29 h;rw[q1s,q2b]
theorem q26(N M:Nat)(x:Int):dq (N+M) x=dq N x+dq M x:=by unfold dq;rw[k2R,Rat.add_mul]
theorem q90(N M:Nat)(x y:Int):dq (N*p2 (x-y)+M*p2 (y-x)) (min x y)=dq N x+dq M y:=by
 rw[q26];rcases k2J x y with h|h
 ·rw[q0l (n:=x-y) (by omega),k0A,qbL _ _ _ (by omega),Int.min_eq_left h,show x+(y-x)=y by omega]
 ·rw[q0l (n:=y-x) (by omega),k0A,qbL _ _ _ (by omega),Int.min_eq_right h,show y+(x-y)=x by omega]
theorem q9s(h:dq N x=dq M x):N=M:=by
 unfold dq at h;have a:(N:Rat)*tw x*tw (-x)=(M:Rat)*tw x*tw (-x):=by rw[h]
 rw[k1f,k1f,k2i (tw x),qb0,k1D,k1D] at a
 exact_mod_cast a
theorem q76{K:Nat}{p:Int}(hN:N%2=1)(hK:0<K)(h:dq N x=dq K p):N<=K/\p<=x/\x<=p+bl K:=by
 rcases k2J p x with hx|hx
 ·obtain⟨k,rfl⟩:∃k:Nat,x=p+k:=⟨(x-p).toNat,by omega⟩;rw[<- q2b] at h;have e:=q9s h;have b:N*1<=N*2^k:=k0g _ (k0c k);have d:1*2^k<=N*2^k:=k0q _ (by omega);have f:=q0J K;refine⟨by omega,by omega,?_⟩;rcases k0y k (bl K+1) with a|a
  ·omega
  ·have:=k04 (n:=2) (by decide) (Nat.le_of_succ_le a);omega
 ·obtain⟨k,rfl⟩:∃k:Nat,p=x+k:=⟨(p-x).toNat,by omega⟩;rw[<- q2b] at h;have e:=q9s h;rcases k01 k with rfl|a
  ·rw[k0J,k0A] at e;subst e;exact⟨lr,by omega,by omega⟩
  ·exfalso;obtain⟨c,rfl⟩:∃c,k=c+1:=⟨k-1,by omega⟩;rw[k0a,<- k0f] at e;omega
theorem qbM(N:Nat)(x:Int):dq N x=mkRat ((N*p2 x:Nat):Int) (p2 (-x)):=by
 unfold dq tw
 conv=>lhs;lhs;rw[show(N:Rat)=mkRat (N:Int) 1 by rw[k2c,k0Y]]
 rw[Rat.mkRat_mul_mkRat,k0Q,k08]
def mgN(F m:Nat):Nat:=Go.Proofs.YtabcgemembkkcaaGreatDoor.Exa.mantOf F (m/2^F) (m%2^F)
def mgX(E F m:Nat):Int:=Go.Proofs.YtabcgemembkkcaaGreatDoor.Exa.powOf E F (m/2^F)
def wv(E F m:Nat):Rat:=dq (mgN F m) (mgX E F m)
structure Edges where
 inner:Rat
 outer:Rat
 ii:Bool
 oi:Bool
def seen(mode:Nat)(neg:Bool):Nat:=if(mode=3/\neg=true)\/(mode=4/\neg=false) then 2 else if mode=4 then 3 else mode
def before(E F m:Nat):Rat:=if m=0 then wv E F m else wv E F (m-1)
def after(E F m:Nat):Rat:=wv E F m+tw (mgX E F m)
def q0T(E F m mode:Nat):Edges:=
 if mode=2 then⟨wv E F m,after E F m,true,false⟩
 else if mode=3 then⟨before E F m,wv E F m,m==0,true⟩
 else if mode=1 then⟨(before E F m+wv E F m)/2,(wv E F m+after E F m)/2,true,false⟩
 else⟨(before E F m+wv E F m)/2,(wv E F m+after E F m)/2,m%2==0,m%2==0⟩
def q1h(E F b:Nat):Nat:=b%2^(E+F)
def q1V(E F b:Nat):Bool:=decide (2^(E+F)<=b)
def q0R(E F b mode:Nat):Span:=
 let e:=q0T E F (q1h E F b) (seen mode (q1V E F b))
 if q1V E F b then⟨-e.outer,-e.inner,e.oi,e.ii⟩ else⟨e.inner,e.outer,e.ii,e.oi⟩
def q4J(E F b:Nat):Rat:=if q1V E F b then -wv E F (q1h E F b) else wv E F (q1h E F b)
theorem qca(E F m:Nat):0<=wv E F m:=by
 unfold wv;rcases k01 (mgN F m) with h|h
 ·rw[h,q25];exact Rat.le_refl
 ·exact k1a (q7F h _)
theorem q5A(F m:Nat):mgN F m<2^(F+1):=by unfold mgN Go.Proofs.YtabcgemembkkcaaGreatDoor.Exa.mantOf;have:=k0j m (k0c F);rw[k0a];split<;>omega
theorem q7i(h:0<m):0<mgN F m:=by
 unfold mgN Go.Proofs.YtabcgemembkkcaaGreatDoor.Exa.mantOf;have:=k0c F;split
 ·rename_i h0;have:=k0O m (2^F);rw[h0,k1n] at this;omega
 ·omega
theorem q4y(h1:2<=E)(h2:E<=11)(h4:F<=52)(hm:m<2^(E+F)):-1100<=mgX E F m/\mgX E F m<=2050:=by
 have a:m/2^F<2^E:=k0s (by rw[<- k0h,k11];exact hm);have b:2^E<=2^11:=k04 (by decide) h2;have c:2^(E-1)<=2^10:=k04 (by decide) (by omega);unfold mgX Go.Proofs.YtabcgemembkkcaaGreatDoor.Exa.powOf;generalize m/2^F=x at *
 generalize 2^(E-1)=P at *
 split<;>omega
theorem q1S(E F m:Nat)(h:0<m):∃K:Nat,∃p:Int,before E F m=dq K p/\K<2^(F+1)/\(p=mgX E F m\/p=mgX E F m-1)/\wv E F m=before E F m+tw p:=by
 have f:=k0c F;have d:=k0O m (2^F);have i:=k0j m f;refine⟨mgN F (m-1),mgX E F (m-1),?_,q5A _ _,?_,?_⟩
 ·unfold before wv;rw[k0o (by omega)]
 ·rcases k01 (m%2^F) with b|b
  ·have hx:0<m/2^F:=by
    rcases k01 (m/2^F) with e|e
    ·rw[e,b] at d;omega
    ·exact e
   have a:(m-1)/2^F=m/2^F-1:=by
    refine k1A ?_ ?_
    ·rw[Nat.sub_mul,k0Q,k0b];omega
    ·rw[show m/2^F-1+1=m/2^F by omega,k0b];omega
   unfold mgX Go.Proofs.YtabcgemembkkcaaGreatDoor.Exa.powOf;rw[a];split<;>split<;>omega
  ·left;have a:(m-1)/2^F=m/2^F:=by
    refine k1A ?_ ?_
    ·rw[k0b];omega
    ·rw[k18,k0Q,k0b];omega
   unfold mgX;rw[a]
 ·rcases k01 (m%2^F) with b|b
  ·have hx:0<m/2^F:=by
    rcases k01 (m/2^F) with e|e
    ·rw[e,b] at d;omega
    ·exact e
   have a:(m-1)/2^F=m/2^F-1:=by
    refine k1A ?_ ?_
    ·rw[Nat.sub_mul,k0Q,k0b];omega
    ·rw[show m/2^F-1+1=m/2^F by omega,k0b];omega
   have c:(m-1)%2^F=2^F-1:=by have k:=k0O (m-1) (2^F);rw[a,Nat.mul_sub,k0A] at k;have:2^F*1<=2^F*(m/2^F):=k0g _ hx;omega
   unfold before wv;rw[k0o (by omega)];unfold mgN mgX;rw[a,c,b];unfold Go.Proofs.YtabcgemembkkcaaGreatDoor.Exa.mantOf Go.Proofs.YtabcgemembkkcaaGreatDoor.Exa.powOf;rcases k0y (m/2^F) 2 with k|k
   ·rw[show m/2^F=1 by omega];simp only[Nat.sub_self,k2S,k2O,Nat.one_ne_zero,k0U];unfold dq;rw[show(2:Int)-((2^(E-1):Nat):Int)-(F:Int)+(((1:Nat):Int)-1)=2-((2^(E-1):Nat):Int)-(F:Int)+0 by omega];rw[show((2^F:Nat):Rat)=((2^F-1:Nat):Rat)+1 by rw[show(2^F:Nat)=(2^F-1)+1 by omega,k2R,k1d];rfl]
    grind
   ·rw[k0o (by omega),k0o (by omega),k0o (by omega),k0o (by omega)];rw[show(2:Int)-((2^(E-1):Nat):Int)-(F:Int)+(((m/2^F:Nat):Int)-1)=(2-((2^(E-1):Nat):Int)-(F:Int)+(((m/2^F-1:Nat):Int)-1))+(1:Nat) by omega,<- q2b,k0U];unfold dq;rw[show(2^F*2^1:Nat)=(2^F-1+2^F)+1 by omega,k2R];show _=_;rw[show((1:Nat):Rat)=1 from rfl]
    grind
  ·have a:(m-1)/2^F=m/2^F:=by
    refine k1A ?_ ?_
    ·rw[k0b];omega
    ·rw[k18,k0Q,k0b];omega
   have c:(m-1)%2^F=m%2^F-1:=by have k:=k0O (m-1) (2^F);rw[a] at k;omega
   unfold before wv;rw[k0o (by omega)];unfold mgN mgX;rw[a,c];have g:Go.Proofs.YtabcgemembkkcaaGreatDoor.Exa.mantOf F (m/2^F) (m%2^F)=Go.Proofs.YtabcgemembkkcaaGreatDoor.Exa.mantOf F (m/2^F) (m%2^F-1)+1:=by unfold Go.Proofs.YtabcgemembkkcaaGreatDoor.Exa.mantOf;split<;>omega
   rw[g,q26];unfold dq;rw[show((1:Nat):Rat)=1 from rfl,k1E]
theorem q4H(h:0<m):before E F m<wv E F m:=by
 obtain⟨K,p,-,-,-,e⟩:=q1S E F m h;have:=tw_pos p
 grind
theorem q8K(E F m:Nat):wv E F m<after E F m:=by
 unfold after;have:=tw_pos (mgX E F m)
 grind
theorem q5L(E F m mode:Nat)(hm:0<m):(q0T E F m mode).inner<(q0T E F m mode).outer/\((q0T E F m mode).inner<wv E F m\/(q0T E F m mode).inner=wv E F m/\(q0T E F m mode).ii=true)/\(wv E F m<(q0T E F m mode).outer\/wv E F m=(q0T E F m mode).outer/\(q0T E F m mode).oi=true):=by
 have a:=q4H (E:=E) (F:=F) hm;have b:=q8K E F m;unfold q0T;split
 ·exact⟨b,.inr ⟨rfl,rfl⟩,.inl b⟩
 ·split
  ·exact⟨a,.inl a,.inr ⟨rfl,rfl⟩⟩
  ·split
   ·dsimp only;exact⟨by grind,.inl (by grind),.inl (by grind)⟩
   ·dsimp only;exact⟨by grind,.inl (by grind),.inl (by grind)⟩
theorem q8y(E F b mode:Nat)(hm:0<q1h E F b):(q0R E F b mode).lo<(q0R E F b mode).hi/\(q0R E F b mode).has (q4J E F b)=true:=by
 obtain⟨d,a,c⟩:=q5L E F (q1h E F b) (seen mode (q1V E F b)) hm;unfold q0R q4J;generalize q0T E F (q1h E F b) (seen mode (q1V E F b))=e at *
 cases q1V E F b
 ·simp only[k1o,k2O];exact⟨d,(Span.has_iff _ _).2 ⟨a,c⟩⟩
 ·simp only[k2S];refine⟨by grind,(Span.has_iff _ _).2 ⟨?_,?_⟩⟩
  ·rcases c with h|⟨h,k⟩
   ·exact .inl (by grind)
   ·exact .inr ⟨by grind,k⟩
  ·rcases a with h|⟨h,k⟩
   ·exact .inl (by grind)
   ·exact .inr ⟨by grind,k⟩
theorem q7s{s:Span}{a b c:Rat}(ha:s.has a=true)(hb:s.has b=true)(h1:a<=c)(h2:c<=b):s.has c=true:=by
 rw[Span.has_iff] at *
 obtain⟨d,g⟩:=ha;obtain⟨i,f⟩:=hb;constructor
 ·rcases d with h|⟨h,k⟩
  ·exact .inl (by grind)
  ·by_cases e:a=c
   ·exact .inr ⟨by rw[h,e],k⟩
   ·exact .inl (by grind)
 ·rcases f with h|⟨h,k⟩
  ·exact .inl (by grind)
  ·by_cases e:c=b
   ·exact .inr ⟨by rw[e,h],k⟩
   ·exact .inl (by grind)
theorem q6u{v:Rat}:wo M e<=v↔(M:Rat)<=v*tp (-e):=by
 have b:=q1f e;have c:=q1f (-e);have a:=q2q e;unfold wo;constructor
 ·intro h;have:=k0V h (k1a c)
  rwa [k1f,k2i (tp e),a,k1D] at this
 ·intro h;have:=k0V h (k1a b)
  rwa [k1f,a,k1D] at this
theorem qbJ{v:Rat}(h:wo M e<=v):M<=fl v e:=by
 rw[q6u] at h;have a:((M:Int):Rat)<=v*tp (-e):=by rw[k0Y];exact h
 have b:=k2v.2 a;unfold fl;omega
theorem q34(h:M<=N)(e:Int):wo M e<=wo N e:=by unfold wo;exact k0V (by exact_mod_cast h) (k1a (q1f e))
theorem q2V(N:Nat)(k:Nat)(e:Int):wo (N*10^k) e=wo N (e+k):=by unfold wo;rw[k2T,q2M,q2g,<- k1f,k2j]
theorem q9d(e:Int):wo 1 e=tp e:=by unfold wo;rw[show((1:Nat):Rat)=1 from rfl,k1E]
theorem q8f(h:N<10^k)(x:Int):wo N x<tp (x+k):=by
 have:wo N x<wo (10^k) x:=by unfold wo;exact k1W (by exact_mod_cast h) (q1f x)
 rwa [show 10^k=1*10^k by rw[k0Q],q2V,q9d] at this
theorem q9O{s:Span}{v:Rat}(hv:0<v)(hin:s.has v=true)(hw:s.has (wo N x)=true)(hn:N<10^n)(h1:1<=n):q2p s v (top v-((n-1:Nat):Int))=true:=by
 obtain⟨e,j⟩:=yx (top v-((n-1:Nat):Int));rw[<- j];have l:=q6G hv;have i:x<e->wo N x<tp (top v):=fun h=>by
  have a:=q8f hn x;have b:=q4R (a:=x+n) (b:=top v) (by omega)
  grind
 unfold q2p;rw[k1r];by_cases h:wo N x<=v
 ·left;refine q7s hw hin ?_ (q8U hv e);rcases k1l x e with hx|hx
  ·have a:=i hx;have b:wo (10^(n-1)) e=tp (top v):=by rw[show 10^(n-1)=1*10^(n-1) by rw[k0Q],q2V,q9d];congr 1;omega
   have c:=q34 (qbJ (M:=10^(n-1)) (e:=e) (v:=v) (by rw[b];exact l)) e;rw[b] at c
   grind
  ·obtain⟨k,f⟩:∃k:Nat,x=e+k:=⟨(x-e).toNat,by omega⟩;have a:wo N x=wo (N*10^k) e:=by rw[q2V,f]
   rw[a] at h ⊢;exact q34 (qbJ h) e
 ·right;have hx:e<=x:=by
   rcases k1l x e with hx|hx
   ·have:=i hx;grind
   ·exact hx
  obtain⟨k,f⟩:∃k:Nat,x=e+k:=⟨(x-e).toNat,by omega⟩;have a:wo N x=wo (N*10^k) e:=by rw[q2V,f]
  rw[a] at h hw;refine q7s hin hw (qaf hv e).1 (q34 ?_ e);rcases q49 hv e with ⟨g,m⟩|⟨g,m,o⟩
  ·rw[g];rcases k0y (N*10^k) (fl v e) with d|d
   ·have:=q34 (k16 d) e
    grind
   ·exact d
  ·rw[g];rcases k0y (fl v e) (N*10^k) with d|d
   ·exact d
   ·have:=q34 d e
    grind
theorem q5E(h:0<n)(hk:n<=10^(k+1)):q0t (q17 n)<=k+1:=by
 have e:=q1G h;rcases Nat.lt_or_eq_of_le hk with a|a
 ·have:=q1e a (by omega);omega
 ·have b:n%10=0:=by rw[a,k0a];exact Nat.mul_mod_left _ _
  have c:=q3R h;rw[k0n b] at c;have d:n<10^(k+1+1):=by rw[a];exact k1P (by decide) (by omega)
  have:=q1e d (by omega);omega
theorem q5R{s:Span}{v:Rat}(hv:0<v)(h1:1<=n)(hn:n<=6000)(h:q2p s v (top v-((n-1:Nat):Int))=true):q0t (q17 (q1z s v).1)<=n:=by
 have:∃k,k<=n-1/\q2p s v (top v-(k:Int))=true/\∀j,j<k->q2p s v (top v-(j:Int))=false:=by
  have f:∀m,m<=n-1->(∃k,k<=m/\q2p s v (top v-(k:Int))=true/\∀j,j<k->q2p s v (top v-(j:Int))=false)\/∀j,j<=m->q2p s v (top v-(j:Int))=false:=by
   intro m
   induction m with
   | zero =>
    intro _;cases h0:q2p s v (top v-((0:Nat):Int))
    ·exact .inr fun j hj=>by rw[show j=0 by omega];exact h0
    ·exact .inl ⟨0,lr,h0,fun j hj=>absurd hj (by omega)⟩
   | succ m ih =>
    intro p;rcases ih (by omega) with ⟨k,g,c,d⟩|k
    ·exact .inl ⟨k,by omega,c,d⟩
    ·cases h0:q2p s v (top v-((m+1:Nat):Int))
     ·exact .inr fun j hj=>by
       rcases k0y j (m+1) with h|h
       ·exact k j (by omega)
       ·rw[show j=m+1 by omega];exact h0
     ·exact .inl ⟨m+1,lr,h0,fun j hj=>k j (by omega)⟩
  rcases f (n-1) lr with k|k
  ·exact k
  ·rw[k (n-1) lr] at h;exact absurd h (by decide)
 obtain⟨k,g,c,d⟩:=this;rw[q7Q (by omega) c d];obtain⟨e,i⟩:=yx (top v-(k:Int));rw[<- i];have q:=qbI hv (e:=e) (k:=k+1) (by omega);have l:=q7w hv (e:=e) (by omega);have o:=q9v hv (e:=e) (by omega);have r:ce v e<=fl v e+1:=by unfold ce;split<;>omega
 have a:=q5E (k:=k) (show 0<fl v e by omega) (by omega);have b:=q5E (k:=k) (show 0<ce v e by omega) (by omega);show q0t (q17 (q8a s v e))<=n;unfold q8a;split
 ·omega
 ·split
  ·omega
  ·split<;>omega
end Sh
end Go.Proofs.YtabcgemembkkcaaGreatDoor
