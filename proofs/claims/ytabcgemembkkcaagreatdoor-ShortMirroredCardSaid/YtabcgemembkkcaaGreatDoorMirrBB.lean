/- Lemmas. -/
import Derived.Test.YtabcgemembkkcaaGreatDoorMirrAX
set_option linter.all false
open Decidable renaming decide->qa
open Go renaming Lib.decDigits_length->qb,Lib.lt_pow_nDigits->qd,Lib.nDigits_small->qe,Lib.nDigits_big->qf,Lib.nDigits_pos->qg
open Bool renaming true->qc,false->qh
namespace Go.Proofs.YtabcgemembkkcaaGreatDoor
variable{B d A n k N:Nat}{e:Int}
namespace Sh
open Go
def q2d(a b:Rat):Int:=if a<b then -1 else if b<a then 1 else 0
def Qb(B:Nat)(q:Rat):Prop:=bl q.num.natAbs<=B/\bl q.den<=B
theorem Qb.mono{C:Nat}{q:Rat}(h:Qb B q)(hc:B<=C):Qb C q:=⟨k06 h.1 hc,k06 h.2 hc⟩
def tp(k:Int):Rat:=mkRat (t10 k:Nat) (t10 (-k))
theorem q4k(k:Int):tp k=(10:Rat)^k:=by
 unfold tp;rcases k2J 0 k with h|h
 ·obtain⟨n,rfl⟩:=k29 h;rw[show t10 (-(n:Int))=1 by unfold t10;rw[show(-(n:Int)).toNat=0 by omega],k2c,k2d];show(((10^n:Nat):Int):Rat)=10^n;rw[k0Y,k2k];rfl
 ·obtain⟨n,rfl⟩:∃n:Nat,k = -(n:Int):=⟨(-k).toNat,by omega⟩;rw[show t10 (-(n:Int))=1 by unfold t10;rw[show(-(n:Int)).toNat=0 by omega],Int.neg_neg,Rat.zpow_neg,k2d,Rat.mkRat_eq_div];show((1:Nat):Int)/(((10^n:Nat):Rat))=(10^n:Rat)⁻¹;rw[k2k,Rat.div_def];show(1:Rat)*_=_;rw[k1E];rfl
theorem q1f(k:Int):0<tp k:=by rw[q4k];exact Rat.zpow_pos (by decide)
theorem q2M(a b:Int):tp (a+b)=tp a*tp b:=by rw[q4k,q4k,q4k,Rat.zpow_add (by decide)]
theorem q2q(k:Int):tp (-k)*tp k=1:=by rw[<- q2M,Int.add_left_neg];rfl
theorem q2g(n:Nat):tp n=((10^n:Nat):Rat):=by rw[q4k,k2d,k2k];rfl
theorem q4R{a b:Int}(h:a<=b):tp a<=tp b:=by
 obtain⟨n,rfl⟩:∃n:Nat,b=a+n:=⟨(b-a).toNat,by omega⟩;rw[q2M,q2g];have c:(1:Rat)<=((10^n:Nat):Rat):=by
  have:1<=10^n:=k1x (by decide)
  exact_mod_cast this
 have:=k1v c (k1a (q1f a))
 rwa [k1D] at this
structure Span where
 lo:Rat
 hi:Rat
 li:Bool
 hn:Bool
def Span.has(s:Span)(r:Rat):Bool:=(qa (q2d s.lo r<0) || (q2d s.lo r==0 && s.li)) && (qa (q2d r s.hi<0) || (q2d r s.hi==0 && s.hn))
def Span.flip(s:Span):Span:=⟨-s.hi,-s.lo,s.hn,s.li⟩
theorem q5b{a b:Rat}:q2d a b<0↔a<b:=by
 unfold q2d;split
 ·rename_i h;exact⟨fun _=>h,fun _=>by decide⟩
 ·rename_i h;split
  ·exact⟨fun k=>absurd k (by decide),fun k=>absurd k h⟩
  ·exact⟨fun k=>absurd k (by decide),fun k=>absurd k h⟩
theorem q5c{a b:Rat}:q2d a b=0↔a=b:=by
 unfold q2d;split
 ·rename_i h;exact⟨fun k=>absurd k (by decide),fun k=>by subst k;exact absurd h (Rat.lt_irrefl)⟩
 ·rename_i h;split
  ·rename_i h';exact⟨fun k=>absurd k (by decide),fun k=>by subst k;exact absurd h' (Rat.lt_irrefl)⟩
  ·rename_i h';exact⟨fun _=>by grind,fun _=>rfl⟩
theorem Span.has_iff(s:Span)(r:Rat):s.has r=qc↔(s.lo<r\/s.lo=r/\s.li=qc)/\(r<s.hi\/r=s.hi/\s.hn=qc):=by unfold Span.has;simp only[k0T,k1r,k0C,k1S,q5b,q5c]
theorem Span.has_flip(s:Span)(r:Rat):s.flip.has (-r)=s.has r:=by
 rw[k2B,Span.has_iff,Span.has_iff];unfold Span.flip;dsimp only;have a:-s.hi < -r↔r<s.hi:=by grind
 have b:-s.hi = -r↔r=s.hi:=by grind
 have c:-r < -s.lo↔s.lo<r:=by grind
 have d:-r = -s.lo↔s.lo=r:=by grind
 rw[a,b,c,d];exact And.comm
def q0t(n:Nat):Nat:=Lib.nDigits n
def top(v:Rat):Int:=if v<tp ((q0t v.num.natAbs:Int)-q0t v.den) then(q0t v.num.natAbs:Int)-q0t v.den-1 else(q0t v.num.natAbs:Int)-q0t v.den
def fl(v:Rat)(e:Int):Nat:=(v*tp (-e)).floor.natAbs
def ce(v:Rat)(e:Int):Nat:=if((fl v e:Nat):Rat)=v*tp (-e) then fl v e else fl v e+1
def wo(n:Nat)(e:Int):Rat:=(n:Rat)*tp e
def q2p(s:Span)(v:Rat)(e:Int):Bool:=s.has (wo (fl v e) e) || s.has (wo (ce v e) e)
def evF:Nat->Nat->Bool
 | 0,_=>qc
 | k+1,n=>if n%10=0 then evF k (n/10) else n%2==0
def evD(n:Nat):Bool:=evF n n
def far(v:Rat)(n:Nat)(e:Int):Rat:=(wo n e-v).abs
def up(v:Rat)(e:Int):Bool:=
 qa (q2d (far v (ce v e) e) (far v (fl v e) e)<0) || (q2d (far v (ce v e) e) (far v (fl v e) e)==0 && evD (ce v e) && !evD (fl v e))
def q8a(s:Span)(v:Rat)(e:Int):Nat:=
 if s.has (wo (ce v e) e)=qh then fl v e else if s.has (wo (fl v e) e)=qh then ce v e else if up v e then ce v e else fl v e
def go(s:Span)(v:Rat):Nat->Int->Nat × Int
 | 0,e=>(q8a s v e,e)
 | k+1,e=>if q2p s v e then(q8a s v e,e) else go s v k (e-1)
theorem q5J{q:Rat}(h:0<=q):((q.floor.natAbs:Nat):Rat)=(q.floor:Rat):=by have:0<=q.floor:=k2v.2 (by simpa using h);rw[<- k0Y];congr 1;omega
theorem q5x{v:Rat}(hv:0<v)(e:Int):0<v*tp (-e):=Rat.mul_pos hv (q1f _)
theorem q8U{v:Rat}(hv:0<v)(e:Int):wo (fl v e) e<=v:=by
 unfold wo fl;rw[q5J (k1a (q5x hv e))];have h:=k0V (Rat.floor_le (v*tp (-e))) (k1a (q1f e))
 rwa [k1f,q2q,k1D] at h
theorem qbw{v:Rat}(hv:0<v)(e:Int):v<wo (fl v e) e+tp e:=by
 unfold wo fl;rw[q5J (k1a (q5x hv e))];have h:=k1W (Rat.lt_floor_add_one (v*tp (-e))) (q1f e);rw[k1f,q2q,k1D,Rat.intCast_add,Rat.add_mul] at h
 simpa [k1E] using h
theorem q49{v:Rat}(hv:0<v)(e:Int):(ce v e=fl v e/\wo (fl v e) e=v)\/(ce v e=fl v e+1/\wo (fl v e) e<v/\wo (ce v e) e=wo (fl v e) e+tp e):=by
 have hx:wo (fl v e) e=v↔((fl v e:Nat):Rat)=v*tp (-e):=by
  unfold wo;constructor
  ·intro h
   calc ((fl v e:Nat):Rat)=(fl v e:Rat)*tp e*tp (-e):=by rw[k1f,k2i (tp e),q2q,k1D]
    _=v*tp (-e):=by rw[h]
  ·intro h;rw[h,k1f,q2q,k1D]
 unfold ce;split
 ·rename_i h;exact .inl ⟨rfl,hx.2 h⟩
 ·rename_i h;refine .inr ⟨rfl,?_,?_⟩
  ·have:=q8U hv e;have a:wo (fl v e) e≠v:=fun k=>h (hx.1 k)
   grind
  ·unfold wo;rw[k2R,Rat.add_mul];simp [k1E]
theorem qaf{v:Rat}(hv:0<v)(e:Int):v<=wo (ce v e) e/\wo (ce v e) e<v+tp e:=by
 have d:=q1f e;have f:=qbw hv e;rcases q49 hv e with ⟨a,b⟩|⟨a,b,c⟩
 ·rw[a,b];grind
 ·grind
theorem q9P{s:Span}{v:Rat}(hv:0<v)(hin:s.has v=qc)(h:v+tp e<=s.hi\/s.lo+tp e<=v):q2p s v e=qc:=by
 unfold q2p;rw[k1r];rw[Span.has_iff] at hin;rcases h with h|h
 ·right;rw[Span.has_iff];have:=qaf hv e;obtain⟨a,b⟩:=hin;refine⟨?_,.inl (by grind)⟩;rcases a with a|⟨a,c⟩
  ·exact .inl (by grind)
  ·by_cases k:s.lo=wo (ce v e) e
   ·exact .inr ⟨k,c⟩
   ·exact .inl (by grind)
 ·left;rw[Span.has_iff];have c:=q8U hv e;have f:=qbw hv e;obtain⟨a,b⟩:=hin;refine⟨.inl (by grind),?_⟩;rcases b with b|⟨b,d⟩
  ·exact .inl (by grind)
  ·by_cases k:wo (fl v e) e=s.hi
   ·exact .inr ⟨k,d⟩
   ·exact .inl (by grind)
theorem q1W(a b:Nat):bl (a*b)<=bl a+bl b:=q0A (by
 rw[k0h];have h1:=q0J a;have h2:=q0J b;rcases k01 b with h|h
 ·subst h;rw[k1n];exact k0l (k0c _) (k0c _)
 ·exact k02 (k0E h1 h) (k0g _ (k16 h2)))
theorem q2E(a b:Nat)(k:Nat)(h1:bl a<=k)(h2:bl b<=k):bl (a+b)<=k+1:=q0A (by have:=q0J a;have:=q0J b;have:=k04 (n:=2) (by decide) h1;have:=k04 (n:=2) (by decide) h2;rw[k0a];omega)
theorem q2n(k:Nat):bl (10^k)<=4*k+1:=q0A (by have:10^k<=(2^4)^k:=k1C (by decide) k;rw[<- k1k] at this;exact k0F this (k1P (by decide) (by omega)))
theorem q9k(p:Int)(hd:d≠0):(mkRat p d).num.natAbs<=p.natAbs/\(mkRat p d).den<=d:=by rw[Rat.num_mkRat,Rat.den_mkRat,k0o hd,k0o hd];exact⟨Int.natAbs_ediv_le_natAbs _ _,k0e _ _⟩
theorem Qb.mk{p:Int}(hd:d≠0)(h1:bl p.natAbs<=B)(h2:bl d<=B):Qb B (mkRat p d):=⟨k06 (q15 (q9k p hd).1) h1,k06 (q15 (q9k p hd).2) h2⟩
theorem q3I(x y:Rat):x.den*y.den≠0:=Nat.mul_ne_zero x.den_nz y.den_nz
theorem Qb.mul{x y:Rat}(hx:Qb A x)(hy:Qb B y):Qb (A+B) (x*y):=by
 rw[Rat.mul_def'];refine Qb.mk (q3I x y) ?_ ?_
 ·rw[k0B];exact k06 (q1W _ _) (Nat.add_le_add hx.1 hy.1)
 ·exact k06 (q1W _ _) (Nat.add_le_add hx.2 hy.2)
theorem Qb.neg{x:Rat}(hx:Qb A x):Qb A (-x):=by unfold Qb;rw[Rat.neg_num,Rat.neg_den,k1R];exact hx
theorem Qb.sub{x y:Rat}(hx:Qb A x)(hy:Qb B y):Qb (A+B+1) (x-y):=by
 rw[Rat.sub_def'];refine Qb.mk (q3I x y) ?_ ?_
 ·have a:(x.num*y.den-y.num*x.den).natAbs<=x.num.natAbs*y.den+y.num.natAbs*x.den:=by refine k06 (Int.natAbs_sub_le _ _) ?_;rw[k0B,k0B,k05,k05];exact lr
  refine k06 (q15 a) (q2E _ _ _ ?_ ?_)
  ·exact k06 (q1W _ _) (Nat.add_le_add hx.1 hy.2)
  ·refine k06 (q1W _ _) ?_;have:=hx.2;have:=hy.1;omega
 ·refine k06 (q1W _ _) ?_;have:=hx.2;have:=hy.2;omega
theorem Qb.abs{x:Rat}(hx:Qb A x):Qb A x.abs:=by
 rcases Rat.le_total (a:=0) (b:=x) with h|h
 ·rw[Rat.abs_of_nonneg h];exact hx
 ·rw[Rat.abs_of_nonpos h];exact hx.neg
theorem Qb.tp(k:Int):Qb (4*k.natAbs+1) (tp k):=by
 refine Qb.mk (Nat.ne_of_gt (q1w _)) ?_ ?_
 ·rw[k05];refine k06 (q2n _) ?_;omega
 ·refine k06 (q2n _) ?_;omega
theorem Qb.nat(h:bl n<=A)(hA:1<=A)(h1:bl 1<=1):Qb A ((n:Nat):Rat):=by unfold Qb;rw[Rat.num_natCast,Rat.den_natCast,k05];exact⟨h,by omega⟩
theorem q5w(h:0<n):10^(q0t n-1)<=n:=by
 unfold q0t
 induction n using Nat.strongRecOn with
 | _ n ih =>
  by_cases k:n<10
  ·rw[qe k];show 1<=n;omega
  ·rw[qf k,k1d];have a:=ih (n/10) (by omega) (by omega);have b:=qg (n/10);rw[show Lib.nDigits (n/10)=(Lib.nDigits (n/10)-1)+1 by omega,k0a];omega
theorem q13(n:Nat):1<=q0t n:=qg n
theorem q41(h:0<n):q0t n<=bl n:=by
 have a:=q5w h;have b:=q0J n;have c:2^(q0t n-1)<=10^(q0t n-1):=k1C (by decide) _;have d:=q13 n;rcases k0y (q0t n-1) (bl n) with k|k
 ·omega
 ·have:=k04 (n:=2) (by decide) k;omega
theorem q71(v:Rat):v*(v.den:Rat)=(v.num:Rat):=by
 have h:=Rat.mkRat_self v;rw[Rat.mkRat_eq_div] at h;have a:((v.den:Nat):Rat)≠0:=by
  have:=v.den_nz
  exact_mod_cast this
 calc v*(v.den:Rat)=(v.num:Rat)/(v.den:Rat)*(v.den:Rat):=by rw[h]
  _=(v.num:Rat):=Rat.div_mul_cancel a
theorem q1x{v:Rat}(hv:0<v):0<v.num:=by
 have:=(Rat.lt_iff 0 v).1 hv
 simpa using this
theorem qcd{v:Rat}(hv:0<v):tp ((q0t v.num.natAbs:Int)-q0t v.den-1)<=v:=by
 have e:=q1x hv;have f:=q5w (n:=v.num.natAbs) (by omega);have a:=qd v.den;have g:=q71 v;have h:tp ((q0t v.num.natAbs:Int)-1)<=(v.num:Rat):=by
  have:=q13 v.num.natAbs;rw[show(q0t v.num.natAbs:Int)-1=((q0t v.num.natAbs-1:Nat):Int) by omega,q2g];have:((10^(q0t v.num.natAbs-1):Nat):Int)<=v.num:=by omega
  rw[<- k0Y]
  exact_mod_cast this
 have b:(v.den:Rat)<=tp (q0t v.den):=by
  rw[q2g]
  exact_mod_cast k16 a
 have i:v*(v.den:Rat)<=v*tp (q0t v.den):=k1v b (k1a hv);rw[show(q0t v.num.natAbs:Int)-q0t v.den-1=((q0t v.num.natAbs:Int)-1) + -(q0t v.den:Int) by omega,q2M];have c:tp ((q0t v.num.natAbs:Int)-1)<=v*tp (q0t v.den):=by grind
 have d:=k0V c (k1a (q1f (-(q0t v.den:Int))))
 rwa [k1f,k2i (tp (q0t v.den:Int)),q2q,k1D] at d
theorem q6G{v:Rat}(hv:0<v):tp (top v)<=v:=by
 unfold top;split
 ·exact qcd hv
 ·rename_i h
  grind
theorem q9e{v:Rat}(hv:0<v)(hb:Qb B v):-(B:Int)<=top v/\top v<=B:=by have a:=q1x hv;have b:=q41 (n:=v.num.natAbs) (by omega);have c:=q41 v.den_pos;have d:=q13 v.num.natAbs;have e:=q13 v.den;have f:=hb.1;have g:=hb.2;unfold top;split<;>omega
theorem q7w{v:Rat}(hv:0<v)(h:e<=top v):1<=fl v e:=by
 have b:tp e<=v:=by
  have:=q4R h;have:=q6G hv
  grind
 have a:=k0V b (k1a (q1f (-e)));rw[k2i (tp e),q2q] at a;have c:(1:Int)<=(v*tp (-e)).floor:=k2v.2 (by simpa using a);unfold fl;omega
theorem gap{a b:Rat}(h:a<b)(ha:Qb B a)(hb:Qb B b):tp (-(2*B:Nat))<=b-a:=by
 have c:=q71 a;have d:=q71 b;have k:(1:Rat)<=(b-a)*((a.den*b.den:Nat):Rat):=by
  have e:(b-a)*((a.den*b.den:Nat):Rat)=((b.num*a.den-a.num*b.den:Int):Rat):=by
   rw[k2j,Rat.intCast_sub,Rat.intCast_mul,Rat.intCast_mul,k0Y,k0Y,<- c,<- d]
   grind
  rw[e];have:=(Rat.lt_iff a b).1 h;have:(1:Int)<=b.num*a.den-a.num*b.den:=by omega
  exact_mod_cast this
 have f:((a.den*b.den:Nat):Rat)<=tp ((2*B:Nat):Int):=by
  rw[q2g];have l:=q0J a.den;have m:=q0J b.den;have o:=k04 (n:=2) (by decide) ha.2;have p:=k04 (n:=2) (by decide) hb.2;have:a.den*b.den<=10^(2*B):=by
   calc a.den*b.den<=2^B*2^B:=k2e (by omega) (by omega)
    _=2^(2*B):=by rw[<- k0h];congr 1;omega
    _<=10^(2*B):=k1C (by decide) _
  exact_mod_cast this
 have g:(0:Rat)<=b-a:=by grind
 have q:=k1v f g;have i:(1:Rat)<=(b-a)*tp ((2*B:Nat):Int):=by grind
 have j:=k0V i (k1a (q1f (-((2*B:Nat):Int))))
 rwa [k1E,k1f,k2i (tp ((2*B:Nat):Int)),q2q,k1D] at j
theorem qci{s:Span}{v:Rat}(hv:0<v)(hin:s.has v=qc)(hl:s.lo<s.hi)(h1:Qb B s.lo)(h2:Qb B s.hi)(h3:Qb B v):∃k:Nat,k<=3*B/\q2p s v (top v-k)=qc:=by
 have b:=q9e hv h3;refine⟨(top v+(2*B:Nat)).toNat,by omega,?_⟩;have c:tp (top v-((top v+(2*B:Nat)).toNat:Int))<=tp (-(2*B:Nat)):=q4R (by omega);have a:=(Span.has_iff s v).1 hin;refine q9P hv hin ?_;by_cases k:v<s.hi
 ·have:=gap k h3 h2;exact .inl (by grind)
 ·have:s.lo<v:=by
   rcases a.2 with h|⟨h,-⟩
   ·exact absurd h k
   ·rw[h];exact hl
  have:=gap this h1 h3;exact .inr (by grind)
theorem qak{s:Span}{v:Rat}(h:q2p s v e=qc):go s v k e=(q8a s v e,e):=by
 cases k
 ·rfl
 ·unfold go;rw[k0n h]
theorem qal{s:Span}{v:Rat}(h:q2p s v e=qh):go s v (k+1) e=go s v k (e-1):=by show(if q2p s v e=qc then _ else _)=_;rw[k0o (by rw[h];decide)]
def q1g(N:Nat):ByteArray:=⟨(Lib.decDigits N).toArray⟩
theorem q0V(N:Nat):(q1g N).size=q0t N:=by show(Lib.decDigits N).toArray.size=_;rw[List.size_toArray,qb];rfl
theorem q2t(N:Nat):(q1g N).data.toList=Lib.decDigits N:=rfl
theorem q1H(h:d<10):(UInt8.ofNat (48+d)).toNat=48+d:=by rw[UInt8.toNat_ofNat'];omega
theorem q7I(h:d<10):(UInt8.ofNat (48+d)==48)=qa (d=0):=by
 rw[k2B,k1S,k0C];constructor
 ·intro k;have:=k0v UInt8.toNat k;rw[q1H h] at this;have e:(48:UInt8).toNat=48:=rfl;omega
 ·rintro rfl;rfl
theorem q1R(h:N<10):Lib.decDigits N=[UInt8.ofNat (48+N)]:=by rw[Lib.decDigits,dif_pos h]
theorem q3n(h:¬N<10):Lib.decDigits N=Lib.decDigits (N/10)++[UInt8.ofNat (48+N%10)]:=by rw[Lib.decDigits,dif_neg h]
theorem qcC(N:Nat):dv (Lib.decDigits N)=N:=by
 induction N using Nat.strongRecOn with
 | _ N ih =>
  by_cases h:N<10
  ·rw[q1R h];show 10*0+((UInt8.ofNat (48+N)).toNat-48)=N;rw[q1H h];omega
  ·rw[q3n h,q56,ih (N/10) (by omega),q1H (k0j _ (by decide))];omega
theorem q94(N:Nat):∀c∈Lib.decDigits N,48<=c.toNat/\c.toNat<=57:=by
 induction N using Nat.strongRecOn with
 | _ N ih =>
  intro c a;by_cases h:N<10
  ·rw[q1R h,k0i] at a;rw[a,q1H h];omega
  ·rw[q3n h,k2D,k0i] at a;rcases a with a|rfl
   ·exact ih _ (by omega) c a
   ·rw[q1H (k0j _ (by decide))];omega
theorem q7K(h0:0<N):∃c l,Lib.decDigits N=c::l/\c≠48:=by
 induction N using Nat.strongRecOn with
 | _ N ih =>
  by_cases h:N<10
  ·refine⟨_,[],q1R h,fun k=>?_⟩;have:=q7I h;rw[k,k00 (by omega)] at this;exact absurd this (by decide)
  ·obtain⟨c,l,e,a⟩:=ih (N/10) (by omega) (by omega);exact⟨c,l++[_],by rw[q3n h,e];rfl,a⟩
def tzF:Nat->Nat->Nat
 | 0,_=>0
 | k+1,n=>if n%10=0 then tzF k (n/10)+1 else 0
def tz(n:Nat):Nat:=tzF n n
def q17(n:Nat):Nat:=n/10^tz n
theorem q5i:∀(k n:Nat),0<n->n<=k->tzF (k+1) n=tzF k n
 | 0,n,h,h'=>by omega
 | k+1,n,h,h'=>by
  show(if n%10=0 then tzF (k+1) (n/10)+1 else 0)=(if n%10=0 then tzF k (n/10)+1 else 0);by_cases e:n%10=0
  ·rw[k0n e,k0n e,q5i k (n/10) (by omega) (by omega)]
  ·rw[k0o e,k0o e]
theorem qaV(h:0<n)(hk:n<=k):tzF k n=tz n:=by
 induction k with
 | zero=>omega
 | succ k ih =>
  rcases k1I hk with e|e
  ·rw[<- e];rfl
  ·rw[q5i k n h (by omega),ih (by omega)]
theorem q3R(h:0<n):tz n=if n%10=0 then tz (n/10)+1 else 0:=by
 obtain⟨k,rfl⟩:∃k,n=k+1:=⟨n-1,by omega⟩;show(if(k+1)%10=0 then tzF k ((k+1)/10)+1 else 0)=_;by_cases e:(k+1)%10=0
 ·rw[k0n e,k0n e,qaV (by omega) (by omega)]
 ·rw[k0o e,k0o e]
theorem qaU(n:Nat)(h:0<n):10^tz n ∣ n:=by
 induction n using Nat.strongRecOn with
 | _ n ih =>
  rw[q3R h];by_cases e:n%10=0
  ·rw[k0n e,k0a];obtain⟨c,a⟩:=ih (n/10) (by omega) (by omega);exact⟨c,by rw[show n=n/10*10 by omega,a,Nat.mul_div_cancel _ (by decide),<- a];grind⟩
  ·rw[k0o e];exact Nat.one_dvd _
theorem q6M(h:0<n):q17 n*10^tz n=n:=Nat.div_mul_cancel (qaU n h)
theorem q6L(h:0<n):0<q17 n:=by
 rcases k01 (q17 n) with k|k
 ·have:=q6M h;rw[k] at this;omega
 ·exact k
theorem q2Z(h:0<n):q17 n=if n%10=0 then q17 (n/10) else n:=by
 unfold q17;rw[q3R h];by_cases e:n%10=0
 ·rw[k0n e,k0n e,k0a,k0b,k0p]
 ·rw[k0o e,k0o e];exact k1m n
theorem q9N(h:0<n):q17 n%10≠0:=by
 induction n using Nat.strongRecOn with
 | _ n ih =>
  rw[q2Z h];by_cases e:n%10=0
  ·rw[k0n e];exact ih _ (by omega) (by omega)
  ·rw[k0o e];exact e
theorem q93(h:0<n):Lib.trimRightB (Lib.decDigits n) 48=Lib.decDigits (q17 n):=by
 induction n using Nat.strongRecOn with
 | _ n ih =>
  rw[q2Z h];unfold Lib.trimRightB;by_cases e:n%10=0
  ·have a:¬n<10:=by omega
   rw[k0n e,q3n a,List.reverse_append,List.reverse_singleton,List.singleton_append,List.dropWhile_cons_of_pos (by rw[q7I (k0j _ (by decide))];exact k03 e)];exact ih _ (by omega) (by omega)
  ·rw[k0o e];have b:∃l,Lib.decDigits n=l++[UInt8.ofNat (48+n%10)]:=by
    by_cases a:n<10
    ·exact⟨[],by rw[q1R a,k0u a];rfl⟩
    ·exact⟨_,q3n a⟩
   obtain⟨l,c⟩:=b;rw[c,List.reverse_append,List.reverse_singleton,List.singleton_append,List.dropWhile_cons_of_neg (by rw[q7I (k0j _ (by decide)),k00 e];decide)];rw[List.reverse_cons,List.reverse_reverse]
theorem qau(h:0<n):Lib.trimLeftB (Lib.decDigits n) 48=Lib.decDigits n:=by obtain⟨c,l,e,a⟩:=q7K h;unfold Lib.trimLeftB;rw[e,List.dropWhile_cons_of_neg (by simpa using a)]
theorem q1G(h:0<n):q0t n=q0t (q17 n)+tz n:=by
 induction n using Nat.strongRecOn with
 | _ n ih =>
  rw[q2Z h,q3R h];by_cases e:n%10=0
  ·rw[k0n e,k0n e];have:=ih (n/10) (by omega) (by omega);show Lib.nDigits n=_;rw[qf (by omega)];unfold q0t at this ⊢;omega
  ·rw[k0o e,k0o e];rfl
theorem qao(h:0<n):evD n=(q17 n%2==0):=by
 have c:∀k m,0<m->m<=k->evF k m=(q17 m%2==0):=by
  intro k
  induction k with
  | zero=>intro m a b;omega
  | succ k ih =>
   intro m a b;show(if m%10=0 then evF k (m/10) else m%2==0)=_;rw[q2Z a];by_cases e:m%10=0
   ·rw[k0n e,k0n e,ih _ (by omega) (by omega)]
   ·rw[k0o e,k0o e]
 exact c n n h lr
theorem q5n(N k:Nat)(h:k<(q1g N).size):(q1g N)[k]=(Lib.decDigits N)[k]'(by rw[q0V] at h;rw[qb];exact h):=rfl
theorem q3C(N:Nat):q3k (q1g N)=qc:=by unfold q3k;rw[k1M];intro c a;have:=q94 N c a;rw[k03 this.1,k03 this.2];rfl
theorem q8q(N:Nat):dvk (q1g N) (q1g N).size=N:=by unfold dvk;rw[k0w (by rw[q2t,q0V,qb];exact lr),q2t,qcC]
theorem q4m(N:Nat)(h:q0t N-1<(q1g N).size):(q1g N)[q0t N-1].toNat=48+N%10:=by
 have c:∃l,Lib.decDigits N=l++[UInt8.ofNat (48+N%10)]:=by
  by_cases hn:N<10
  ·exact⟨[],by rw[q1R hn,k0u hn];rfl⟩
  ·exact⟨_,q3n hn⟩
 obtain⟨l,a⟩:=c;have b:q0t N=l.length+1:=by have:=qb N;rw[a,k1q,List.length_singleton] at this;exact this.symm
 rw[q5n];simp only[a,b,k1d];rw[List.getElem_append_right lr];simp only[Nat.sub_self,List.getElem_singleton];exact q1H (k0j _ (by decide))
theorem q8p{x:Int}(h:0<n)(hs:q0t n<=65536)(h1:x<=1073741824)(h2:-1073741824<=x):q0G (q1g (q17 n)) x=qc:=by
 have g:=q1G h;have i:=q13 (q17 n);have j:=q9N h;have a:=q0V (q17 n);unfold q0G;rw[k03 h1,k03 h2,k03 (p:=(q1g (q17 n)).size<=65536) (by omega),k0o (by omega),q3C];have b:q3r (q1g (q17 n)) 0≠48:=by rw[q2D (by omega)];obtain⟨c,l,e,d⟩:=q7K (q6L h);intro k;rw[q5n] at k;simp only[e,List.getElem_cons_zero] at k;exact d (UInt8.toNat_inj.1 k)
 have f:q3r (q1g (q17 n)) ((q1g (q17 n)).size-1)≠48:=by rw[q2D (by omega)];have:=q4m (q17 n) (by omega);simp only[a,this];omega
 rw[k00 b,k00 f];rfl
theorem qaO(h:0<n)(e:Int):wo (q17 n) (e+tz n)=wo n e:=by unfold wo;rw[k2T,q2M,<- k1f,q2g,<- k2j,q6M h]
theorem q1e(h:n<10^k)(hk:1<=k):q0t n<=k:=by
 rcases k01 n with a|a
 ·subst a;show Lib.nDigits 0<=k;rw[qe (by decide)];exact hk
 ·have c:=q5w a;rcases k0y (q0t n-1) k with b|b
  ·have:=q13 n;omega
  ·have:=k04 (n:=10) (by decide) b;omega
theorem qaS{v:Rat}(hv:0<v):v<tp ((q0t v.num.natAbs:Int)-q0t v.den+1):=by
 have e:=q1x hv;have f:=qd v.num.natAbs;have a:=q5w v.den_pos;have g:=q71 v;have h:=q13 v.den;have i:(v.num:Rat)<tp (q0t v.num.natAbs):=by
  rw[q2g];have:v.num<((10^q0t v.num.natAbs:Nat):Int):=by unfold q0t;omega
  rw[<- k0Y]
  exact_mod_cast this
 have b:tp ((q0t v.den:Int)-1)<=(v.den:Rat):=by
  rw[show(q0t v.den:Int)-1=((q0t v.den-1:Nat):Int) by omega,q2g]
  exact_mod_cast a
 have j:v*tp ((q0t v.den:Int)-1)<=v*(v.den:Rat):=k1v b (k1a hv);have c:v*tp ((q0t v.den:Int)-1)<tp (q0t v.num.natAbs):=by grind
 have d:=k1W c (q1f (-((q0t v.den:Int)-1)));rw[k1f,k2i (tp ((q0t v.den:Int)-1)),q2q,k1D,<- q2M] at d
 rwa [show(q0t v.num.natAbs:Int)-q0t v.den+1=q0t v.num.natAbs + -((q0t v.den:Int)-1) by omega]
theorem qbv{v:Rat}(hv:0<v):v<tp (top v+1):=by
 have h:=qaS hv;unfold top;split
 ·rename_i k
  rwa [show(q0t v.num.natAbs:Int)-q0t v.den-1+1=(q0t v.num.natAbs:Int)-q0t v.den by omega]
 ·exact h
theorem qbI{v:Rat}(hv:0<v)(h:top v+1-e=k):fl v e<10^k:=by
 have b:=k1W (qbv hv) (q1f (-e));rw[<- q2M,show top v+1 + -e=(k:Int) by omega,q2g] at b;have c:=Rat.floor_le (v*tp (-e));have a:(((v*tp (-e)).floor:Int):Rat)<((10^k:Nat):Rat):=by grind
 have d:(v*tp (-e)).floor<((10^k:Nat):Int):=by
  rw[<- k0Y] at a
  exact_mod_cast a
 have f:0<=(v*tp (-e)).floor:=k2v.2 (by simpa using k1a (q5x hv e));unfold fl;omega
theorem qac{v:Rat}(hv:0<v)(h:top v-e=k):q0t (fl v e)<=k+1/\q0t (ce v e)<=k+2:=by
 have a:=qbI hv (e:=e) (k:=k+1) (by omega);refine⟨q1e a (by omega),q1e (k:=k+2) ?_ (by omega)⟩;have b:ce v e<=fl v e+1:=by unfold ce;split<;>omega
 have:10^(k+2)=10^(k+1)*10:=k0a ..;have:=k1x (n:=k+1) (show 0<10 by decide);omega
theorem q9v{v:Rat}(hv:0<v)(h:e<=top v):1<=ce v e:=by have:=q7w hv h;unfold ce;split<;>omega
theorem q6a{s:Span}{v:Rat}(hv:0<v)(hin:s.has v=qc)(hl:s.lo<s.hi)(h1:Qb B s.lo)(h2:Qb B s.hi)(h3:Qb B v):∃k:Nat,k<=3*B/\q2p s v (top v-k)=qc/\∀j,j<k->q2p s v (top v-j)=qh:=by
 obtain⟨k,c,d⟩:=qci hv hin hl h1 h2 h3;clear h1 h2 h3
 induction k using Nat.strongRecOn with
 | _ k ih =>
  by_cases h:∃j,j<k/\q2p s v (top v-j)=qc
  ·obtain⟨j,a,b⟩:=h;exact ih j a (by omega) b
  ·refine⟨k,c,d,fun j a=>?_⟩;rcases Bool.eq_false_or_eq_true (q2p s v (top v-j)) with e|e
   ·exact absurd ⟨j,a,e⟩ h
   ·exact e
theorem q5I{s:Span}{v:Rat}:∀(k K:Nat) (e:Int),k<=K->q2p s v (e-k)=qc->(∀j,j<k->q2p s v (e-j)=qh)->go s v K e=(q8a s v (e-k),e-k)
 | 0,K,e,hK,h,_=>by rw[show e-((0:Nat):Int)=e by omega] at h ⊢;exact qak h
 | k+1,K,e,hK,h,hj=>by
  obtain⟨K,rfl⟩:∃K',K=K'+1:=⟨K-1,by omega⟩;have h0:=hj 0 (by omega);rw[show e-((0:Nat):Int)=e by omega] at h0;rw[qal h0,show e-((k+1:Nat):Int)=e-1-(k:Int) by omega];refine q5I k K (e-1) (by omega) (by rwa [show e-1-(k:Int)=e-((k+1:Nat):Int) by omega]) fun j hj'=>?_
  have:=hj (j+1) (by omega)
  rwa [show e-1-(j:Int)=e-((j+1:Nat):Int) by omega]
def q1z(s:Span)(v:Rat):Nat × Int:=go s v 6600 (top v)
theorem q7Q{s:Span}{v:Rat}(hk:k<=6600)(h:q2p s v (top v-k)=qc)(hj:∀j,j<k->q2p s v (top v-j)=qh):q1z s v=(q8a s v (top v-k),top v-k):=q5I k 6600 _ hk h hj
end Sh
end Go.Proofs.YtabcgemembkkcaaGreatDoor
