/- Lemmas. -/
import Derived.Test.YtabcgemembkkcaaGreatDoorDigsAX
set_option linter.all false
open Decidable renaming decide->qa
open Go renaming Lib.decDigits_length->qb,Lib.lt_pow_nDigits->qd,Lib.nDigits_small->qe,Lib.nDigits_big->qf,Lib.nDigits_pos->qg
open Bool renaming true->qc,false->qh
namespace Go.Proofs.YtabcgemembkkcaaGreatDoor
variable{B d A n k N:Nat}{e:Int}
namespace Sh
open Go
def q1s(a b:Rat):Int:=if a<b then -1 else if b<a then 1 else 0
def Qb(B:Nat)(q:Rat):Prop:=bl q.num.natAbs<=B/\bl q.den<=B
theorem Qb.mono{C:Nat}{q:Rat}(h:Qb B q)(hc:B<=C):Qb C q:=⟨k07 h.1 hc,k07 h.2 hc⟩
def tp(k:Int):Rat:=mkRat (t10 k:Nat) (t10 (-k))
theorem q4I(k:Int):tp k=(10:Rat)^k:=by
 unfold tp;rcases k3f 0 k with h|h
 ·obtain⟨n,rfl⟩:=k2N h;rw[show t10 (-(n:Int))=1 by unfold t10;rw[show(-(n:Int)).toNat=0 by omega],k2n,k2p];show(((10^n:Nat):Int):Rat)=10^n;rw[k0J,k2w];rfl
 ·obtain⟨n,rfl⟩:∃n:Nat,k = -(n:Int):=⟨(-k).toNat,by omega⟩;rw[show t10 (-(n:Int))=1 by unfold t10;rw[show(-(n:Int)).toNat=0 by omega],Int.neg_neg,Rat.zpow_neg,k2p,k35];show((1:Nat):Int)/(((10^n:Nat):Rat))=(10^n:Rat)⁻¹;rw[k2w,Rat.div_def];show(1:Rat)*_=_;rw[k2x];rfl
theorem q23(k:Int):0<tp k:=by rw[q4I];exact Rat.zpow_pos (by decide)
theorem q2T(a b:Int):tp (a+b)=tp a*tp b:=by rw[q4I,q4I,q4I,Rat.zpow_add (by decide)]
theorem q2S(k:Int):tp (-k)*tp k=1:=by rw[<- q2T,Int.add_left_neg];rfl
theorem q24(n:Nat):tp n=((10^n:Nat):Rat):=by rw[q4I,k2p,k2w];rfl
theorem q7g{a b:Int}(h:a<=b):tp a<=tp b:=by
 obtain⟨n,rfl⟩:∃n:Nat,b=a+n:=⟨(b-a).toNat,by omega⟩;rw[q2T,q24];have c:(1:Rat)<=((10^n:Nat):Rat):=by
  have:1<=10^n:=k1g (by decide)
  exact_mod_cast this
 have:=k1s c (k1w (q23 a))
 rwa [k1Z] at this
structure Span where
 lo:Rat
 hi:Rat
 li:Bool
 hn:Bool
def Span.has(s:Span)(r:Rat):Bool:=(qa (q1s s.lo r<0) || (q1s s.lo r==0 && s.li)) && (qa (q1s r s.hi<0) || (q1s r s.hi==0 && s.hn))
def Span.flip(s:Span):Span:=⟨-s.hi,-s.lo,s.hn,s.li⟩
theorem q3y{a b:Rat}:q1s a b<0↔a<b:=by
 unfold q1s;split
 ·rename_i h;exact⟨fun _=>h,fun _=>by decide⟩
 ·rename_i h;split
  ·exact⟨fun k=>absurd k (by decide),fun k=>absurd k h⟩
  ·exact⟨fun k=>absurd k (by decide),fun k=>absurd k h⟩
theorem q5H{a b:Rat}:q1s a b=0↔a=b:=by
 unfold q1s;split
 ·rename_i h;exact⟨fun k=>absurd k (by decide),fun k=>by subst k;exact absurd h (Rat.lt_irrefl)⟩
 ·rename_i h;split
  ·rename_i h';exact⟨fun k=>absurd k (by decide),fun k=>by subst k;exact absurd h' (Rat.lt_irrefl)⟩
  ·rename_i h';exact⟨fun _=>by grind,fun _=>rfl⟩
theorem Span.has_iff(s:Span)(r:Rat):s.has r=qc↔(s.lo<r\/s.lo=r/\s.li=qc)/\(r<s.hi\/r=s.hi/\s.hn=qc):=by unfold Span.has;simp only[k13,k2e,k12,k1D,q3y,q5H]
theorem Span.has_flip(s:Span)(r:Rat):s.flip.has (-r)=s.has r:=by
 rw[k2u,Span.has_iff,Span.has_iff];unfold Span.flip;dsimp only;have a:-s.hi < -r↔r<s.hi:=by grind
 have b:-s.hi = -r↔r=s.hi:=by grind
 have c:-r < -s.lo↔s.lo<r:=by grind
 have d:-r = -s.lo↔s.lo=r:=by grind
 rw[a,b,c,d];exact And.comm
def q0K(n:Nat):Nat:=Lib.nDigits n
def top(v:Rat):Int:=if v<tp ((q0K v.num.natAbs:Int)-q0K v.den) then(q0K v.num.natAbs:Int)-q0K v.den-1 else(q0K v.num.natAbs:Int)-q0K v.den
def fl(v:Rat)(e:Int):Nat:=(v*tp (-e)).floor.natAbs
def ce(v:Rat)(e:Int):Nat:=if((fl v e:Nat):Rat)=v*tp (-e) then fl v e else fl v e+1
def wo(n:Nat)(e:Int):Rat:=(n:Rat)*tp e
def q2s(s:Span)(v:Rat)(e:Int):Bool:=s.has (wo (fl v e) e) || s.has (wo (ce v e) e)
def evF:Nat->Nat->Bool
 | 0,_=>qc
 | k+1,n=>if n%10=0 then evF k (n/10) else n%2==0
def evD(n:Nat):Bool:=evF n n
def far(v:Rat)(n:Nat)(e:Int):Rat:=(wo n e-v).abs
def up(v:Rat)(e:Int):Bool:=
 qa (q1s (far v (ce v e) e) (far v (fl v e) e)<0) || (q1s (far v (ce v e) e) (far v (fl v e) e)==0 && evD (ce v e) && !evD (fl v e))
def q74(s:Span)(v:Rat)(e:Int):Nat:=
 if s.has (wo (ce v e) e)=qh then fl v e else if s.has (wo (fl v e) e)=qh then ce v e else if up v e then ce v e else fl v e
def go(s:Span)(v:Rat):Nat->Int->Nat × Int
 | 0,e=>(q74 s v e,e)
 | k+1,e=>if q2s s v e then(q74 s v e,e) else go s v k (e-1)
theorem q6g{q:Rat}(h:0<=q):((q.floor.natAbs:Nat):Rat)=(q.floor:Rat):=by have:0<=q.floor:=k34.2 (by simpa using h);rw[<- k0J];congr 1;omega
theorem q3n{v:Rat}(hv:0<v)(e:Int):0<v*tp (-e):=Rat.mul_pos hv (q23 _)
theorem q9w{v:Rat}(hv:0<v)(e:Int):wo (fl v e) e<=v:=by
 unfold wo fl;rw[q6g (k1w (q3n hv e))];have h:=k1q (Rat.floor_le (v*tp (-e))) (k1w (q23 e))
 rwa [k1T,q2S,k1Z] at h
theorem qcr{v:Rat}(hv:0<v)(e:Int):v<wo (fl v e) e+tp e:=by
 unfold wo fl;rw[q6g (k1w (q3n hv e))];have h:=k1N (Rat.lt_floor_add_one (v*tp (-e))) (q23 e);rw[k1T,q2S,k1Z,Rat.intCast_add,Rat.add_mul] at h
 simpa [k2x] using h
theorem q9K{v:Rat}(hv:0<v)(e:Int):(ce v e=fl v e/\wo (fl v e) e=v)\/(ce v e=fl v e+1/\wo (fl v e) e<v/\wo (ce v e) e=wo (fl v e) e+tp e):=by
 have hx:wo (fl v e) e=v↔((fl v e:Nat):Rat)=v*tp (-e):=by
  unfold wo;constructor
  ·intro h
   calc ((fl v e:Nat):Rat)=(fl v e:Rat)*tp e*tp (-e):=by rw[k1T,k31 (tp e),q2S,k1Z]
    _=v*tp (-e):=by rw[h]
  ·intro h;rw[h,k1T,q2S,k1Z]
 unfold ce;split
 ·rename_i h;exact .inl ⟨rfl,hx.2 h⟩
 ·rename_i h;refine .inr ⟨rfl,?_,?_⟩
  ·have:=q9w hv e;have a:wo (fl v e) e≠v:=fun k=>h (hx.1 k)
   grind
  ·unfold wo;rw[k2U,Rat.add_mul];simp [k2x]
theorem qb0{v:Rat}(hv:0<v)(e:Int):v<=wo (ce v e) e/\wo (ce v e) e<v+tp e:=by
 have d:=q23 e;have f:=qcr hv e;rcases q9K hv e with ⟨a,b⟩|⟨a,b,c⟩
 ·rw[a,b];grind
 ·grind
theorem qaA{s:Span}{v:Rat}(hv:0<v)(hin:s.has v=qc)(h:v+tp e<=s.hi\/s.lo+tp e<=v):q2s s v e=qc:=by
 unfold q2s;rw[k2e];rw[Span.has_iff] at hin;rcases h with h|h
 ·right;rw[Span.has_iff];have:=qb0 hv e;obtain⟨a,b⟩:=hin;refine⟨?_,.inl (by grind)⟩;rcases a with a|⟨a,c⟩
  ·exact .inl (by grind)
  ·by_cases k:s.lo=wo (ce v e) e
   ·exact .inr ⟨k,c⟩
   ·exact .inl (by grind)
 ·left;rw[Span.has_iff];have c:=q9w hv e;have f:=qcr hv e;obtain⟨a,b⟩:=hin;refine⟨.inl (by grind),?_⟩;rcases b with b|⟨b,d⟩
  ·exact .inl (by grind)
  ·by_cases k:wo (fl v e) e=s.hi
   ·exact .inr ⟨k,d⟩
   ·exact .inl (by grind)
theorem q1T(a b:Nat):bl (a*b)<=bl a+bl b:=q0A (by
 rw[k0e];have h1:=q0O a;have h2:=q0O b;rcases k01 b with h|h
 ·subst h;rw[k1m];exact k0N (k0a _) (k0a _)
 ·exact k03 (k0L h1 h) (k0m _ (k1l h2)))
theorem q20(a b:Nat)(k:Nat)(h1:bl a<=k)(h2:bl b<=k):bl (a+b)<=k+1:=q0A (by have:=q0O a;have:=q0O b;have:=k00 (n:=2) (by decide) h1;have:=k00 (n:=2) (by decide) h2;rw[k0d];omega)
theorem q2q(k:Nat):bl (10^k)<=4*k+1:=q0A (by have:10^k<=(2^4)^k:=k1j (by decide) k;rw[<- k1r] at this;exact k0I this (Nat.pow_lt_pow_right (by decide) (by omega)))
theorem qa2(p:Int)(hd:d≠0):(mkRat p d).num.natAbs<=p.natAbs/\(mkRat p d).den<=d:=by rw[Rat.num_mkRat,Rat.den_mkRat,k0r hd,k0r hd];exact⟨Int.natAbs_ediv_le_natAbs _ _,k0q _ _⟩
theorem Qb.mk{p:Int}(hd:d≠0)(h1:bl p.natAbs<=B)(h2:bl d<=B):Qb B (mkRat p d):=⟨k07 (q1k (qa2 p hd).1) h1,k07 (q1k (qa2 p hd).2) h2⟩
theorem q3Z(x y:Rat):x.den*y.den≠0:=Nat.mul_ne_zero x.den_nz y.den_nz
theorem Qb.mul{x y:Rat}(hx:Qb A x)(hy:Qb B y):Qb (A+B) (x*y):=by
 rw[Rat.mul_def'];refine Qb.mk (q3Z x y) ?_ ?_
 ·rw[k1c];exact k07 (q1T _ _) (Nat.add_le_add hx.1 hy.1)
 ·exact k07 (q1T _ _) (Nat.add_le_add hx.2 hy.2)
theorem Qb.neg{x:Rat}(hx:Qb A x):Qb A (-x):=by unfold Qb;rw[Rat.neg_num,Rat.neg_den,Int.natAbs_neg];exact hx
theorem Qb.sub{x y:Rat}(hx:Qb A x)(hy:Qb B y):Qb (A+B+1) (x-y):=by
 rw[Rat.sub_def'];refine Qb.mk (q3Z x y) ?_ ?_
 ·have a:(x.num*y.den-y.num*x.den).natAbs<=x.num.natAbs*y.den+y.num.natAbs*x.den:=by refine k07 (Int.natAbs_sub_le _ _) ?_;rw[k1c,k1c,k08,k08];exact lr
  refine k07 (q1k a) (q20 _ _ _ ?_ ?_)
  ·exact k07 (q1T _ _) (Nat.add_le_add hx.1 hy.2)
  ·refine k07 (q1T _ _) ?_;have:=hx.2;have:=hy.1;omega
 ·refine k07 (q1T _ _) ?_;have:=hx.2;have:=hy.2;omega
theorem Qb.abs{x:Rat}(hx:Qb A x):Qb A x.abs:=by
 rcases Rat.le_total (a:=0) (b:=x) with h|h
 ·rw[Rat.abs_of_nonneg h];exact hx
 ·rw[Rat.abs_of_nonpos h];exact hx.neg
theorem Qb.tp(k:Int):Qb (4*k.natAbs+1) (tp k):=by
 refine Qb.mk (Nat.ne_of_gt (q2l _)) ?_ ?_
 ·rw[k08];refine k07 (q2q _) ?_;omega
 ·refine k07 (q2q _) ?_;omega
theorem Qb.nat(h:bl n<=A)(hA:1<=A)(h1:bl 1<=1):Qb A ((n:Nat):Rat):=by unfold Qb;rw[Rat.num_natCast,Rat.den_natCast,k08];exact⟨h,by omega⟩
theorem q66(h:0<n):10^(q0K n-1)<=n:=by
 unfold q0K
 induction n using Nat.strongRecOn with
 | _ n ih =>
  by_cases k:n<10
  ·rw[qe k];show 1<=n;omega
  ·rw[qf k,k0T];have a:=ih (n/10) (by omega) (by omega);have b:=qg (n/10);rw[show Lib.nDigits (n/10)=(Lib.nDigits (n/10)-1)+1 by omega,k0d];omega
theorem q16(n:Nat):1<=q0K n:=qg n
theorem q2o(h:0<n):q0K n<=bl n:=by
 have a:=q66 h;have b:=q0O n;have c:2^(q0K n-1)<=10^(q0K n-1):=k1j (by decide) _;have d:=q16 n;rcases k0A (q0K n-1) (bl n) with k|k
 ·omega
 ·have:=k00 (n:=2) (by decide) k;omega
theorem q3j(v:Rat):v*(v.den:Rat)=(v.num:Rat):=by
 have h:=k2E v;rw[k35] at h;have a:((v.den:Nat):Rat)≠0:=by
  have:=v.den_nz
  exact_mod_cast this
 calc v*(v.den:Rat)=(v.num:Rat)/(v.den:Rat)*(v.den:Rat):=by rw[h]
  _=(v.num:Rat):=Rat.div_mul_cancel a
theorem q18{v:Rat}(hv:0<v):0<v.num:=by
 have:=(k3a 0 v).1 hv
 simpa using this
theorem qdi{v:Rat}(hv:0<v):tp ((q0K v.num.natAbs:Int)-q0K v.den-1)<=v:=by
 have e:=q18 hv;have f:=q66 (n:=v.num.natAbs) (by omega);have a:=qd v.den;have g:=q3j v;have h:tp ((q0K v.num.natAbs:Int)-1)<=(v.num:Rat):=by
  have:=q16 v.num.natAbs;rw[show(q0K v.num.natAbs:Int)-1=((q0K v.num.natAbs-1:Nat):Int) by omega,q24];have:((10^(q0K v.num.natAbs-1):Nat):Int)<=v.num:=by omega
  rw[<- k0J]
  exact_mod_cast this
 have b:(v.den:Rat)<=tp (q0K v.den):=by
  rw[q24]
  exact_mod_cast k1l a
 have i:v*(v.den:Rat)<=v*tp (q0K v.den):=k1s b (k1w hv);rw[show(q0K v.num.natAbs:Int)-q0K v.den-1=((q0K v.num.natAbs:Int)-1) + -(q0K v.den:Int) by omega,q2T];have c:tp ((q0K v.num.natAbs:Int)-1)<=v*tp (q0K v.den):=by grind
 have d:=k1q c (k1w (q23 (-(q0K v.den:Int))))
 rwa [k1T,k31 (tp (q0K v.den:Int)),q2S,k1Z] at d
theorem q9X{v:Rat}(hv:0<v):tp (top v)<=v:=by
 unfold top;split
 ·exact qdi hv
 ·rename_i h
  grind
theorem q7i{v:Rat}(hv:0<v)(hb:Qb B v):-(B:Int)<=top v/\top v<=B:=by have a:=q18 hv;have b:=q2o (n:=v.num.natAbs) (by omega);have c:=q2o v.den_pos;have d:=q16 v.num.natAbs;have e:=q16 v.den;have f:=hb.1;have g:=hb.2;unfold top;split<;>omega
theorem q86{v:Rat}(hv:0<v)(h:e<=top v):1<=fl v e:=by
 have b:tp e<=v:=by
  have:=q7g h;have:=q9X hv
  grind
 have a:=k1q b (k1w (q23 (-e)));rw[k31 (tp e),q2S] at a;have c:(1:Int)<=(v*tp (-e)).floor:=k34.2 (by simpa using a);unfold fl;omega
theorem gap{a b:Rat}(h:a<b)(ha:Qb B a)(hb:Qb B b):tp (-(2*B:Nat))<=b-a:=by
 have c:=q3j a;have d:=q3j b;have k:(1:Rat)<=(b-a)*((a.den*b.den:Nat):Rat):=by
  have e:(b-a)*((a.den*b.den:Nat):Rat)=((b.num*a.den-a.num*b.den:Int):Rat):=by
   rw[k2V,Rat.intCast_sub,k2T,k2T,k0J,k0J,<- c,<- d]
   grind
  rw[e];have:=(k3a a b).1 h;have:(1:Int)<=b.num*a.den-a.num*b.den:=by omega
  exact_mod_cast this
 have f:((a.den*b.den:Nat):Rat)<=tp ((2*B:Nat):Int):=by
  rw[q24];have l:=q0O a.den;have m:=q0O b.den;have o:=k00 (n:=2) (by decide) ha.2;have p:=k00 (n:=2) (by decide) hb.2;have:a.den*b.den<=10^(2*B):=by
   calc a.den*b.den<=2^B*2^B:=k2q (by omega) (by omega)
    _=2^(2*B):=by rw[<- k0e];congr 1;omega
    _<=10^(2*B):=k1j (by decide) _
  exact_mod_cast this
 have g:(0:Rat)<=b-a:=by grind
 have q:=k1s f g;have i:(1:Rat)<=(b-a)*tp ((2*B:Nat):Int):=by grind
 have j:=k1q i (k1w (q23 (-((2*B:Nat):Int))))
 rwa [k2x,k1T,k31 (tp ((2*B:Nat):Int)),q2S,k1Z] at j
theorem qdl{s:Span}{v:Rat}(hv:0<v)(hin:s.has v=qc)(hl:s.lo<s.hi)(h1:Qb B s.lo)(h2:Qb B s.hi)(h3:Qb B v):∃k:Nat,k<=3*B/\q2s s v (top v-k)=qc:=by
 have b:=q7i hv h3;refine⟨(top v+(2*B:Nat)).toNat,by omega,?_⟩;have c:tp (top v-((top v+(2*B:Nat)).toNat:Int))<=tp (-(2*B:Nat)):=q7g (by omega);have a:=(Span.has_iff s v).1 hin;refine qaA hv hin ?_;by_cases k:v<s.hi
 ·have:=gap k h3 h2;exact .inl (by grind)
 ·have:s.lo<v:=by
   rcases a.2 with h|⟨h,-⟩
   ·exact absurd h k
   ·rw[h];exact hl
  have:=gap this h1 h3;exact .inr (by grind)
theorem qb5{s:Span}{v:Rat}(h:q2s s v e=qc):go s v k e=(q74 s v e,e):=by
 cases k
 ·rfl
 ·unfold go;rw[k0p h]
theorem qb6{s:Span}{v:Rat}(h:q2s s v e=qh):go s v (k+1) e=go s v k (e-1):=by show(if q2s s v e=qc then _ else _)=_;rw[k0r (by rw[h];decide)]
def q0J(N:Nat):ByteArray:=⟨(Lib.decDigits N).toArray⟩
theorem q0z(N:Nat):(q0J N).size=q0K N:=by show(Lib.decDigits N).toArray.size=_;rw[List.size_toArray,qb];rfl
theorem q1L(N:Nat):(q0J N).data.toList=Lib.decDigits N:=rfl
theorem q1Q(h:d<10):(UInt8.ofNat (48+d)).toNat=48+d:=by rw[UInt8.toNat_ofNat'];omega
theorem q8i(h:d<10):(UInt8.ofNat (48+d)==48)=qa (d=0):=by
 rw[k2u,k1D,k12];constructor
 ·intro k;have:=k0z UInt8.toNat k;rw[q1Q h] at this;have e:(48:UInt8).toNat=48:=rfl;omega
 ·rintro rfl;rfl
theorem q1X(h:N<10):Lib.decDigits N=[UInt8.ofNat (48+N)]:=by rw[Lib.decDigits,dif_pos h]
theorem q2Z(h:¬N<10):Lib.decDigits N=Lib.decDigits (N/10)++[UInt8.ofNat (48+N%10)]:=by rw[Lib.decDigits,dif_neg h]
theorem qdH(N:Nat):dv (Lib.decDigits N)=N:=by
 induction N using Nat.strongRecOn with
 | _ N ih =>
  by_cases h:N<10
  ·rw[q1X h];show 10*0+((UInt8.ofNat (48+N)).toNat-48)=N;rw[q1Q h];omega
  ·rw[q2Z h,q5C,ih (N/10) (by omega),q1Q (k0i _ (by decide))];omega
theorem q9I(N:Nat):∀c∈Lib.decDigits N,48<=c.toNat/\c.toNat<=57:=by
 induction N using Nat.strongRecOn with
 | _ N ih =>
  intro c a;by_cases h:N<10
  ·rw[q1X h,k09] at a;rw[a,q1Q h];omega
  ·rw[q2Z h,k2P,k09] at a;rcases a with a|rfl
   ·exact ih _ (by omega) c a
   ·rw[q1Q (k0i _ (by decide))];omega
theorem q8l(h0:0<N):∃c l,Lib.decDigits N=c::l/\c≠48:=by
 induction N using Nat.strongRecOn with
 | _ N ih =>
  by_cases h:N<10
  ·refine⟨_,[],q1X h,fun k=>?_⟩;have:=q8i h;rw[k,k02 (by omega)] at this;exact absurd this (by decide)
  ·obtain⟨c,l,e,a⟩:=ih (N/10) (by omega) (by omega);exact⟨c,l++[_],by rw[q2Z h,e];rfl,a⟩
def tzF:Nat->Nat->Nat
 | 0,_=>0
 | k+1,n=>if n%10=0 then tzF k (n/10)+1 else 0
def tz(n:Nat):Nat:=tzF n n
def q0E(n:Nat):Nat:=n/10^tz n
theorem q5Q:∀(k n:Nat),0<n->n<=k->tzF (k+1) n=tzF k n
 | 0,n,h,h'=>by omega
 | k+1,n,h,h'=>by
  show(if n%10=0 then tzF (k+1) (n/10)+1 else 0)=(if n%10=0 then tzF k (n/10)+1 else 0);by_cases e:n%10=0
  ·rw[k0p e,k0p e,q5Q k (n/10) (by omega) (by omega)]
  ·rw[k0r e,k0r e]
theorem qbN(h:0<n)(hk:n<=k):tzF k n=tz n:=by
 induction k with
 | zero=>omega
 | succ k ih =>
  rcases k1W hk with e|e
  ·rw[<- e];rfl
  ·rw[q5Q k n h (by omega),ih (by omega)]
theorem q5f(h:0<n):tz n=if n%10=0 then tz (n/10)+1 else 0:=by
 obtain⟨k,rfl⟩:∃k,n=k+1:=⟨n-1,by omega⟩;show(if(k+1)%10=0 then tzF k ((k+1)/10)+1 else 0)=_;by_cases e:(k+1)%10=0
 ·rw[k0p e,k0p e,qbN (by omega) (by omega)]
 ·rw[k0r e,k0r e]
theorem qbK(n:Nat)(h:0<n):10^tz n ∣ n:=by
 induction n using Nat.strongRecOn with
 | _ n ih =>
  rw[q5f h];by_cases e:n%10=0
  ·rw[k0p e,k0d];obtain⟨c,a⟩:=ih (n/10) (by omega) (by omega);exact⟨c,by rw[show n=n/10*10 by omega,a,k2S _ (by decide),<- a];grind⟩
  ·rw[k0r e];exact Nat.one_dvd _
theorem q5i(h:0<n):q0E n*10^tz n=n:=Nat.div_mul_cancel (qbK n h)
theorem q5h(h:0<n):0<q0E n:=by
 rcases k01 (q0E n) with k|k
 ·have:=q5i h;rw[k] at this;omega
 ·exact k
theorem q36(h:0<n):q0E n=if n%10=0 then q0E (n/10) else n:=by
 unfold q0E;rw[q5f h];by_cases e:n%10=0
 ·rw[k0p e,k0p e,k0d,k0g,k0h]
 ·rw[k0r e,k0r e];exact k1b n
theorem q7o(h:0<n):q0E n%10≠0:=by
 induction n using Nat.strongRecOn with
 | _ n ih =>
  rw[q36 h];by_cases e:n%10=0
  ·rw[k0p e];exact ih _ (by omega) (by omega)
  ·rw[k0r e];exact e
theorem q9H(h:0<n):Lib.trimRightB (Lib.decDigits n) 48=Lib.decDigits (q0E n):=by
 induction n using Nat.strongRecOn with
 | _ n ih =>
  rw[q36 h];unfold Lib.trimRightB;by_cases e:n%10=0
  ·have a:¬n<10:=by omega
   rw[k0p e,q2Z a,List.reverse_append,List.reverse_singleton,List.singleton_append,List.dropWhile_cons_of_pos (by rw[q8i (k0i _ (by decide))];exact k04 e)];exact ih _ (by omega) (by omega)
  ·rw[k0r e];have b:∃l,Lib.decDigits n=l++[UInt8.ofNat (48+n%10)]:=by
    by_cases a:n<10
    ·exact⟨[],by rw[q1X a,k0E a];rfl⟩
    ·exact⟨_,q2Z a⟩
   obtain⟨l,c⟩:=b;rw[c,List.reverse_append,List.reverse_singleton,List.singleton_append,List.dropWhile_cons_of_neg (by rw[q8i (k0i _ (by decide)),k02 e];decide)];rw[List.reverse_cons,List.reverse_reverse]
theorem qbh(h:0<n):Lib.trimLeftB (Lib.decDigits n) 48=Lib.decDigits n:=by obtain⟨c,l,e,a⟩:=q8l h;unfold Lib.trimLeftB;rw[e,List.dropWhile_cons_of_neg (by simpa using a)]
theorem q1w(h:0<n):q0K n=q0K (q0E n)+tz n:=by
 induction n using Nat.strongRecOn with
 | _ n ih =>
  rw[q36 h,q5f h];by_cases e:n%10=0
  ·rw[k0p e,k0p e];have:=ih (n/10) (by omega) (by omega);show Lib.nDigits n=_;rw[qf (by omega)];unfold q0K at this ⊢;omega
  ·rw[k0r e,k0r e];rfl
theorem q8a(h:0<n):evD n=(q0E n%2==0):=by
 have c:∀k m,0<m->m<=k->evF k m=(q0E m%2==0):=by
  intro k
  induction k with
  | zero=>intro m a b;omega
  | succ k ih =>
   intro m a b;show(if m%10=0 then evF k (m/10) else m%2==0)=_;rw[q36 a];by_cases e:m%10=0
   ·rw[k0p e,k0p e,ih _ (by omega) (by omega)]
   ·rw[k0r e,k0r e]
 exact c n n h lr
theorem q5W(N k:Nat)(h:k<(q0J N).size):(q0J N)[k]=(Lib.decDigits N)[k]'(by rw[q0z] at h;rw[qb];exact h):=rfl
theorem q3P(N:Nat):q3v (q0J N)=qc:=by unfold q3v;rw[k29];intro c a;have:=q9I N c a;rw[k04 this.1,k04 this.2];rfl
theorem q8Y(N:Nat):dvk (q0J N) (q0J N).size=N:=by unfold dvk;rw[k0D (by rw[q1L,q0z,qb];exact lr),q1L,qdH]
theorem q2v(N:Nat)(h:q0K N-1<(q0J N).size):(q0J N)[q0K N-1].toNat=48+N%10:=by
 have c:∃l,Lib.decDigits N=l++[UInt8.ofNat (48+N%10)]:=by
  by_cases hn:N<10
  ·exact⟨[],by rw[q1X hn,k0E hn];rfl⟩
  ·exact⟨_,q2Z hn⟩
 obtain⟨l,a⟩:=c;have b:q0K N=l.length+1:=by have:=qb N;rw[a,k16,List.length_singleton] at this;exact this.symm
 rw[q5W];simp only[a,b,k0T];rw[List.getElem_append_right lr];simp only[Nat.sub_self,List.getElem_singleton];exact q1Q (k0i _ (by decide))
theorem q8X{x:Int}(h:0<n)(hs:q0K n<=65536)(h1:x<=1073741824)(h2:-1073741824<=x):q1j (q0J (q0E n)) x=qc:=by
 have g:=q1w h;have i:=q16 (q0E n);have j:=q7o h;have a:=q0z (q0E n);unfold q1j;rw[k04 h1,k04 h2,k04 (p:=(q0J (q0E n)).size<=65536) (by omega),k0r (by omega),q3P];have b:q3z (q0J (q0E n)) 0≠48:=by rw[q2H (by omega)];obtain⟨c,l,e,d⟩:=q8l (q5h h);intro k;rw[q5W] at k;simp only[e,List.getElem_cons_zero] at k;exact d (UInt8.toNat_inj.1 k)
 have f:q3z (q0J (q0E n)) ((q0J (q0E n)).size-1)≠48:=by rw[q2H (by omega)];have:=q2v (q0E n) (by omega);simp only[a,this];omega
 rw[k02 b,k02 f];rfl
theorem qbD(h:0<n)(e:Int):wo (q0E n) (e+tz n)=wo n e:=by unfold wo;rw[Int.add_comm,q2T,<- k1T,q24,<- k2V,q5i h]
theorem q7Y(h:n<10^k)(hk:1<=k):q0K n<=k:=by
 rcases k01 n with a|a
 ·subst a;show Lib.nDigits 0<=k;rw[qe (by decide)];exact hk
 ·have c:=q66 a;rcases k0A (q0K n-1) k with b|b
  ·have:=q16 n;omega
  ·have:=k00 (n:=10) (by decide) b;omega
theorem qbH{v:Rat}(hv:0<v):v<tp ((q0K v.num.natAbs:Int)-q0K v.den+1):=by
 have e:=q18 hv;have f:=qd v.num.natAbs;have a:=q66 v.den_pos;have g:=q3j v;have h:=q16 v.den;have i:(v.num:Rat)<tp (q0K v.num.natAbs):=by
  rw[q24];have:v.num<((10^q0K v.num.natAbs:Nat):Int):=by unfold q0K;omega
  rw[<- k0J]
  exact_mod_cast this
 have b:tp ((q0K v.den:Int)-1)<=(v.den:Rat):=by
  rw[show(q0K v.den:Int)-1=((q0K v.den-1:Nat):Int) by omega,q24]
  exact_mod_cast a
 have j:v*tp ((q0K v.den:Int)-1)<=v*(v.den:Rat):=k1s b (k1w hv);have c:v*tp ((q0K v.den:Int)-1)<tp (q0K v.num.natAbs):=by grind
 have d:=k1N c (q23 (-((q0K v.den:Int)-1)));rw[k1T,k31 (tp ((q0K v.den:Int)-1)),q2S,k1Z,<- q2T] at d
 rwa [show(q0K v.num.natAbs:Int)-q0K v.den+1=q0K v.num.natAbs + -((q0K v.den:Int)-1) by omega]
theorem qcq{v:Rat}(hv:0<v):v<tp (top v+1):=by
 have h:=qbH hv;unfold top;split
 ·rename_i k
  rwa [show(q0K v.num.natAbs:Int)-q0K v.den-1+1=(q0K v.num.natAbs:Int)-q0K v.den by omega]
 ·exact h
theorem qdB{v:Rat}(hv:0<v)(h:top v+1-e=k):fl v e<10^k:=by
 have b:=k1N (qcq hv) (q23 (-e));rw[<- q2T,show top v+1 + -e=(k:Int) by omega,q24] at b;have c:=Rat.floor_le (v*tp (-e));have a:(((v*tp (-e)).floor:Int):Rat)<((10^k:Nat):Rat):=by grind
 have d:(v*tp (-e)).floor<((10^k:Nat):Int):=by
  rw[<- k0J] at a
  exact_mod_cast a
 have f:0<=(v*tp (-e)).floor:=k34.2 (by simpa using k1w (q3n hv e));unfold fl;omega
theorem q7W{v:Rat}(hv:0<v)(h:top v-e=k):q0K (fl v e)<=k+1/\q0K (ce v e)<=k+2:=by
 have a:=qdB hv (e:=e) (k:=k+1) (by omega);refine⟨q7Y a (by omega),q7Y (k:=k+2) ?_ (by omega)⟩;have b:ce v e<=fl v e+1:=by unfold ce;split<;>omega
 have:10^(k+2)=10^(k+1)*10:=k0d ..;have:=k1g (n:=k+1) (show 0<10 by decide);omega
theorem qag{v:Rat}(hv:0<v)(h:e<=top v):1<=ce v e:=by have:=q86 hv h;unfold ce;split<;>omega
theorem q6N{s:Span}{v:Rat}(hv:0<v)(hin:s.has v=qc)(hl:s.lo<s.hi)(h1:Qb B s.lo)(h2:Qb B s.hi)(h3:Qb B v):∃k:Nat,k<=3*B/\q2s s v (top v-k)=qc/\∀j,j<k->q2s s v (top v-j)=qh:=by
 obtain⟨k,c,d⟩:=qdl hv hin hl h1 h2 h3;clear h1 h2 h3
 induction k using Nat.strongRecOn with
 | _ k ih =>
  by_cases h:∃j,j<k/\q2s s v (top v-j)=qc
  ·obtain⟨j,a,b⟩:=h;exact ih j a (by omega) b
  ·refine⟨k,c,d,fun j a=>?_⟩;rcases Bool.eq_false_or_eq_true (q2s s v (top v-j)) with e|e
   ·exact absurd ⟨j,a,e⟩ h
   ·exact e
theorem q6f{s:Span}{v:Rat}:∀(k K:Nat) (e:Int),k<=K->q2s s v (e-k)=qc->(∀j,j<k->q2s s v (e-j)=qh)->go s v K e=(q74 s v (e-k),e-k)
 | 0,K,e,hK,h,_=>by rw[show e-((0:Nat):Int)=e by omega] at h ⊢;exact qb5 h
 | k+1,K,e,hK,h,hj=>by
  obtain⟨K,rfl⟩:∃K',K=K'+1:=⟨K-1,by omega⟩;have h0:=hj 0 (by omega);rw[show e-((0:Nat):Int)=e by omega] at h0;rw[qb6 h0,show e-((k+1:Nat):Int)=e-1-(k:Int) by omega];refine q6f k K (e-1) (by omega) (by rwa [show e-1-(k:Int)=e-((k+1:Nat):Int) by omega]) fun j hj'=>?_
  have:=hj (j+1) (by omega)
  rwa [show e-1-(j:Int)=e-((j+1:Nat):Int) by omega]
def q0Q(s:Span)(v:Rat):Nat × Int:=go s v 6600 (top v)
theorem q8t{s:Span}{v:Rat}(hk:k<=6600)(h:q2s s v (top v-k)=qc)(hj:∀j,j<k->q2s s v (top v-j)=qh):q0Q s v=(q74 s v (top v-k),top v-k):=q6f k 6600 _ hk h hj
end Sh
end Go.Proofs.YtabcgemembkkcaaGreatDoor
