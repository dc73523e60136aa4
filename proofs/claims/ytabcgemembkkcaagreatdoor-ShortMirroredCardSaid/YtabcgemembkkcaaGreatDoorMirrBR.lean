/- Lemmas. -/
import Derived.Test.YtabcgemembkkcaaGreatDoorMirrBQ
import Derived.Test.YtabcgemembkkcaaGreatDoorMirrBP
set_option linter.all false
set_option maxHeartbeats 4000000
set_option maxRecDepth 100000
open Go.Proofs.Tryz
open Option renaming none->qa,some->qb
open Bool renaming false->qc,true->qk
open Go.Proofs.Tryz renaming prog->qd
open Decidable renaming decide->qe
open Go renaming RowKit.Below.refl->qf,World->qh,Calls->qi,bodyPost_ret->qj,IntWalk.i64_in->ql,Addr->qm
open Go.RowKit renaming Below->qg
namespace Go.Proofs.YtabcgemembkkcaaGreatDoor
variable{M n c N g:Nat}{w w':qh}{A:Option qm}{x:Int}{neg:Bool}{t:TypeId}{cs:List Value}
namespace Hx
open Go Go.RowKit R5 Scn Fms Exa
abbrev awP:ByteArray:=⟨#[48,120,49,46,56,112,45,50,51]⟩
abbrev awQ:ByteArray:=⟨#[48,120,49,112,49]⟩
abbrev awR:ByteArray:=⟨#[48,120,49,112,45,50,53]⟩
abbrev awD:ByteArray:=⟨#[48,120,55,101,48,49]⟩
abbrev awL:ByteArray:=⟨#[48,120,55,103,48,49]⟩
abbrev fM(E F b:Nat):Nat:=mantOf F (q0E E F b) (q0W F b)
abbrev fN(E F b:Nat):Nat:=oddN (fM E F b)
abbrev fX(E F b:Nat):Int:=qd7 (fM E F b) (powOf E F (q0E E F b))
abbrev fG(E F b:Nat):Bool:=qd8 (q2x E F b) (fM E F b)
theorem oddN_odd(h:0<M):oddN M%2=1:=by unfold oddN;rw[k0o (by omega)];obtain⟨m,a⟩:=q2i h;have e:M/2^tz M=2*m+1:=Nat.div_eq_of_eq_mul_right (k0c _) a;omega
theorem oddN_pos(h:0<M):0<oddN M:=by have:=oddN_odd h;omega
def qcX(N:Nat):Nat:=(bl N+up4 (bl N)-1)/4
def txN(N q2U:Nat):Nat:=if N=0 then 0 else N*2^(up4 (bl N)+4*q2U)
def txX(N:Nat)(x:Int):Int:=if N=0 then 0 else x+(bl N:Int)-1
end Hx
namespace Exa
open Go Go.RowKit R5 Scn Sh Fms
def Rb(q:Rat):Prop:=q=0\/∃(K:Nat) (p:Int),0<K/\q=dq K p/\bl K<=80 /\ -2900<=p/\p<=2900
theorem DQ.of_odd{q:Rat}(hr:Rd w A n c (toL N))(ho:N%2=1)(he:q=dq N x)(hb:Rb q)(hz:A=qa->c=0):DQ w A n c N x q:=by
 rcases hb with h|⟨K,p,a,h,d,e,f⟩
 ·exfalso;have:=q7F (N:=N) (by omega) x;rw[<- he,h] at this;exact absurd this (Rat.lt_irrefl)
 ·obtain⟨b,g,i⟩:=q76 ho a (he.symm.trans h);have:=q15 b;exact⟨hr,he,.inl ho,by omega,by omega,by omega,hz⟩
theorem DQ.of_zero(hr:Rd w A n c (toL 0))(hz:A=qa->c=0):DQ w A n c 0 0 0:=⟨hr,(q25 0).symm,.inr ⟨rfl,rfl⟩,by decide,by decide,by decide,hz⟩
theorem q77(h:0<N)(x:Int):dq (N/2^Go.Proofs.YtabcgemembkkcaaGreatDoor.tz N) (x+(Go.Proofs.YtabcgemembkkcaaGreatDoor.tz N:Int))=dq N x:=by
 have:=Hx.odd_split h
 conv=>rhs;rw[this]
 rw[q2b];unfold Hx.oddN;rw[k0o (by omega)]
theorem qcf(h:0<N):Go.Proofs.YtabcgemembkkcaaGreatDoor.tz N<=bl N:=by
 have e:=Hx.odd_split h;have b:=q0J N;have a:=Hx.oddN_pos h;have c:1*2^Go.Proofs.YtabcgemembkkcaaGreatDoor.tz N<=Hx.oddN N*2^Go.Proofs.YtabcgemembkkcaaGreatDoor.tz N:=k0q _ a;rcases k0y (bl N) (Go.Proofs.YtabcgemembkkcaaGreatDoor.tz N) with k|k
 ·have:=k04 (n:=2) (by decide) (k16 k);omega
 ·exact k
theorem qaH(A:Option qm)(n c N:Nat)(x:Int)(w:qh)(ha:Rd w A n c (toL N))(hn:n<=16384)(hb:Rb (dq N x))(h1:-100000<=x)(h2:x<=100000)(hst:Std w):qi qd 65 #[.bool qc,q0I A n c,.int .i64 x] w (DQP (dq N x) w):=by
 rcases k01 N with a|a
 ·subst a;have i:n=0:=by have:=ha.words;rw[q0s] at this;exact this.symm
  subst i;refine(qc0 qc A c x w ha).mono ?_;rintro e j ⟨f,m,rfl,d,-,g⟩;have l:m=0:=by have:=d.words;rw[q0s] at this;exact this.symm
  rw[q25];exact⟨f,m,m,0,0,rfl,DQ.of_zero d (fun _=>l),g⟩
 ·have p:=Rtp.wds_bl ha hn;have q:=qcf a;refine(qc9 qc A n c N x w ha a hst hn (by omega) (by omega)).mono ?_;rintro e j ⟨f,m,rfl,d,-,g⟩;have o:(N/2^Go.Proofs.YtabcgemembkkcaaGreatDoor.tz N)%2=1:=by
   have:=Hx.oddN_odd a;unfold Hx.oddN at this
   rwa [k0o (by omega)] at this
  refine⟨f,m,m,_,_,rfl,DQ.of_odd d o (q77 a x).symm hb (fun e=>?_),g⟩;rcases k01 m with k|k
  ·exact k
  ·obtain⟨b,off,h,-⟩:=d.cell k;rw[e] at h;cases h
def sq(neg:Bool)(q:Rat):Rat:=if neg then -q else q
theorem qcj(neg:Bool)(N:Nat)(x:Int):sq neg (dq N x)=mkRat (sg neg (N*p2 x)) (p2 (-x)):=by
 unfold sq;rw[qbM];cases neg
 ·rfl
 ·show -mkRat _ _=mkRat (-((N*p2 x:Nat):Int)) _;rw[Rat.neg_mkRat]
theorem q5o(ho:N%2=1\/(N=0/\x=0)):(sq neg (dq N x)).num=sg neg (N*p2 x)/\(sq neg (dq N x)).den=p2 (-x):=by
 have c:Nat.gcd (sg neg (N*p2 x)).natAbs (p2 (-x))=1:=by
  rw[q0z];rcases ho with h|⟨h,a⟩
  ·rcases k2J 0 x with k|k
   ·rw[q0l (n:=-x) (by omega)];exact k2n _
   ·rw[q0l (n:=x) (by omega),k0A];unfold p2;refine Nat.Coprime.pow_right _ ?_;show Nat.gcd N 2=1;rw[k19,k2z,h];exact Nat.gcd_one_left _
  ·rw[a];exact k2n _
 have b:=q1t (q0L (-x)) c;have a:=Rtp.low_num (p:=sg neg (N*p2 x)) (q0L (-x));rw[qcj];exact⟨a.1.symm.trans b.1,a.2.symm.trans b.2⟩
theorem q9Q(ho:N%2=1\/(N=0/\x=0))(h0:neg=qk->0<N):neg=qe ((sq neg (dq N x)).num<0):=by
 rw[(q5o ho).1];cases neg
 ·exact(k00 (by show ¬(((N*p2 x:Nat):Int)<0);omega)).symm
 ·have:0<N*p2 x:=k0l (h0 rfl) (q0L _);exact(k03 (by show -((N*p2 x:Nat):Int)<0;omega)).symm
theorem q9D(neg:Bool)(A:Option qm)(n c N:Nat)(x:Int)(q:Rat)(w:qh)(h:DQ w A n c N x q)(h0:neg=qk->0<N):qi qd 25 #[q14 neg A n c x] w (Rtp.RqP (sq neg q) w):=by
 obtain⟨S,U⟩:=yx ((w.alloc (.cells #[.bool neg,.slice A n c,.int .i64 x] 62)).alloc (.cells #[.bool qc,.slice qa 0 0,.slice qa 0 0] 39));have i:Cx w [(w.heap.size+1,39,[.bool qc,.slice qa 0 0,.slice qa 0 0]),(w.heap.size,62,[.bool neg,.slice A n c,.int .i64 x])] S:=by rw[U];exact((Cx.nil w).new _ [_,_,_] rfl).new _ [_,_,_] (by simp)
 have hn:=h.n_le;have d3:=h.bn;have e9:=h.b1;have f0:=h.b2;have c7:=h.ok neg h0;have V:=q9Q h.o h0;obtain⟨W,X⟩:=q5o (neg:=neg) h.o;have hq:=h.e;rw[<- hq] at V W X;have a0:(sq neg q).num.natAbs=N*p2 (max 0 x):=by rw[W,q0z];unfold p2;rw[show(max 0 x).toNat=x.toNat by omega]
 have a1:(sq neg q).den=1*p2 (max 0 (-x)):=by rw[X,k0Q];unfold p2;rw[show(max 0 (-x)).toNat=(-x).toNat by omega]
 obtain⟨Pn,Y⟩:=yx ((sq neg q).num.natAbs);obtain⟨Pd,Z⟩:=yx ((sq neg q).den);have c8:=vv fun w' (k:DQ w' A n c N x q)=>Check neg A n c (toL N) x w' k.r
 rw[c7] at c8;have c9:=vv fun w' (k:DQ w' A n c N x q)=>q8h (max 0 x) k.r hn (by omega) (by omega) (by omega)
 rw[<- a0,<- Y] at c9;have O:=vv fun A2 w' (k:RN w' A2 1 1 1)=>q8h (max 0 (-x)) k.r (by decide) (by decide) (by omega) (by omega)
 rw[<- a1,<- Z] at O;have d4:=vv V;have d5:=vv Y;have d6:=vv Z;have f1:IntKind.i64.wrap (-x) = -x:=ql _ (by omega);have f:=vv (h.below i.low);have a:=vv i;have HW:=vv U;clear U i h c7 V W X hq a0 a1 Y Z h0 hn d3;have d7:S.cell? ⟨w.heap.size,0,qa⟩=qb (.bool neg):=(a.o.get 1 rfl).cell 0;have d8:S.cell? ⟨w.heap.size,1,qa⟩=qb (.slice A n c):=(a.o.get 1 rfl).cell 1;have d9:S.cell? ⟨w.heap.size,2,qa⟩=qb (.int .i64 x):=(a.o.get 1 rfl).cell 2;have e0:=(a.o.get 1 rfl).lt;go_enter func25,ntmps25;go_wp2_with fail;rw[<- HW.o];go_wp2_with fail;refine(c8.o _ f.o).mono ?_;rintro e w5 ⟨rfl,b⟩;replace a:=vv (a.o.step b);replace f:=vv (f.o.below b);clear d7 d8 d9 e0 b;have e1:w5.cell? ⟨w.heap.size,0,qa⟩=qb (.bool neg):=(a.o.get 1 rfl).cell 0;have e2:w5.cell? ⟨w.heap.size,1,qa⟩=qb (.slice A n c):=(a.o.get 1 rfl).cell 1;have e3:w5.cell? ⟨w.heap.size,2,qa⟩=qb (.int .i64 x):=(a.o.get 1 rfl).cell 2;have e4:=(a.o.get 1 rfl).lt;go_wp2_with fail;refine(c9.o _ f.o).mono ?_;rintro e E ⟨G,p,rfl,d0,-,b⟩;replace a:=vv (a.o.step b);replace f:=vv (f.o.below b);have g:=vv (RN.mk d0);clear e1 e2 e3 e4 b d0;have a9:E.cell? ⟨w.heap.size,0,qa⟩=qb (.bool neg):=(a.o.get 1 rfl).cell 0;have b0:E.cell? ⟨w.heap.size,1,qa⟩=qb (.slice A n c):=(a.o.get 1 rfl).cell 1;have b3:E.cell? ⟨w.heap.size,2,qa⟩=qb (.int .i64 x):=(a.o.get 1 rfl).cell 2;have b4:=(a.o.get 1 rfl).lt;go_wp2_with fail;obtain⟨e5,a5⟩:=yx (E.heap.size);obtain⟨F,P⟩:=yx (E.alloc (.cells #[.slice G p p] 37));have b:qg E.heap.size E F:=by rw[P];exact(qf _ _).alloc lr _
 have i:=a.o.new 37 [.slice G p p] a5;rw[<- P] at i 
 try rw[<- P]
 try rw[<- a5]
 replace a:=vv i;replace f:=vv (f.o.below b);replace g:=vv (g.o.below b);clear a9 b0 b3 b4 P b i a5;have a2:F.cell? ⟨w.heap.size,0,qa⟩=qb (.bool neg):=(a.o.get 2 rfl).cell 0;have a3:F.cell? ⟨w.heap.size,1,qa⟩=qb (.slice A n c):=(a.o.get 2 rfl).cell 1;have a4:F.cell? ⟨w.heap.size,2,qa⟩=qb (.int .i64 x):=(a.o.get 2 rfl).cell 2;have b5:=(a.o.get 2 rfl).lt;refine q02 (fun w'=>w'.cell? ⟨w.heap.size,0,qa⟩=qb (.bool neg)/\w'.cell? ⟨w.heap.size,1,qa⟩=qb (.slice A n c)/\w'.cell? ⟨w.heap.size,2,qa⟩=qb (.int .i64 x)) 11
  (.still 1 (.still 2 (.still 3 (.still 4 (.two 0 (.two 5 (.still 6 (.still 7 (.still 8 (.one 9 (.one 10 .done))))) 9 (.one 5 (.still 6 (.still 7 (.still 8 (.one 10 .done)))))) 9 (.one 0 (.one 5 (.still 6 (.still 7 (.still 8 (.one 10 .done))))))))))) (by kernel_rfl) (by kernel_rfl) (fun _ _ d _ _ h=>by cases d<;>exact h) ⟨a2,a3,a4⟩ (fun hS0=>?_)
 iterate 4
  refine q01 (v:=?_) rfl (by rfl) ?_ ?_;rotate_left
  ·intro w a6;go_simp;with_reducible rfl
  simp only[Act.put,sa,sb,sc]
 clear b5 a2 a3 a4;obtain⟨H,a7⟩:=yx (F.drew);have b:qg F.heap.size F H:=by rw[a7];exact q05 (qf _ _)
 replace a:=vv (a.o.step b);replace f:=vv (f.o.below b);replace g:=vv (g.o.below b);rw[<- a7] at hS0 ⊢;clear a7 b;refine q0C rfl (by rfl) rfl (by rfl) (fun K hK=>?_) (fun K hK=>?_)
 focus
  go_simp;refine(Nat_.Of1 H).mono ?_;rintro e Q ⟨A2,rfl,I,b⟩;replace a:=vv (a.o.step b);replace f:=vv (f.o.below b);replace g:=vv (g.o.below b);have j:=vv (RN.mk I);clear b I;go_wp2_with fail;refine hK.out _ _ ⟨(a.o.get 2 rfl).cell 0,(a.o.get 2 rfl).cell 1,(a.o.get 2 rfl).cell 2⟩ (fun z=>?_);clear hK;refine q0C rfl (by rfl) rfl (by rfl) (fun K hK=>?_) (fun K hK=>?_)
  focus
   go_simp;refine(O.o _ _ j.o).mono ?_;rintro e R ⟨D,s,rfl,C,-,b⟩;replace a:=vv (a.o.step b);replace f:=vv (f.o.below b);replace g:=vv (g.o.below b);replace j:=vv (j.o.below b);have y:=vv (RN.mk C);clear b C;go_wp2_with fail;refine hK.out _ _ ⟨(a.o.get 2 rfl).cell 0,(a.o.get 2 rfl).cell 1,(a.o.get 2 rfl).cell 2⟩ (fun z=>?_);clear hK
   iterate 3
    refine q01 (v:=?_) rfl (by rfl) ?_ ?_;rotate_left
    ·intro w a6;go_simp;with_reducible rfl
    simp only[Act.put,sa,sb,sc]
   refine q03 rfl (by rfl) (fun K hK=>?_);go_simp;obtain⟨T,t⟩:=yx (R.heap.size);obtain⟨d1,l⟩:=yx (R.alloc (.cells #[.slice qa 0 0] 37));have b:qg R.heap.size R d1:=by rw[l];exact(qf _ _).alloc lr _
   have i:=a.o.new 37 [.slice qa 0 0] t;rw[<- l] at i
   try rw[<- l]
   try rw[<- t]
   replace a:=vv i;replace f:=vv (f.o.below b);replace g:=vv (g.o.below b);replace j:=vv (j.o.below b);replace y:=vv (y.o.below b);clear b i l t;refine hK.out _ _ ⟨(a.o.get 3 rfl).cell 0,(a.o.get 3 rfl).cell 1,(a.o.get 3 rfl).cell 2⟩ (fun z=>?_);clear hK;obtain⟨wz,M⟩:=yx (d1);subst M
  rotate_left 1
  focus
   go_simp;obtain⟨T,t⟩:=yx (Q.heap.size);obtain⟨e6,l⟩:=yx (Q.alloc (.cells #[.slice qa 0 0] 37));have b:qg Q.heap.size Q e6:=by rw[l];exact(qf _ _).alloc lr _
   have i:=a.o.new 37 [.slice qa 0 0] t;rw[<- l] at i
   try rw[<- l]
   try rw[<- t]
   replace a:=vv i;replace f:=vv (f.o.below b);replace g:=vv (g.o.below b);replace j:=vv (j.o.below b);clear b i l t;refine hK.out _ _ ⟨(a.o.get 3 rfl).cell 0,(a.o.get 3 rfl).cell 1,(a.o.get 3 rfl).cell 2⟩ (fun z=>?_);clear hK;refine q03 rfl (by rfl) (fun K hK=>?_);go_simp;refine(O.o _ _ j.o).mono ?_;rintro e e7 ⟨D,s,rfl,C,-,b⟩;replace a:=vv (a.o.step b);replace f:=vv (f.o.below b);replace g:=vv (g.o.below b);replace j:=vv (j.o.below b);have y:=vv (RN.mk C);clear b C;go_wp2_with fail;refine hK.out _ _ ⟨(a.o.get 3 rfl).cell 0,(a.o.get 3 rfl).cell 1,(a.o.get 3 rfl).cell 2⟩ (fun z=>?_);clear hK
   iterate 3
    refine q01 (v:=?_) rfl (by rfl) ?_ ?_;rotate_left
    ·intro w a6;go_simp;with_reducible rfl
    simp only[Act.put,sa,sb,sc]
   obtain⟨wz,M⟩:=yx (e7);subst M
 rotate_left 2
 focus
  go_simp;obtain⟨T,t⟩:=yx (H.heap.size);obtain⟨d2,l⟩:=yx (H.alloc (.cells #[.slice qa 0 0] 37));have b:qg H.heap.size H d2:=by rw[l];exact(qf _ _).alloc lr _
  have i:=a.o.new 37 [.slice qa 0 0] t;rw[<- l] at i
  try rw[<- l]
  try rw[<- t]
  replace a:=vv i;replace f:=vv (f.o.below b);replace g:=vv (g.o.below b);clear b i l t;refine hK.out _ _ ⟨(a.o.get 3 rfl).cell 0,(a.o.get 3 rfl).cell 1,(a.o.get 3 rfl).cell 2⟩ (fun z=>?_);clear hK;refine q03 rfl (by rfl) (fun K hK=>?_);go_simp;refine(Nat_.Of1 d2).mono ?_;rintro e f2 ⟨A2,rfl,I,b⟩;replace a:=vv (a.o.step b);replace f:=vv (f.o.below b);replace g:=vv (g.o.below b);have j:=vv (RN.mk I);clear b I;go_wp2_with fail;refine hK.out _ _ ⟨(a.o.get 3 rfl).cell 0,(a.o.get 3 rfl).cell 1,(a.o.get 3 rfl).cell 2⟩ (fun z=>?_);clear hK;refine q03 rfl (by rfl) (fun K hK=>?_);go_simp;refine(O.o _ _ j.o).mono ?_;rintro e e8 ⟨D,s,rfl,C,-,b⟩;replace a:=vv (a.o.step b);replace f:=vv (f.o.below b);replace g:=vv (g.o.below b);replace j:=vv (j.o.below b);have y:=vv (RN.mk C);clear b C;go_wp2_with fail;refine hK.out _ _ ⟨(a.o.get 3 rfl).cell 0,(a.o.get 3 rfl).cell 1,(a.o.get 3 rfl).cell 2⟩ (fun z=>?_);clear hK
  iterate 3
   refine q01 (v:=?_) rfl (by rfl) ?_ ?_;rotate_left
   ·intro w a6;go_simp;with_reducible rfl
   simp only[Act.put,sa,sb,sc]
  obtain⟨wz,M⟩:=yx (e8);subst M
 all_goals
  refine q03 rfl (by rfl) (fun K hK=>?_);have m:=vv (a.o.get 0 rfl)
  with_reducible refine q0u 37 (.tmp 7) (.tmp 34) rfl T [.slice D s s] rfl rfl 37 _ m.o (by kernel_rfl) rfl rfl ?_
  intro J L u;replace a:=vv (a.o.put 0 rfl L u);replace f:=vv (f.o.apart_ m.o rfl u);replace g:=vv (g.o.apart_ m.o rfl u);replace j:=vv (j.o.apart_ m.o rfl u);replace y:=vv (y.o.apart_ m.o rfl u);clear m L u;refine hK.out _ _ ⟨(a.o.get 3 rfl).cell 0,(a.o.get 3 rfl).cell 1,(a.o.get 3 rfl).cell 2⟩ (fun z=>?_);clear hK;refine q07 ?_;simp only[k0H,k0M];have b6:J.cell? ⟨T,0,qa⟩=qb (.slice D s s):=(a.o.get 0 rfl).cell 0;have b7:=(a.o.get 0 rfl).lt;have b8:J.cell? ⟨e5,0,qa⟩=qb (.slice G p p):=(a.o.get 1 rfl).cell 0;have b9:=(a.o.get 1 rfl).lt;have c0:J.cell? ⟨w.heap.size,0,qa⟩=qb (.bool neg):=(a.o.get 3 rfl).cell 0;have c1:J.cell? ⟨w.heap.size,1,qa⟩=qb (.slice A n c):=(a.o.get 3 rfl).cell 1;have c2:J.cell? ⟨w.heap.size,2,qa⟩=qb (.int .i64 x):=(a.o.get 3 rfl).cell 2;have c3:=(a.o.get 3 rfl).lt;have m:=vv (a.o.get 2 rfl);go_wp2_with (with_reducible refine q00 rfl 39 (.tmp 2) (.tmp 44) rfl (w.heap.size+1) [.bool neg,.slice G p p,.slice D s s] rfl rfl 39 _ m.o (by kernel_rfl) rfl rfl ?_);intro a8 L u;clear m;have m:=vv (a.o.get 2 rfl);replace a:=vv (a.o.put 2 rfl L u);replace g:=vv (g.o.apart_ m.o rfl u);replace y:=vv (y.o.apart_ m.o rfl u);clear b6 b7 b8 b9 c0 c1 c2 c3 m L u;go_wp2;have c4:a8.cell? ⟨(w.heap.size+1),0,qa⟩=qb (.bool neg):=(a.o.get 2 rfl).cell 0;have c5:a8.cell? ⟨(w.heap.size+1),1,qa⟩=qb (.slice G p p):=(a.o.get 2 rfl).cell 1;have c6:a8.cell? ⟨(w.heap.size+1),2,qa⟩=qb (.slice D s s):=(a.o.get 2 rfl).cell 2;exact qj (v:=.tuple #[q0i neg G p p D s s,.int .i64 0]) (by simp [results,results25,go_sem,c4,c5,c6]) rfl ⟨neg,G,p,D,s,rfl,⟨d4.o,by rw[<- d5.o];exact g.o.r,by rw[<- d6.o];exact y.o.r⟩,a.o.low⟩
end Exa
namespace Dcm
open Go Go.RowKit R5 Scn Sh Dec
theorem qa5(w:qh):qi qd 51 #[.string ⟨#[]⟩] w fun e w'=>e=.returned (.tuple #[q0I qa 0 0,.int .i64 0])/\qg w.heap.size w w':=by
 obtain⟨b,a⟩:=yx (w.alloc (.cells #[.slice qa 0 0] 37));have c:Cx w [(w.heap.size,37,[.slice qa 0 0])] b:=by rw[a];exact(Cx.nil w).new _ [_] rfl
 have d:=vv c;have g:=vv a;clear a c;go_enter func51,ntmps51;go_wp2_with fail;rw[<- g.o];have f:b.cell? ⟨w.heap.size,0,qa⟩=qb (.slice qa 0 0):=(d.o.get 0 rfl).cell 0;exact qj (v:=.tuple #[q0I qa 0 0,.int .i64 0]) (by simp [results,results51,go_sem,f]) rfl ⟨rfl,d.o.low⟩
theorem qa4(s:ByteArray)(w:qh)(hd:q86 s)(h1:s.size<=65536):qi qd 51 #[.string s] w fun e w'=>∃A n,e=.returned (.tuple #[q0I A n n,.int .i64 0])/\Rd w' A n n (toL (dvk s s.size))/\qg w.heap.size w w':=by
 rcases k01 s.size with a|a
 ·have e:s=⟨#[]⟩:=R16.bytes_none a;rw[e];exact(qa5 w).mono fun e w' ⟨k,hB⟩=>⟨qa,0,k,Rd.nil _,hB⟩
 ·exact qa3 s w hd a h1
theorem wo_mk(neg:Bool)(N:Nat)(x:Int):Go.Proofs.YtabcgemembkkcaaGreatDoor.Exa.sq neg (wo N x)=mkRat (sg neg (N*t10 x)) (t10 (-x)):=by
 have e:wo N x=mkRat ((N*t10 x:Nat):Int) (t10 (-x)):=by
  unfold wo tp
  conv=>lhs;lhs;rw[show(N:Rat)=mkRat (N:Int) 1 by rw[k2c,k0Y]]
  rw[Rat.mkRat_mul_mkRat,k0Q,k08]
 unfold Go.Proofs.YtabcgemembkkcaaGreatDoor.Exa.sq;rw[e];cases neg
 ·rfl
 ·show -mkRat _ _=mkRat (-((N*t10 x:Nat):Int)) _;rw[Rat.neg_mkRat]
theorem q6J(h:x<=0):t10 x=1:=by unfold t10;rw[show x.toNat=0 by omega]
theorem qbK(s:ByteArray)(hd:q86 s):bl (dvk s s.size)<=4*s.size+1:=by have h:=q4C s hd s.size lr;exact k06 (q15 (k16 h)) (q2n _)
theorem RatioE(neg:Bool)(s:ByteArray)(x:Int)(w:qh)(hm:q0G s x=qk)(hs:s.size<=20000)(h1:-20000<=x)(h2:x<=20000)(hst:Std w):qi qd 19 #[decV neg s x] w (Rtp.RqP (Go.Proofs.YtabcgemembkkcaaGreatDoor.Exa.sq neg (wo (dvk s s.size) x)) w):=by
 have hd:q86 s:=by
  rcases k01 s.size with h0|h0
  ·intro k hk;omega
  ·unfold q0G at hm;rw[k0o (by omega)] at hm;simp only[k0T] at hm;exact q2c.1 hm.2.1.1
 obtain⟨S,V⟩:=yx ((w.alloc (.cells #[.bool neg,.string s,.int .i64 x] 27)).alloc (.cells #[.bool qc,.slice qa 0 0,.slice qa 0 0] 39));have l:Cx w [(w.heap.size+1,39,[.bool qc,.slice qa 0 0,.slice qa 0 0]),(w.heap.size,27,[.bool neg,.string s,.int .i64 x])] S:=by rw[V];exact((Cx.nil w).new _ [_,_,_] rfl).new _ [_,_,_] (by simp)
 have d5:=vv fun w=>Go.Proofs.YtabcgemembkkcaaGreatDoor.Dec.Check neg s x w (by omega)
 rw[Go.Proofs.YtabcgemembkkcaaGreatDoor.Dec.decErr_yes (by omega) hm] at d5;have d6:=vv fun w=>qa4 s w hd (by omega)
 have d7:=qbK s hd;obtain⟨N,hN⟩:=yx (dvk s s.size);rw[<- hN] at d6 d7 ⊢;obtain⟨k,hk⟩:∃k:Nat,max x (-x)=k:=⟨(max x (-x)).toNat,by omega⟩;have d8:k<=20000:=by omega
 have a1:=q2n k;have W:=vv fun w=>Pnt.PowTen k w d8
 rw[<- hk] at W;obtain⟨Q,L⟩:=yx (10^k);rw[<- L] at W a1;have d9:0<Q:=by rw[L];exact k1x (by decide)
 have e9:=q1W N Q;have f0:=vv fun A n B m w' (k1:RN w' A n n N) (k2:RN w' B m m Q)=>Pnt.Mul A n n N B m m Q w' k1.r k2.r (Rtp.rd_le k1.r (by omega)) (Rtp.rd_le k2.r (by omega)) (by have a:=Rtp.rd_le (k:=2501) k1.r (by omega);have b:=Rtp.rd_le (k:=2501) k2.r (by omega);omega) (Pnt.words_bl' (by omega))
 have e0:=vv fun A n M B m D w' (k1:RN w' A n n M) (k2:RN w' B m m D) (b1:bl M<=180000) (b2:bl D<=180000) (hD:0<D) (hs:Std w')=>Rtp.MakeQ neg A n n B m m M D w' k1.r k2.r (Rtp.rd_le k1.r (by omega)) (Rtp.rd_le k2.r (by omega)) hD hs
 have R:Hid (bl N<=180000/\bl Q<=180000/\bl (N*Q)<=180000/\0<Q):=vv ⟨by omega,by omega,by omega,d9⟩;have g5:IntKind.i64.wrap (-x) = -x:=ql _ (by omega);have e1:x<0->Go.Proofs.YtabcgemembkkcaaGreatDoor.Exa.sq neg (wo N x)=mkRat (sg neg N) Q:=fun h=>by rw[wo_mk,q6J (by omega),k0A,L];unfold t10;rw[show(-x).toNat=k by omega]
 have e2:0<=x->Go.Proofs.YtabcgemembkkcaaGreatDoor.Exa.sq neg (wo N x)=mkRat (sg neg (N*Q)) 1:=fun h=>by rw[wo_mk,q6J (x:=-x) (by omega),L];unfold t10;rw[show x.toNat=k by omega]
 have f1:=vv e1;have f2:=vv e2;have e3:=vv hst;have c:=vv l;have HW:=vv V;clear V l hst hm hs hd d7 hN hk d8 a1 L d9 e9 e1 e2;have f3:S.cell? ⟨w.heap.size,0,qa⟩=qb (.bool neg):=(c.o.get 1 rfl).cell 0;have f4:S.cell? ⟨w.heap.size,1,qa⟩=qb (.string s):=(c.o.get 1 rfl).cell 1;have f5:S.cell? ⟨w.heap.size,2,qa⟩=qb (.int .i64 x):=(c.o.get 1 rfl).cell 2;have f6:=(c.o.get 1 rfl).lt;go_enter func19,ntmps19;go_wp2_with fail;rw[<- HW.o];go_wp2_with fail;refine(d5.o _).mono ?_;rintro e w5 ⟨rfl,f⟩;replace c:=vv (c.o.step f);clear f3 f4 f5 f6 f;have f7:w5.cell? ⟨w.heap.size,0,qa⟩=qb (.bool neg):=(c.o.get 1 rfl).cell 0;have f8:w5.cell? ⟨w.heap.size,1,qa⟩=qb (.string s):=(c.o.get 1 rfl).cell 1;have f9:w5.cell? ⟨w.heap.size,2,qa⟩=qb (.int .i64 x):=(c.o.get 1 rfl).cell 2;have g0:=(c.o.get 1 rfl).lt;go_wp2_with fail;refine(d6.o _).mono ?_;rintro e G ⟨A1,I,rfl,e4,f⟩;replace c:=vv (c.o.step f);have p:=vv (RN.mk e4);clear f7 f8 f9 g0 f e4;have b7:G.cell? ⟨w.heap.size,0,qa⟩=qb (.bool neg):=(c.o.get 1 rfl).cell 0;have b8:G.cell? ⟨w.heap.size,1,qa⟩=qb (.string s):=(c.o.get 1 rfl).cell 1;have b9:G.cell? ⟨w.heap.size,2,qa⟩=qb (.int .i64 x):=(c.o.get 1 rfl).cell 2;have c0:=(c.o.get 1 rfl).lt;go_wp2_with fail;obtain⟨J,u⟩:=yx (G.heap.size);obtain⟨g1,j⟩:=yx (G.alloc (.cells #[.slice A1 I I] 37));have f:qg G.heap.size G g1:=by rw[j];exact(qf _ _).alloc lr _
 have l:=c.o.new 37 [.slice A1 I I] u;rw[<- j] at l 
 try rw[<- j]
 try rw[<- u]
 replace c:=vv l;replace p:=vv (p.o.below f);clear b7 b8 b9 c0 j f l u;refine(W.o _).mono ?_;rintro e t ⟨T,E,rfl,e5,-,f⟩;replace c:=vv (c.o.step f);replace p:=vv (p.o.below f);have z:=vv (RN.mk e5);clear f e5;have a2:t.cell? ⟨w.heap.size,0,qa⟩=qb (.bool neg):=(c.o.get 2 rfl).cell 0;have a3:t.cell? ⟨w.heap.size,1,qa⟩=qb (.string s):=(c.o.get 2 rfl).cell 1;have a4:t.cell? ⟨w.heap.size,2,qa⟩=qb (.int .i64 x):=(c.o.get 2 rfl).cell 2;have a5:=(c.o.get 2 rfl).lt;have a6:t.cell? ⟨J,0,qa⟩=qb (.slice A1 I I):=(c.o.get 0 rfl).cell 0;have a7:=(c.o.get 0 rfl).lt;rcases k1l x 0 with hx|hx
 ·have t0:qe (x<0)=qk:=k03 hx;have Z:=vv (f1.o hx);clear hx;go_wp2_with fail;obtain⟨g2,u⟩:=yx (t.heap.size);obtain⟨b4,j⟩:=yx (t.alloc (.cells #[.slice T E E] 37));have f:qg t.heap.size t b4:=by rw[j];exact(qf _ _).alloc lr _
  have l:=c.o.new 37 [.slice T E E] u;rw[<- j] at l 
  try rw[<- j]
  try rw[<- u]
  replace c:=vv l;replace p:=vv (p.o.below f);replace z:=vv (z.o.below f);clear a2 a3 a4 a5 a6 a7 j f l u;refine(e0.o _ _ _ _ _ _ _ p.o z.o R.o.1 R.o.2.1 R.o.2.2.2 (c.o.std e3.o)).mono ?_;rintro e g3 ⟨b,X,n,Y,m,rfl,O,f⟩;replace c:=vv (c.o.step f);replace p:=vv (p.o.below f);replace z:=vv (z.o.below f);have H:=vv O;clear f O;have g:=vv (c.o.get 2 rfl);go_wp2_with (with_reducible refine q00 rfl 39 (.tmp 2) (.tmp 46) rfl (w.heap.size+1) [.bool b,.slice X n n,.slice Y m m] rfl rfl 39 _ g.o (by kernel_rfl) rfl rfl ?_);intro i C q;clear g;have g:=vv (c.o.get 2 rfl);replace c:=vv (c.o.put 2 rfl C q);replace H:=vv (H.o.apart_ g.o rfl q);clear g C q;go_wp2;have c1:i.cell? ⟨(w.heap.size+1),0,qa⟩=qb (.bool b):=(c.o.get 2 rfl).cell 0;have c2:i.cell? ⟨(w.heap.size+1),1,qa⟩=qb (.slice X n n):=(c.o.get 2 rfl).cell 1;have c3:i.cell? ⟨(w.heap.size+1),2,qa⟩=qb (.slice Y m m):=(c.o.get 2 rfl).cell 2;exact qj (v:=.tuple #[q0i b X n n Y m m,.int .i64 0]) (by simp [results,results19,go_sem,c1,c2,c3]) rfl ⟨b,X,n,Y,m,rfl,by rw[Z.o];exact H.o,c.o.low⟩
 ·have t0:qe (x<0)=qc:=k00 (by omega);have Z:=vv (f2.o hx);clear hx;go_wp2_with fail;obtain⟨g2,u⟩:=yx (t.heap.size);obtain⟨b4,j⟩:=yx (t.alloc (.cells #[.slice T E E] 37));have f:qg t.heap.size t b4:=by rw[j];exact(qf _ _).alloc lr _
  have l:=c.o.new 37 [.slice T E E] u;rw[<- j] at l 
  try rw[<- j]
  try rw[<- u]
  replace c:=vv l;replace p:=vv (p.o.below f);replace z:=vv (z.o.below f);clear a2 a3 a4 a5 a6 a7 j f l u;refine(f0.o _ _ _ _ _ p.o z.o).mono ?_;rintro e g3 ⟨U,F,rfl,e6,-,f⟩;replace c:=vv (c.o.step f);replace p:=vv (p.o.below f);replace z:=vv (z.o.below f);have y:=vv (RN.mk e6);clear f e6;have g:=vv (c.o.get 1 rfl);go_wp2_with (with_reducible refine q00 rfl 37 (.tmp 5) (.tmp 52) rfl J [.slice U F F] rfl rfl 37 _ g.o (by kernel_rfl) rfl rfl ?_);intro i C q;clear g;have g:=vv (c.o.get 1 rfl);replace c:=vv (c.o.put 1 rfl C q);replace y:=vv (y.o.apart_ g.o rfl q);clear g C q;have c4:i.cell? ⟨J,0,qa⟩=qb (.slice U F F):=(c.o.get 1 rfl).cell 0;have c5:=(c.o.get 1 rfl).lt;have c6:i.cell? ⟨w.heap.size,0,qa⟩=qb (.bool neg):=(c.o.get 3 rfl).cell 0;have c7:i.cell? ⟨w.heap.size,1,qa⟩=qb (.string s):=(c.o.get 3 rfl).cell 1;have c8:i.cell? ⟨w.heap.size,2,qa⟩=qb (.int .i64 x):=(c.o.get 3 rfl).cell 2;have c9:=(c.o.get 3 rfl).lt;go_wp2_with fail;have a8:i.cell? ⟨w.heap.size,0,qa⟩=qb (.bool neg):=(c.o.get 3 rfl).cell 0;have a9:i.cell? ⟨w.heap.size,1,qa⟩=qb (.string s):=(c.o.get 3 rfl).cell 1;have b0:i.cell? ⟨w.heap.size,2,qa⟩=qb (.int .i64 x):=(c.o.get 3 rfl).cell 2;have b3:i.cell? ⟨J,0,qa⟩=qb (.slice U F F):=(c.o.get 1 rfl).cell 0;have d0:=(c.o.get 3 rfl).lt;have d1:=(c.o.get 1 rfl).lt;refine q02 (fun w'=>w'.cell? ⟨w.heap.size,0,qa⟩=qb (.bool neg)/\w'.cell? ⟨w.heap.size,1,qa⟩=qb (.string s)/\w'.cell? ⟨w.heap.size,2,qa⟩=qb (.int .i64 x)/\w'.cell? ⟨J,0,qa⟩=qb (.slice U F F)) 8
   (.still 0 (.still 1 (.still 2 (.one 3 (.one 4 (.still 5 (.still 6 (.one 7 .done)))))))) (by kernel_rfl) (by kernel_rfl) (fun _ _ d _ _ h=>by cases d<;>exact h) ⟨a8,a9,b0,b3⟩ (fun hS0=>?_)
  iterate 3
   refine q01 (v:=?_) rfl (by rfl) ?_ ?_;rotate_left
   ·intro w g4;go_simp;with_reducible rfl
   simp only[Act.put,sa,sb,sc]
  clear c4 c5 c6 c7 c8 c9 d0 d1 a8 a9 b0 b3;obtain⟨e7,b5⟩:=yx (i.drew);have f:qg i.heap.size i e7:=by rw[b5];exact q05 (qf _ _)
  replace c:=vv (c.o.step f);replace y:=vv (y.o.below f);rw[<- b5] at hS0 ⊢;clear b5 f;refine q03 rfl (by rfl) (fun K hK=>?_);go_simp;refine(Nat_.Of1 e7).mono ?_;rintro e g6 ⟨A4,rfl,e8,f⟩;replace c:=vv (c.o.step f);replace y:=vv (y.o.below f);have P:=vv (RN.mk e8);clear f e8;go_wp2_with fail;refine hK.out _ _ ⟨(c.o.get 3 rfl).cell 0,(c.o.get 3 rfl).cell 1,(c.o.get 3 rfl).cell 2,(c.o.get 1 rfl).cell 0⟩ (fun a0=>?_);clear hK;refine q03 rfl (by rfl) (fun K hK=>?_);go_simp;refine(e0.o _ _ _ _ _ _ _ y.o P.o R.o.2.2.1 (by decide) (by decide) (c.o.std e3.o)).mono ?_;rintro e g7 ⟨b,X,n,Y,m,rfl,O,f⟩;replace c:=vv (c.o.step f);replace y:=vv (y.o.below f);replace P:=vv (P.o.below f);have H:=vv O;clear f O;go_wp2_with fail;refine hK.out _ _ ⟨(c.o.get 3 rfl).cell 0,(c.o.get 3 rfl).cell 1,(c.o.get 3 rfl).cell 2,(c.o.get 1 rfl).cell 0⟩ (fun a0=>?_);clear hK
  iterate 2
   refine q01 (v:=?_) rfl (by rfl) ?_ ?_;rotate_left
   ·intro w g4;go_simp;with_reducible rfl
   simp only[Act.put,sa,sb,sc]
  refine q03 rfl (by rfl) (fun K hK=>?_);have g:=vv (c.o.get 2 rfl)
  with_reducible refine q0u 39 (.tmp 2) (.tmp 63) rfl (w.heap.size+1) [.bool b,.slice X n n,.slice Y m m] rfl rfl 39 _ g.o (by kernel_rfl) rfl rfl ?_
  intro b6 C q;replace c:=vv (c.o.put 2 rfl C q);replace y:=vv (y.o.apart_ g.o rfl q);replace P:=vv (P.o.apart_ g.o rfl q);replace H:=vv (H.o.apart_ g.o rfl q);clear g C q;refine hK.out _ _ ⟨(c.o.get 3 rfl).cell 0,(c.o.get 3 rfl).cell 1,(c.o.get 3 rfl).cell 2,(c.o.get 1 rfl).cell 0⟩ (fun a0=>?_);clear hK;refine q07 ?_;simp only[k0H,k0M];go_wp2;have d2:b6.cell? ⟨(w.heap.size+1),0,qa⟩=qb (.bool b):=(c.o.get 2 rfl).cell 0;have d3:b6.cell? ⟨(w.heap.size+1),1,qa⟩=qb (.slice X n n):=(c.o.get 2 rfl).cell 1;have d4:b6.cell? ⟨(w.heap.size+1),2,qa⟩=qb (.slice Y m m):=(c.o.get 2 rfl).cell 2;exact qj (v:=.tuple #[q0i b X n n Y m m,.int .i64 0]) (by simp [results,results19,go_sem,d2,d3,d4]) rfl ⟨b,X,n,Y,m,rfl,by rw[Z.o];exact H.o,c.o.low⟩
end Dcm
namespace Sho
open Go Go.RowKit R5 Scn Sh Rtp
structure RV where
 b:Bool
 X:Option qm
 n:Nat
 c:Nat
 Y:Option qm
 m:Nat
 d:Nat
abbrev RV.v(r:RV):Value:=.agg #[.bool r.b,.slice r.X r.n r.c,.slice r.Y r.m r.d]
def RI(w:qh)(r:RV)(q:Rat):Prop:=RQ w r.b r.X r.n r.c r.Y r.m r.d q
theorem RI.below{r:RV}{q:Rat}(h:RI w r q)(hb:qg w.heap.size w w'):RI w' r q:=RQ.below h hb
theorem RI.apart_{r:RV}{q:Rat}(h:RI w r q)(hb:Blk w g t cs)(hcs:cs.all (fun v=>match v with|.int .u32 _=>qc|_=>qk)=qk)(hg:w.grownBy w' (qb g)):RI w' r q:=RQ.apart_ h hb hcs hg
def RvP(q:Rat)(w:qh)(e:Ending)(w':qh):Prop:=∃r:RV,e=.returned (.tuple #[r.v,.int .i64 0])/\RI w' r q/\qg w.heap.size w w'
theorem RvP.of{q:Rat}{e:Ending}(h:RqP q w e w'):RvP q w e w':=by obtain⟨b,X,n,Y,m,a,c,d⟩:=h;exact⟨⟨b,X,n,n,Y,m,m⟩,a,c,d⟩
theorem qaN(r:RV)(a:Rat)(s:RV)(b:Rat)(w:qh)(ha:RI w r a)(hb:RI w s b)(sa:Qb 200000 a)(sb:Qb 200000 b)(hst:Std w):qi qd 110 #[r.v,s.v] w fun e w'=>e=.returned (.tuple #[.int .i64 (q2d a b),.int .i64 0])/\qg w.heap.size w w':=qdv a _ _ _ _ _ _ _ b _ _ _ _ _ _ _ w ha hb (sa.mono (by decide)) (sb.mono (by decide)) hst
theorem qc7(r:RV)(a:Rat)(w:qh)(ha:RI w r a)(sa:Qb 200000 a)(hst:Std w):qi qd 61 #[r.v] w (RvP (-a) w):=(qd2 a _ _ _ _ _ _ _ w ha sa hst).mono fun _ _ h=>.of h
theorem qdx(r:RV)(a:Rat)(w:qh)(ha:RI w r a)(sa:Qb 200000 a)(hst:Std w):qi qd 235 #[r.v] w (RvP a.abs w):=(qdy a _ _ _ _ _ _ _ w ha sa hst).mono fun _ _ h=>.of h
theorem qdp(r:RV)(a:Rat)(s:RV)(b:Rat)(w:qh)(ha:RI w r a)(hb:RI w s b)(sa:Qb 200000 a)(sb:Qb 200000 b)(hst:Std w):qi qd 234 #[r.v,s.v] w (RvP (a-b) w):=(qdq a _ _ _ _ _ _ _ b _ _ _ _ _ _ _ w ha hb sa sb hst).mono fun _ _ h=>.of h
theorem q9A(r:RV)(q:Rat)(k:Int)(w:qh)(h:RI w r q)(hs:Qb 200000 q)(hq:0<q)(hk1:-20000<=k)(hk2:k<=20000)(hst:Std w):qi qd 141 #[r.v,.int .u32 10,.int .i64 k] w (RvP (q*tp k) w):=(qbV q _ _ _ _ _ _ _ k w h (hs.mono (by decide)) hq hk1 hk2 hst).mono fun _ _ h=>.of h
theorem qc1(r:RV)(q:Rat)(w:qh)(h:RI w r q)(hs:Qb 200000 q)(hq:0<=q)(hst:Std w):qi qd 142 #[r.v] w (q9E q.floor.natAbs w):=qc2 q _ _ _ _ _ _ _ w h (hs.mono (by decide)) hq hst
theorem qcD(a b:Rat):q2d a b = -1\/q2d a b=0\/q2d a b=1:=by
 unfold q2d;split
 ·exact .inl rfl
 ·split
  ·exact .inr (.inr rfl)
  ·exact .inr (.inl rfl)
theorem qcn(r:RV)(a:Rat)(s:RV)(b:Rat)(w:qh)(ha:RI w r a)(hb:RI w s b)(sa:Qb 200000 a)(sb:Qb 200000 b)(hst:Std w):qi qd 143 #[r.v,s.v] w fun e w'=>e=.returned (.bool (q2d a b==0))/\qg w.heap.size w w':=by
 obtain⟨g,i⟩:=yx ((w.alloc (.cells #[.bool r.b,.slice r.X r.n r.c,.slice r.Y r.m r.d] 39)).alloc (.cells #[.bool s.b,.slice s.X s.n s.c,.slice s.Y s.m s.d] 39));have h:Cx w [(w.heap.size+1,39,[.bool s.b,.slice s.X s.n s.c,.slice s.Y s.m s.d]),(w.heap.size,39,[.bool r.b,.slice r.X r.n r.c,.slice r.Y r.m r.d])] g:=by rw[i];exact((Cx.nil w).new _ [_,_,_] rfl).new _ [_,_,_] (by simp)
 have k:=vv (qaN r a s b g (ha.below h.low) (hb.below h.low) sa sb (h.std hst));have f:=vv h;have C:=vv i;clear i h ha hb sa sb hst;have l:g.cell? ⟨(w.heap.size+1),0,qa⟩=qb (.bool s.b):=(f.o.get 0 rfl).cell 0;have p:g.cell? ⟨(w.heap.size+1),1,qa⟩=qb (.slice s.X s.n s.c):=(f.o.get 0 rfl).cell 1;have q:g.cell? ⟨(w.heap.size+1),2,qa⟩=qb (.slice s.Y s.m s.d):=(f.o.get 0 rfl).cell 2;have t:=(f.o.get 0 rfl).lt;have u:g.cell? ⟨w.heap.size,0,qa⟩=qb (.bool r.b):=(f.o.get 1 rfl).cell 0;have x:g.cell? ⟨w.heap.size,1,qa⟩=qb (.slice r.X r.n r.c):=(f.o.get 1 rfl).cell 1;have y:g.cell? ⟨w.heap.size,2,qa⟩=qb (.slice r.Y r.m r.d):=(f.o.get 1 rfl).cell 2;have z:=(f.o.get 1 rfl).lt;go_enter func143,ntmps143;go_wp2_with fail;rw[<- C.o];go_wp2_with fail;refine(k.o).mono ?_;rintro e D ⟨rfl,j⟩;replace f:=vv (f.o.step j);clear l p q t u x y z j;go_wp2;go_ret;exact⟨rfl,f.o.low⟩
theorem qcA(neg:Bool)(s:ByteArray)(x:Int)(w:qh)(h0:0<s.size)(h1:s.size<=65536):qi qd 146 #[decV neg s x] w fun e w'=>e=.returned (.bool (s[s.size-1].toNat%2==0))/\qg w.heap.size w w':=by
 have g:s.size-1<s.size:=by omega
 obtain⟨b,c⟩:=yx (w.alloc (.cells #[.bool neg,.string s,.int .i64 x] 27));have d:Cx w [(w.heap.size,27,[.bool neg,.string s,.int .i64 x])] b:=by rw[c];exact(Cx.nil w).new _ [_,_,_] rfl
 have i:(bits .and .u8 (s[s.size-1].toNat:Int) 1==0)=(s[s.size-1].toNat%2==0):=by
  have:=UInt8.toNat_lt s[s.size-1];generalize s[s.size-1].toNat=k at *
  have e:bits .and .u8 (k:Int) 1=((k%2:Nat):Int):=by
   have:∀k:Fin 256,bits .and .u8 ((k.val:Nat):Int) 1=((k.val%2:Nat):Int):=by decide +kernel
   exact this ⟨k,by omega⟩
  rw[e];rcases k0Z k with h|h<;>rw[h]<;>rfl
 have j:(s.size:Int)<=65536:=by omega
 have a:=vv d;have f:=vv c;clear c d;have l:b.cell? ⟨w.heap.size,0,qa⟩=qb (.bool neg):=(a.o.get 0 rfl).cell 0;have m:b.cell? ⟨w.heap.size,1,qa⟩=qb (.string s):=(a.o.get 0 rfl).cell 1;have n:b.cell? ⟨w.heap.size,2,qa⟩=qb (.int .i64 x):=(a.o.get 0 rfl).cell 2;have p:=(a.o.get 0 rfl).lt;go_enter func146,ntmps146;go_wp2_with fail;rw[<- f.o];go_wp2;go_ret;exact⟨rfl,a.o.low⟩
structure SI(w:qh)(l h:RV)(s:Span):Prop where
 l:RI w l s.lo
 h:RI w h s.hi
theorem SI.below{l h:RV}{s:Span}(k:SI w l h s)(hb:qg w.heap.size w w'):SI w' l h s:=⟨k.l.below hb,k.h.below hb⟩
theorem SI.apart_{l h:RV}{s:Span}(k:SI w l h s)(hb:Blk w g t cs)(hcs:cs.all (fun v=>match v with|.int .u32 _=>qc|_=>qk)=qk)(hg:w.grownBy w' (qb g)):SI w' l h s:=⟨k.l.apart_ hb hcs hg,k.h.apart_ hb hcs hg⟩
def spV(l h:RV)(s:Span):Value:=.agg #[.bool l.b,.slice l.X l.n l.c,.slice l.Y l.m l.d,.bool h.b,.slice h.X h.n h.c,.slice h.Y h.m h.d,.bool s.li,.bool s.hn]
theorem in_(l h:RV)(s:Span)(r:RV)(q:Rat)(w:qh)(hs:SI w l h s)(hr:RI w r q)(s1:Qb 200000 s.lo)(s2:Qb 200000 s.hi)(s3:Qb 200000 q)(hst:Std w):qi qd 44 #[spV l h s,r.v] w fun e w'=>e=.returned (.bool (s.has q))/\qg w.heap.size w w':=by
 obtain⟨g,E⟩:=yx ((w.alloc (.cells #[.bool l.b,.slice l.X l.n l.c,.slice l.Y l.m l.d,.bool h.b,.slice h.X h.n h.c,.slice h.Y h.m h.d,.bool s.li,.bool s.hn] 69)).alloc (.cells #[.bool r.b,.slice r.X r.n r.c,.slice r.Y r.m r.d] 39));have C:Cx w [(w.heap.size+1,39,[.bool r.b,.slice r.X r.n r.c,.slice r.Y r.m r.d]),(w.heap.size,69,[.bool l.b,.slice l.X l.n l.c,.slice l.Y l.m l.d,.bool h.b,.slice h.X h.n h.c,.slice h.Y h.m h.d,.bool s.li,.bool s.hn])] g:=by rw[E];exact((Cx.nil w).new _ [_,_,_,_,_,_,_,_] rfl).new _ [_,_,_] (by simp)
 have N:=vv fun w' (k:SI w' l h s) (k2:RI w' r q) (hst:Std w')=>qaN l s.lo r q w' k.l k2 s1 s3 hst
 have O:=vv fun w' (k:SI w' l h s) (k2:RI w' r q) (hst:Std w')=>qaN r q h s.hi w' k2 k.h s3 s2 hst
 have x:=vv (hs.below C.low);have y:=vv (hr.below C.low);have I:=qcD s.lo q;have J:=qcD q s.hi;have F:s.has q=((qe (q2d s.lo q<0) || (q2d s.lo q==0 && s.li)) && (qe (q2d q s.hi<0) || (q2d q s.hi==0 && s.hn))):=rfl;obtain⟨a,K⟩:=yx (q2d s.lo q);obtain⟨b,L⟩:=yx (q2d q s.hi);obtain⟨p,M⟩:=yx (s.has q);rw[<- K] at N I;rw[<- L] at O J;rw[<- K,<- L,<- M] at F;rw[<- M];obtain⟨D,G⟩:=yx (s.li);obtain⟨z,H⟩:=yx (s.hn);rw[<- G,<- H] at C E F;have HV:Hid (spV l h s=.agg #[.bool l.b,.slice l.X l.n l.c,.slice l.Y l.m l.d,.bool h.b,.slice h.X h.n h.c,.slice h.Y h.m h.d,.bool D,.bool z]):=vv (by rw[G,H];rfl);have P:=vv hst;have u:=vv F;have R:=vv I;have Q:=vv J;have f:=vv C;have HW:=vv E;clear E C hs hr s1 s2 s3 hst F I J K L M G H;rw[HV.o];have S:g.cell? ⟨(w.heap.size+1),0,qa⟩=qb (.bool r.b):=(f.o.get 0 rfl).cell 0;have T:g.cell? ⟨(w.heap.size+1),1,qa⟩=qb (.slice r.X r.n r.c):=(f.o.get 0 rfl).cell 1;have U:g.cell? ⟨(w.heap.size+1),2,qa⟩=qb (.slice r.Y r.m r.d):=(f.o.get 0 rfl).cell 2;have V:=(f.o.get 0 rfl).lt;have W:g.cell? ⟨w.heap.size,0,qa⟩=qb (.bool l.b):=(f.o.get 1 rfl).cell 0;have Z:g.cell? ⟨w.heap.size,1,qa⟩=qb (.slice l.X l.n l.c):=(f.o.get 1 rfl).cell 1;have b7:g.cell? ⟨w.heap.size,2,qa⟩=qb (.slice l.Y l.m l.d):=(f.o.get 1 rfl).cell 2;have b8:g.cell? ⟨w.heap.size,3,qa⟩=qb (.bool h.b):=(f.o.get 1 rfl).cell 3;have b9:g.cell? ⟨w.heap.size,4,qa⟩=qb (.slice h.X h.n h.c):=(f.o.get 1 rfl).cell 4;have a0:g.cell? ⟨w.heap.size,5,qa⟩=qb (.slice h.Y h.m h.d):=(f.o.get 1 rfl).cell 5;have a1:g.cell? ⟨w.heap.size,6,qa⟩=qb (.bool D):=(f.o.get 1 rfl).cell 6;have a2:g.cell? ⟨w.heap.size,7,qa⟩=qb (.bool z):=(f.o.get 1 rfl).cell 7;have a3:=(f.o.get 1 rfl).lt;go_enter func44,ntmps44;go_wp2_with fail;rw[<- HW.o];go_wp2_with fail;refine(N.o _ x.o y.o (f.o.std P.o)).mono ?_;rintro e i ⟨rfl,j⟩;replace f:=vv (f.o.step j);replace x:=vv (x.o.below j);replace y:=vv (y.o.below j);clear S T U V W Z b7 b8 b9 a0 a1 a2 a3 j;have a4:i.cell? ⟨(w.heap.size+1),0,qa⟩=qb (.bool r.b):=(f.o.get 0 rfl).cell 0;have a5:i.cell? ⟨(w.heap.size+1),1,qa⟩=qb (.slice r.X r.n r.c):=(f.o.get 0 rfl).cell 1;have a6:i.cell? ⟨(w.heap.size+1),2,qa⟩=qb (.slice r.Y r.m r.d):=(f.o.get 0 rfl).cell 2;have a7:=(f.o.get 0 rfl).lt;have a8:i.cell? ⟨w.heap.size,0,qa⟩=qb (.bool l.b):=(f.o.get 1 rfl).cell 0;have a9:i.cell? ⟨w.heap.size,1,qa⟩=qb (.slice l.X l.n l.c):=(f.o.get 1 rfl).cell 1;have b0:i.cell? ⟨w.heap.size,2,qa⟩=qb (.slice l.Y l.m l.d):=(f.o.get 1 rfl).cell 2;have b1:i.cell? ⟨w.heap.size,3,qa⟩=qb (.bool h.b):=(f.o.get 1 rfl).cell 3;have b2:i.cell? ⟨w.heap.size,4,qa⟩=qb (.slice h.X h.n h.c):=(f.o.get 1 rfl).cell 4;have b3:i.cell? ⟨w.heap.size,5,qa⟩=qb (.slice h.Y h.m h.d):=(f.o.get 1 rfl).cell 5;have b4:i.cell? ⟨w.heap.size,6,qa⟩=qb (.bool D):=(f.o.get 1 rfl).cell 6;have b5:i.cell? ⟨w.heap.size,7,qa⟩=qb (.bool z):=(f.o.get 1 rfl).cell 7;have b6:=(f.o.get 1 rfl).lt;go_wp2_with fail;refine(O.o _ x.o y.o (f.o.std P.o)).mono ?_;rintro e t ⟨rfl,j⟩;replace f:=vv (f.o.step j);replace x:=vv (x.o.below j);replace y:=vv (y.o.below j);clear a4 a5 a6 a7 a8 a9 b0 b1 b2 b3 b4 b5 b6 j;have c0:t.cell? ⟨w.heap.size,0,qa⟩=qb (.bool l.b):=(f.o.get 1 rfl).cell 0;have c1:t.cell? ⟨w.heap.size,1,qa⟩=qb (.slice l.X l.n l.c):=(f.o.get 1 rfl).cell 1;have c2:t.cell? ⟨w.heap.size,2,qa⟩=qb (.slice l.Y l.m l.d):=(f.o.get 1 rfl).cell 2;have c3:t.cell? ⟨w.heap.size,3,qa⟩=qb (.bool h.b):=(f.o.get 1 rfl).cell 3;have c4:t.cell? ⟨w.heap.size,4,qa⟩=qb (.slice h.X h.n h.c):=(f.o.get 1 rfl).cell 4;have c5:t.cell? ⟨w.heap.size,5,qa⟩=qb (.slice h.Y h.m h.d):=(f.o.get 1 rfl).cell 5;have c6:t.cell? ⟨w.heap.size,6,qa⟩=qb (.bool D):=(f.o.get 1 rfl).cell 6;have c7:t.cell? ⟨w.heap.size,7,qa⟩=qb (.bool z):=(f.o.get 1 rfl).cell 7;have c8:=(f.o.get 1 rfl).lt;rcases R.o with rfl|rfl|rfl
 ·rcases Q.o with rfl|rfl|rfl
  ·go_wp2;go_ret;exact⟨by rw[u.o];rfl,f.o.low⟩
  ·cases z
   all_goals
    go_wp2;go_ret;exact⟨by rw[u.o];rfl,f.o.low⟩
  ·go_wp2;go_ret;exact⟨by rw[u.o];rfl,f.o.low⟩
 ·cases D
  ·go_wp2;go_ret;exact⟨by rw[u.o];rfl,f.o.low⟩
  ·rcases Q.o with rfl|rfl|rfl
   ·go_wp2;go_ret;exact⟨by rw[u.o];rfl,f.o.low⟩
   ·cases z
    all_goals
     go_wp2;go_ret;exact⟨by rw[u.o];rfl,f.o.low⟩
   ·go_wp2;go_ret;exact⟨by rw[u.o];rfl,f.o.low⟩
 ·go_wp2;go_ret;exact⟨by rw[u.o];rfl,f.o.low⟩
theorem q8T(l h:RV)(s:Span)(w:qh)(hs:SI w l h s)(s1:Qb 200000 s.lo)(s2:Qb 200000 s.hi)(hst:Std w):qi qd 69 #[spV l h s] w fun e w'=>∃l' h',e=.returned (spV l' h' s.flip)/\SI w' l' h' s.flip/\qg w.heap.size w w':=by
 obtain⟨t,I⟩:=yx ((w.alloc (.cells #[.bool l.b,.slice l.X l.n l.c,.slice l.Y l.m l.d,.bool h.b,.slice h.X h.n h.c,.slice h.Y h.m h.d,.bool s.li,.bool s.hn] 69)).alloc (.cells #[.bool qc,.slice qa 0 0,.slice qa 0 0,.bool qc,.slice qa 0 0,.slice qa 0 0,.bool qc,.bool qc] 69));have q:Cx w [(w.heap.size+1,69,[.bool qc,.slice qa 0 0,.slice qa 0 0,.bool qc,.slice qa 0 0,.slice qa 0 0,.bool qc,.bool qc]),(w.heap.size,69,[.bool l.b,.slice l.X l.n l.c,.slice l.Y l.m l.d,.bool h.b,.slice h.X h.n h.c,.slice h.Y h.m h.d,.bool s.li,.bool s.hn])] t:=by rw[I];exact((Cx.nil w).new _ [_,_,_,_,_,_,_,_] rfl).new _ [_,_,_,_,_,_,_,_] (by simp)
 have O:=vv fun w' (k:SI w' l h s) (hst:Std w')=>qc7 h s.hi w' k.h s2 hst
 have P:=vv fun w' (k:SI w' l h s) (hst:Std w')=>qc7 l s.lo w' k.l s1 hst
 have y:=vv (hs.below q.low);have M:=vv hst;obtain⟨z,J⟩:=yx (s.li);obtain⟨C,K⟩:=yx (s.hn);rw[<- J,<- K] at q I;have HV:Hid (spV l h s=.agg #[.bool l.b,.slice l.X l.n l.c,.slice l.Y l.m l.d,.bool h.b,.slice h.X h.n h.c,.slice h.Y h.m h.d,.bool z,.bool C]):=vv (by rw[J,K];rfl);have Q:Hid (∀l' h',spV l' h' s.flip=.agg #[.bool l'.b,.slice l'.X l'.n l'.c,.slice l'.Y l'.m l'.d,.bool h'.b,.slice h'.X h'.n h'.c,.slice h'.Y h'.m h'.d,.bool C,.bool z]):=vv (by intro l' h';rw[J,K];rfl);have a:=vv q;have HW:=vv I;clear I q hs s1 s2 hst J K;rw[HV.o];have R:t.cell? ⟨w.heap.size,0,qa⟩=qb (.bool l.b):=(a.o.get 1 rfl).cell 0;have S:t.cell? ⟨w.heap.size,1,qa⟩=qb (.slice l.X l.n l.c):=(a.o.get 1 rfl).cell 1;have T:t.cell? ⟨w.heap.size,2,qa⟩=qb (.slice l.Y l.m l.d):=(a.o.get 1 rfl).cell 2;have U:t.cell? ⟨w.heap.size,3,qa⟩=qb (.bool h.b):=(a.o.get 1 rfl).cell 3;have V:t.cell? ⟨w.heap.size,4,qa⟩=qb (.slice h.X h.n h.c):=(a.o.get 1 rfl).cell 4;have W:t.cell? ⟨w.heap.size,5,qa⟩=qb (.slice h.Y h.m h.d):=(a.o.get 1 rfl).cell 5;have Z:t.cell? ⟨w.heap.size,6,qa⟩=qb (.bool z):=(a.o.get 1 rfl).cell 6;have d0:t.cell? ⟨w.heap.size,7,qa⟩=qb (.bool C):=(a.o.get 1 rfl).cell 7;have d1:=(a.o.get 1 rfl).lt;go_enter func69,ntmps69;go_wp2_with fail;rw[<- HW.o];go_wp2_with fail;refine(O.o _ y.o (a.o.std M.o)).mono ?_;rintro e p ⟨f,rfl,F,i⟩;replace a:=vv (a.o.step i);replace y:=vv (y.o.below i);have u:=vv F;clear R S T U V W Z d0 d1 i F;have a0:p.cell? ⟨w.heap.size,0,qa⟩=qb (.bool l.b):=(a.o.get 1 rfl).cell 0;have a1:p.cell? ⟨w.heap.size,1,qa⟩=qb (.slice l.X l.n l.c):=(a.o.get 1 rfl).cell 1;have a2:p.cell? ⟨w.heap.size,2,qa⟩=qb (.slice l.Y l.m l.d):=(a.o.get 1 rfl).cell 2;have a3:p.cell? ⟨w.heap.size,3,qa⟩=qb (.bool h.b):=(a.o.get 1 rfl).cell 3;have a4:p.cell? ⟨w.heap.size,4,qa⟩=qb (.slice h.X h.n h.c):=(a.o.get 1 rfl).cell 4;have a5:p.cell? ⟨w.heap.size,5,qa⟩=qb (.slice h.Y h.m h.d):=(a.o.get 1 rfl).cell 5;have a6:p.cell? ⟨w.heap.size,6,qa⟩=qb (.bool z):=(a.o.get 1 rfl).cell 6;have a7:p.cell? ⟨w.heap.size,7,qa⟩=qb (.bool C):=(a.o.get 1 rfl).cell 7;have a8:=(a.o.get 1 rfl).lt;go_wp2_with fail;obtain⟨L,D⟩:=yx (p.heap.size);obtain⟨d2,r⟩:=yx (p.alloc (.cells #[.bool f.b,.slice f.X f.n f.c,.slice f.Y f.m f.d] 39));have i:qg p.heap.size p d2:=by rw[r];exact(qf _ _).alloc lr _
 have q:=a.o.new 39 [.bool f.b,.slice f.X f.n f.c,.slice f.Y f.m f.d] D;rw[<- r] at q 
 try rw[<- r]
 try rw[<- D]
 replace a:=vv q;replace y:=vv (y.o.below i);replace u:=vv (u.o.below i);clear a0 a1 a2 a3 a4 a5 a6 a7 a8 r i q D;refine(P.o _ y.o (a.o.std M.o)).mono ?_;rintro e j ⟨g,rfl,F,i⟩;replace a:=vv (a.o.step i);replace y:=vv (y.o.below i);replace u:=vv (u.o.below i);have G:=vv F;clear i F;have a9:j.cell? ⟨L,0,qa⟩=qb (.bool f.b):=(a.o.get 0 rfl).cell 0;have b0:j.cell? ⟨L,1,qa⟩=qb (.slice f.X f.n f.c):=(a.o.get 0 rfl).cell 1;have b1:j.cell? ⟨L,2,qa⟩=qb (.slice f.Y f.m f.d):=(a.o.get 0 rfl).cell 2;have b2:=(a.o.get 0 rfl).lt;have b3:j.cell? ⟨w.heap.size,0,qa⟩=qb (.bool l.b):=(a.o.get 2 rfl).cell 0;have b4:j.cell? ⟨w.heap.size,1,qa⟩=qb (.slice l.X l.n l.c):=(a.o.get 2 rfl).cell 1;have b5:j.cell? ⟨w.heap.size,2,qa⟩=qb (.slice l.Y l.m l.d):=(a.o.get 2 rfl).cell 2;have b6:j.cell? ⟨w.heap.size,3,qa⟩=qb (.bool h.b):=(a.o.get 2 rfl).cell 3;have b7:j.cell? ⟨w.heap.size,4,qa⟩=qb (.slice h.X h.n h.c):=(a.o.get 2 rfl).cell 4;have b8:j.cell? ⟨w.heap.size,5,qa⟩=qb (.slice h.Y h.m h.d):=(a.o.get 2 rfl).cell 5;have b9:j.cell? ⟨w.heap.size,6,qa⟩=qb (.bool z):=(a.o.get 2 rfl).cell 6;have c0:j.cell? ⟨w.heap.size,7,qa⟩=qb (.bool C):=(a.o.get 2 rfl).cell 7;have c1:=(a.o.get 2 rfl).lt;have E:=vv (a.o.get 1 rfl);go_wp2_with (with_reducible refine q00 rfl 69 (.tmp 2) (.tmp 25) rfl (w.heap.size+1) [.bool f.b,.slice f.X f.n f.c,.slice f.Y f.m f.d,.bool g.b,.slice g.X g.n g.c,.slice g.Y g.m g.d,.bool C,.bool z] rfl rfl 69 _ (E.o.alloc _) (by kernel_rfl) rfl rfl ?_);intro x N H;clear E;obtain⟨d4,D⟩:=yx (j.heap.size);obtain⟨d3,r⟩:=yx (j.alloc (.cells #[.bool g.b,.slice g.X g.n g.c,.slice g.Y g.m g.d] 39));have i:qg j.heap.size j d3:=by rw[r];exact(qf _ _).alloc lr _
 have q:=a.o.new 39 [.bool g.b,.slice g.X g.n g.c,.slice g.Y g.m g.d] D;rw[<- r] at q H
 try rw[<- r]
 try rw[<- D]
 replace a:=vv q;replace u:=vv (u.o.below i);replace G:=vv (G.o.below i);clear a9 b0 b1 b2 b3 b4 b5 b6 b7 b8 b9 c0 c1 r i q D;have E:=vv (a.o.get 2 rfl);replace a:=vv (a.o.put 2 rfl N H);replace u:=vv (u.o.apart_ E.o rfl H);replace G:=vv (G.o.apart_ E.o rfl H);clear E N H;go_wp2;have c2:x.cell? ⟨(w.heap.size+1),0,qa⟩=qb (.bool f.b):=(a.o.get 2 rfl).cell 0;have c3:x.cell? ⟨(w.heap.size+1),1,qa⟩=qb (.slice f.X f.n f.c):=(a.o.get 2 rfl).cell 1;have c4:x.cell? ⟨(w.heap.size+1),2,qa⟩=qb (.slice f.Y f.m f.d):=(a.o.get 2 rfl).cell 2;have c5:x.cell? ⟨(w.heap.size+1),3,qa⟩=qb (.bool g.b):=(a.o.get 2 rfl).cell 3;have c6:x.cell? ⟨(w.heap.size+1),4,qa⟩=qb (.slice g.X g.n g.c):=(a.o.get 2 rfl).cell 4;have c7:x.cell? ⟨(w.heap.size+1),5,qa⟩=qb (.slice g.Y g.m g.d):=(a.o.get 2 rfl).cell 5;have c8:x.cell? ⟨(w.heap.size+1),6,qa⟩=qb (.bool C):=(a.o.get 2 rfl).cell 6;have c9:x.cell? ⟨(w.heap.size+1),7,qa⟩=qb (.bool z):=(a.o.get 2 rfl).cell 7;exact qj (v:=.agg #[.bool f.b,.slice f.X f.n f.c,.slice f.Y f.m f.d,.bool g.b,.slice g.X g.n g.c,.slice g.Y g.m g.d,.bool C,.bool z]) (by simp [results,results69,go_sem,c2,c3,c4,c5,c6,c7,c8,c9]) rfl ⟨f,g,by rw[Q.o],⟨u.o,G.o⟩,a.o.low⟩
theorem q3K(N:Nat):bl N<=4*q0t N+1:=k06 (q15 (k16 (Lib.lt_pow_nDigits N))) (q2n _)
theorem q9G{e:Int}(h:q0t N<=9000)(h1:-9000<=e)(h2:e<=9000):Qb 73000 (wo N e):=by have a:=q3K N;have b:Qb 36001 ((N:Nat):Rat):=Qb.nat (by omega) (by decide) (by decide);have c:=b.mul (Qb.tp e);exact c.mono (by omega)
theorem qd5(r:RV)(q:Rat)(w:qh)(hr:RI w r q)(hq:0<q)(hs:Qb 3000 q)(hst:Std w):qi qd 140 #[r.v] w fun e w'=>e=.returned (.int .i64 (top q))/\qg w.heap.size w w':=by
 obtain⟨H,L⟩:=yx (w.alloc (.cells #[.bool r.b,.slice r.X r.n r.c,.slice r.Y r.m r.d] 39));have p:Cx w [(w.heap.size,39,[.bool r.b,.slice r.X r.n r.c,.slice r.Y r.m r.d])] H:=by rw[L];exact(Cx.nil w).new _ [_,_,_] rfl
 have hn:=q1x hq;have l1:=q41 (n:=q.num.natAbs) (by omega);have l2:=q41 q.den_pos;have b1:=hs.1;have b2:=hs.2;have U:=vv fun w' (k:RI w' r q)=>Pnt.Text r.X r.n r.c _ w' k.x (RQ.n_le k (hs.mono (by decide))).1 (by omega)
 have V:=vv fun w' (k:RI w' r q)=>Pnt.Text r.Y r.m r.d _ w' k.y (RQ.n_le k (hs.mono (by decide))).2 (by omega)
 obtain⟨S1,W⟩:=yx (q1g q.num.natAbs);obtain⟨S2,Z⟩:=yx (q1g q.den);have P:=q0V q.num.natAbs;have Q:=q0V q.den;rw[<- W] at U P;rw[<- Z] at V Q;have b3:=vv fun w'=>q4I 1 w' (by decide)
 have b4:=vv fun ro k w' (h:RI w' ro ((1:Int):Rat)) (h1:-3000<=k) (h2:k<=3000) (hst:Std w')=>q9A ro 1 k w' h ⟨by decide,by decide⟩ (by decide) (by omega) (by omega) hst
 obtain⟨k,R⟩:∃k:Int,k=(S1.size:Int)-(S2.size:Int):=⟨_,rfl⟩;have a5:-3000<=k:=by omega
 have a6:k<=3000:=by omega
 have c6:(S1.size:Int)<=3000:=by omega
 have c7:(S2.size:Int)<=3000:=by omega
 have I:(1:Rat)*tp k=tp k:=k1E _;have D:=vv fun s w' (h1:RI w' r q) (h2:RI w' s (1*tp k)) (hst:Std w')=>qaN r q s _ w' h1 h2 (hs.mono (by decide)) (by rw[I];exact(Qb.tp k).mono (by omega)) hst
 have a0:top q=if q<tp k then k-1 else k:=by unfold top;rw[R,P,Q]
 rw[I] at D;have b5:=vv I;rw[a0];obtain⟨t,S⟩:=yx (tp k);obtain⟨z,E⟩:=yx (q2d q t);rw[<- S] at D ⊢;rw[<- E] at D;have a7:(if q<t then k-1 else k)=if z<0 then k-1 else k:=by
  by_cases h:q<t
  ·rw[k0n h,k0n (by rw[E];exact q5b.2 h)]
  ·rw[k0o h,k0o (by rw[E];exact fun a=>h (q5b.1 a))]
 rw[a7];obtain⟨tq,M⟩:=yx (if z<0 then k-1 else k);rw[<- M];have a8:=vv M;have F:=vv (And.intro a5 a6);have HK:=vv R;have b6:=vv S;have i:=vv (hr.below p.low);have a9:=vv hst;have f:=vv p;have HW:=vv L;clear L p hr hq hs hst hn l1 l2 b1 b2 W Z P Q R a5 a6 I a0 E a7 S M;have b7:H.cell? ⟨w.heap.size,0,qa⟩=qb (.bool r.b):=(f.o.get 0 rfl).cell 0;have b8:H.cell? ⟨w.heap.size,1,qa⟩=qb (.slice r.X r.n r.c):=(f.o.get 0 rfl).cell 1;have b9:H.cell? ⟨w.heap.size,2,qa⟩=qb (.slice r.Y r.m r.d):=(f.o.get 0 rfl).cell 2;have c0:=(f.o.get 0 rfl).lt;go_enter func140,ntmps140;go_wp2_with fail;rw[<- HW.o];go_wp2_with fail;refine(U.o _ i.o).mono ?_;rintro e T ⟨rfl,g⟩;replace f:=vv (f.o.step g);replace i:=vv (i.o.below g);clear b7 b8 b9 c0 g;have c1:T.cell? ⟨w.heap.size,0,qa⟩=qb (.bool r.b):=(f.o.get 0 rfl).cell 0;have c2:T.cell? ⟨w.heap.size,1,qa⟩=qb (.slice r.X r.n r.c):=(f.o.get 0 rfl).cell 1;have c3:T.cell? ⟨w.heap.size,2,qa⟩=qb (.slice r.Y r.m r.d):=(f.o.get 0 rfl).cell 2;have c4:=(f.o.get 0 rfl).lt;go_wp2_with fail;refine(V.o _ i.o).mono ?_;rintro e c8 ⟨rfl,g⟩;replace f:=vv (f.o.step g);replace i:=vv (i.o.below g);clear c1 c2 c3 c4 g;go_wp2_with fail;refine(b3.o _).mono ?_;rintro e c9 ⟨b0,X1,J,Y1,K,rfl,C,g⟩;replace f:=vv (f.o.step g);replace i:=vv (i.o.below g);clear g;have HO:Hid (RI _ ⟨b0,X1,J,J,Y1,K,K⟩ ((1:Int):Rat)):=vv C;clear C;rw[<- HK.o];go_wp2_with fail;refine(b4.o ⟨b0,X1,J,J,Y1,K,K⟩ _ _ HO.o F.o.1 F.o.2 (f.o.std a9.o)).mono ?_;rintro e l ⟨j,rfl,C,g⟩;replace f:=vv (f.o.step g);replace i:=vv (i.o.below g);have u:=vv C;clear g C;rw[b5.o,<- b6.o] at u;have a1:l.cell? ⟨w.heap.size,0,qa⟩=qb (.bool r.b):=(f.o.get 0 rfl).cell 0;have a2:l.cell? ⟨w.heap.size,1,qa⟩=qb (.slice r.X r.n r.c):=(f.o.get 0 rfl).cell 1;have a3:l.cell? ⟨w.heap.size,2,qa⟩=qb (.slice r.Y r.m r.d):=(f.o.get 0 rfl).cell 2;have a4:=(f.o.get 0 rfl).lt;go_wp2_with fail;obtain⟨d0,N⟩:=yx (l.heap.size);obtain⟨c5,G⟩:=yx (l.alloc (.cells #[.bool j.b,.slice j.X j.n j.c,.slice j.Y j.m j.d] 39));have g:qg l.heap.size l c5:=by rw[G];exact(qf _ _).alloc lr _
 have p:=f.o.new 39 [.bool j.b,.slice j.X j.n j.c,.slice j.Y j.m j.d] N;rw[<- G] at p 
 try rw[<- G]
 try rw[<- N]
 replace f:=vv p;replace i:=vv (i.o.below g);replace u:=vv (u.o.below g);clear a1 a2 a3 a4 G g p N;refine(D.o _ _ i.o u.o (f.o.std a9.o)).mono ?_;rintro e d1 ⟨rfl,g⟩;replace f:=vv (f.o.step g);replace i:=vv (i.o.below g);replace u:=vv (u.o.below g);clear g;have q1:=F.o.1;have q2:=F.o.2;by_cases hc:z<0
 ·have t0:qe (z<0)=qk:=k03 hc;have O:=vv hc;clear hc;go_wp2;go_ret;exact⟨by show Ending.returned (.int .i64 (k-1))=_;rw[a8.o,k0n (by have:=O.o;omega)],f.o.low⟩
 ·have t0:qe (z<0)=qc:=k00 hc;have O:=vv hc;clear hc;go_wp2;go_ret;exact⟨by show Ending.returned (.int .i64 k)=_;rw[a8.o,k0o (by have:=O.o;omega)],f.o.low⟩
def SdP(N:Nat)(x:Int)(v:Rat)(s:Span)(w:qh)(e:Ending)(w':qh):Prop:=
 ∃r:RV,e=.returned (.agg #[.bool qc,.string (q1g (q17 N)),.int .i64 (x+(Go.Proofs.YtabcgemembkkcaaGreatDoor.Sh.tz N:Int)),.bool r.b,.slice r.X r.n r.c,.slice r.Y r.m r.d,.bool (s.has (wo N x))])/\RI w' r (Sh.far v N x)/\qg w.heap.size w w'
theorem qaA(A:Option qm)(n c N:Nat)(x:Int)(r l h:RV)(v:Rat)(s:Span)(w:qh)(hA:Rd w A n c (toL N))(hr:RI w r v)(hs:SI w l h s)(hN:0<N)(hl:q0t N<=9000)(hx1:-9000<=x)(hx2:x<=9000)
  (s1:Qb 3000 s.lo) (s2:Qb 3000 s.hi) (s3:Qb 3000 v) (hst:Std w) :
  qi qd 145 #[q0I A n c,.int .i64 x,r.v,.func (.func 44) #[spV l h s] #[]] w (SdP N x v s w):=by
 obtain⟨w0,b2⟩:=yx (((w.alloc (.cells #[.slice A n c] 37)).alloc (.cells #[.bool r.b,.slice r.X r.n r.c,.slice r.Y r.m r.d] 39)).alloc (.cells #[.bool qc,.string ⟨#[]⟩,.int .i64 0,.bool qc,.slice qa 0 0,.slice qa 0 0,.bool qc] 192));have p:Cx w [(w.heap.size+2,192,[.bool qc,.string ⟨#[]⟩,.int .i64 0,.bool qc,.slice qa 0 0,.slice qa 0 0,.bool qc]),(w.heap.size+1,39,[.bool r.b,.slice r.X r.n r.c,.slice r.Y r.m r.d]),(w.heap.size,37,[.slice A n c])] w0:=by rw[b2];exact(((Cx.nil w).new _ [_] rfl).new _ [_,_,_] (by simp)).new _ [_,_,_,_,_,_,_] (by simp)
 have hb:=q3K N;have hz:=q0V (q17 N);have b8:=q1G hN;have a0:=q8p (x:=x+(Go.Proofs.YtabcgemembkkcaaGreatDoor.Sh.tz N:Int)) hN (by omega) (by omega) (by omega);have U:=q9G hl hx1 hx2;have d1:=vv fun w' (k:RN w' A n c N)=>Pnt.Text A n c N w' k.r (rd_le k.r (by omega)) (by omega)
 have d2:=vv fun w'=>Dcm.MakeT N x w' hN (by omega) (by omega) (by omega)
 have b3:=vv fun w' (hst:Std w')=>Dcm.RatioE qc (q1g (q17 N)) (x+(Go.Proofs.YtabcgemembkkcaaGreatDoor.Sh.tz N:Int)) w' a0 (by omega) (by omega) (by omega) hst
 rw[q8q,show Go.Proofs.YtabcgemembkkcaaGreatDoor.Exa.sq qc (wo (q17 N) (x+(Go.Proofs.YtabcgemembkkcaaGreatDoor.Sh.tz N:Int)))=wo (q17 N) (x+(Go.Proofs.YtabcgemembkkcaaGreatDoor.Sh.tz N:Int)) from rfl,qaO hN] at b3;have d5:=vv fun r1 w' (k1:RI w' r1 (wo N x)) (k2:RI w' r v) (hst:Std w')=>qdp r1 (wo N x) r v w' k1 k2 (U.mono (by decide)) (s3.mono (by decide)) hst
 have d3:Qb 80000 (wo N x-v):=(Qb.sub U s3).mono (by decide);have d6:=vv fun r1 w' (k1:RI w' r1 (wo N x-v)) (hst:Std w')=>qdx r1 (wo N x-v) w' k1 (d3.mono (by decide)) hst
 have b4:=vv fun r1 w' (k0:SI w' l h s) (k1:RI w' r1 (wo N x)) (hst:Std w')=>in_ l h s r1 (wo N x) w' k0 k1 (s1.mono (by decide)) (s2.mono (by decide)) (U.mono (by decide)) hst
 have HF:Hid (Sh.far v N x=(wo N x-v).abs):=vv rfl;obtain⟨z,b5⟩:∃z:Int,z=x+(Go.Proofs.YtabcgemembkkcaaGreatDoor.Sh.tz N:Int):=⟨_,rfl⟩;obtain⟨S,hS⟩:=yx (q1g (q17 N));obtain⟨T,hT⟩:=yx (q1g N);unfold SdP;rw[<- b5,<- hS,<- hT] at d2;rw[<- b5,<- hS] at b3 ⊢;rw[<- hT] at d1;obtain⟨b6,a1⟩:∃b,b=s.has (wo N x):=⟨_,rfl⟩;rw[<- a1] at b4 ⊢;have HN:=vv (RN.mk (hA.below p.low rfl));have D:=vv (hr.below p.low);have i:=vv (hs.below p.low);obtain⟨sp,d4⟩:=yx (spV l h s);rw[<- d4] at b4 ⊢;have V:=vv hst;have a:=vv p;have HW:=vv b2;clear b2 p hA hr hs hN hl s1 s2 s3 hst hb hz b8 a0 U d3 b5 hS hT a1 d4;have d7:w0.cell? ⟨w.heap.size,0,qa⟩=qb (.slice A n c):=(a.o.get 2 rfl).cell 0;have d8:=(a.o.get 2 rfl).lt;go_enter func145,ntmps145;go_wp2_with fail;rw[<- HW.o];go_wp2_with fail;refine(d1.o _ HN.o).mono ?_;rintro e w3 ⟨rfl,f⟩;replace a:=vv (a.o.step f);replace HN:=vv (HN.o.below f);replace D:=vv (D.o.below f);replace i:=vv (i.o.below f);clear d7 d8 f;go_wp2_with fail;refine(d2.o _).mono ?_;rintro e Z ⟨rfl,f⟩;replace a:=vv (a.o.step f);replace D:=vv (D.o.below f);replace i:=vv (i.o.below f);clear f;go_wp2_with fail;obtain⟨O,F⟩:=yx (Z.heap.size);obtain⟨w6,t⟩:=yx (Z.alloc (.cells #[.bool qc,.string S,.int .i64 z] 27));have f:qg Z.heap.size Z w6:=by rw[t];exact(qf _ _).alloc lr _
 have p:=a.o.new 27 [.bool qc,.string S,.int .i64 z] F;rw[<- t] at p 
 try rw[<- t]
 try rw[<- F]
 replace a:=vv p;replace D:=vv (D.o.below f);replace i:=vv (i.o.below f);clear t f p F;refine(b3.o _ (a.o.std V.o)).mono ?_;rintro e L ⟨b,X,u,Y,y,rfl,hq,f⟩;replace a:=vv (a.o.step f);replace D:=vv (D.o.below f);replace i:=vv (i.o.below f);clear f;have j:Hid (RI _ ⟨b,X,u,u,Y,y,y⟩ (wo N x)):=vv hq;clear hq;have d9:L.cell? ⟨(w.heap.size+1),0,qa⟩=qb (.bool r.b):=(a.o.get 2 rfl).cell 0;have e0:L.cell? ⟨(w.heap.size+1),1,qa⟩=qb (.slice r.X r.n r.c):=(a.o.get 2 rfl).cell 1;have b9:L.cell? ⟨(w.heap.size+1),2,qa⟩=qb (.slice r.Y r.m r.d):=(a.o.get 2 rfl).cell 2;have c0:=(a.o.get 2 rfl).lt;go_wp2_with fail;obtain⟨M,F⟩:=yx (L.heap.size);obtain⟨e1,t⟩:=yx (L.alloc (.cells #[.bool b,.slice X u u,.slice Y y y] 39));have f:qg L.heap.size L e1:=by rw[t];exact(qf _ _).alloc lr _
 have p:=a.o.new 39 [.bool b,.slice X u u,.slice Y y y] F;rw[<- t] at p 
 try rw[<- t]
 try rw[<- F]
 replace a:=vv p;replace D:=vv (D.o.below f);replace i:=vv (i.o.below f);replace j:=vv (j.o.below f);clear d9 e0 b9 c0 t f p F;refine(d5.o ⟨b,X,u,u,Y,y,y⟩ _ j.o D.o (a.o.std V.o)).mono ?_;rintro e W ⟨q,rfl,Q,f⟩;replace a:=vv (a.o.step f);replace D:=vv (D.o.below f);replace i:=vv (i.o.below f);replace j:=vv (j.o.below f);have R:=vv Q;clear f Q;go_wp2_with fail;obtain⟨I,F⟩:=yx (W.heap.size);obtain⟨e2,t⟩:=yx (W.alloc (.cells #[.bool q.b,.slice q.X q.n q.c,.slice q.Y q.m q.d] 39));have f:qg W.heap.size W e2:=by rw[t];exact(qf _ _).alloc lr _
 have p:=a.o.new 39 [.bool q.b,.slice q.X q.n q.c,.slice q.Y q.m q.d] F;rw[<- t] at p 
 try rw[<- t]
 try rw[<- F]
 replace a:=vv p;replace i:=vv (i.o.below f);replace j:=vv (j.o.below f);replace R:=vv (R.o.below f);clear t f p F;refine(d6.o q _ R.o (a.o.std V.o)).mono ?_;rintro e e5 ⟨g,rfl,Q,f⟩;replace a:=vv (a.o.step f);replace i:=vv (i.o.below f);replace j:=vv (j.o.below f);replace R:=vv (R.o.below f);have H:=vv Q;clear f Q;rw[<- HF.o] at H;have C:=vv (a.o.get 0 rfl);go_wp2_with (with_reducible refine q00 rfl 39 (.tmp 15) (.tmp 42) rfl I [.bool g.b,.slice g.X g.n g.c,.slice g.Y g.m g.d] rfl rfl 39 _ C.o (by kernel_rfl) rfl rfl ?_);intro E P G;clear C;have C:=vv (a.o.get 0 rfl);replace a:=vv (a.o.put 0 rfl P G);replace i:=vv (i.o.apart_ C.o rfl G);replace j:=vv (j.o.apart_ C.o rfl G);replace H:=vv (H.o.apart_ C.o rfl G);clear C P G;go_wp2_with fail;have a2:E.cell? ⟨O,0,qa⟩=qb (.bool qc):=(a.o.get 2 rfl).cell 0;have a3:E.cell? ⟨O,1,qa⟩=qb (.string S):=(a.o.get 2 rfl).cell 1;have a4:E.cell? ⟨O,2,qa⟩=qb (.int .i64 z):=(a.o.get 2 rfl).cell 2;have a5:E.cell? ⟨I,0,qa⟩=qb (.bool g.b):=(a.o.get 0 rfl).cell 0;have a6:E.cell? ⟨I,1,qa⟩=qb (.slice g.X g.n g.c):=(a.o.get 0 rfl).cell 1;have a7:E.cell? ⟨I,2,qa⟩=qb (.slice g.Y g.m g.d):=(a.o.get 0 rfl).cell 2;have a8:E.cell? ⟨M,0,qa⟩=qb (.bool b):=(a.o.get 1 rfl).cell 0;have a9:E.cell? ⟨M,1,qa⟩=qb (.slice X u u):=(a.o.get 1 rfl).cell 1;have b0:E.cell? ⟨M,2,qa⟩=qb (.slice Y y y):=(a.o.get 1 rfl).cell 2;have c1:=(a.o.get 2 rfl).lt;have c2:=(a.o.get 0 rfl).lt;have c3:=(a.o.get 1 rfl).lt;refine q02 (fun w'=>w'.cell? ⟨O,0,qa⟩=qb (.bool qc)/\w'.cell? ⟨O,1,qa⟩=qb (.string S)/\w'.cell? ⟨O,2,qa⟩=qb (.int .i64 z)/\w'.cell? ⟨I,0,qa⟩=qb (.bool g.b)/\w'.cell? ⟨I,1,qa⟩=qb (.slice g.X g.n g.c)/\w'.cell? ⟨I,2,qa⟩=qb (.slice g.Y g.m g.d)/\w'.cell? ⟨M,0,qa⟩=qb (.bool b)/\w'.cell? ⟨M,1,qa⟩=qb (.slice X u u)/\w'.cell? ⟨M,2,qa⟩=qb (.slice Y y y)) 7
  (.still 0 (.still 1 (.still 2 (.still 3 (.one 4 (.still 5 (.one 6 .done))))))) (by kernel_rfl) (by kernel_rfl) (fun _ _ d _ _ h=>by cases d<;>exact h) ⟨a2,a3,a4,a5,a6,a7,a8,a9,b0⟩ (fun hS0=>?_)
 iterate 4
  refine q01 (v:=?_) rfl (by rfl) ?_ ?_;rotate_left
  ·intro w e3;go_simp;with_reducible rfl
  simp only[Act.put,sa,sb,sc]
 clear c1 c2 c3 a2 a3 a4 a5 a6 a7 a8 a9 b0;obtain⟨e4,b7⟩:=yx (E.drew);have f:qg E.heap.size E e4:=by rw[b7];exact q05 (qf _ _)
 replace a:=vv (a.o.step f);replace i:=vv (i.o.below f);replace j:=vv (j.o.below f);replace H:=vv (H.o.below f);rw[<- b7] at hS0 ⊢;clear b7 f;refine q03 rfl (by rfl) (fun K hK=>?_);go_simp;refine(b4.o ⟨b,X,u,u,Y,y,y⟩ _ i.o j.o (a.o.std V.o)).mono ?_;rintro e e6 ⟨rfl,f⟩;replace a:=vv (a.o.step f);replace i:=vv (i.o.below f);replace j:=vv (j.o.below f);replace H:=vv (H.o.below f);clear f;go_wp2_with fail;refine hK.out _ _ ⟨(a.o.get 2 rfl).cell 0,(a.o.get 2 rfl).cell 1,(a.o.get 2 rfl).cell 2,(a.o.get 0 rfl).cell 0,(a.o.get 0 rfl).cell 1,(a.o.get 0 rfl).cell 2,(a.o.get 1 rfl).cell 0,(a.o.get 1 rfl).cell 1,(a.o.get 1 rfl).cell 2⟩ (fun b1=>?_);clear hK
 iterate 1
  refine q01 (v:=?_) rfl (by rfl) ?_ ?_;rotate_left
  ·intro w e3;go_simp;with_reducible rfl
  simp only[Act.put,sa,sb,sc]
 refine q03 rfl (by rfl) (fun K hK=>?_);have C:=vv (a.o.get 3 rfl)
 with_reducible refine q0u 192 (.tmp 8) (.tmp 49) rfl (w.heap.size+2) [.bool qc,.string S,.int .i64 z,.bool g.b,.slice g.X g.n g.c,.slice g.Y g.m g.d,.bool b6] rfl rfl 192 _ C.o (by kernel_rfl) rfl rfl ?_
 intro J P G;replace a:=vv (a.o.put 3 rfl P G);replace i:=vv (i.o.apart_ C.o rfl G);replace j:=vv (j.o.apart_ C.o rfl G);replace H:=vv (H.o.apart_ C.o rfl G);clear C P G;refine hK.out _ _ ⟨(a.o.get 2 rfl).cell 0,(a.o.get 2 rfl).cell 1,(a.o.get 2 rfl).cell 2,(a.o.get 0 rfl).cell 0,(a.o.get 0 rfl).cell 1,(a.o.get 0 rfl).cell 2,(a.o.get 1 rfl).cell 0,(a.o.get 1 rfl).cell 1,(a.o.get 1 rfl).cell 2⟩ (fun b1=>?_);clear hK;refine q07 ?_;simp only[k0H,k0M];go_wp2;have c4:J.cell? ⟨(w.heap.size+2),0,qa⟩=qb (.bool qc):=(a.o.get 3 rfl).cell 0;have c5:J.cell? ⟨(w.heap.size+2),1,qa⟩=qb (.string S):=(a.o.get 3 rfl).cell 1;have c6:J.cell? ⟨(w.heap.size+2),2,qa⟩=qb (.int .i64 z):=(a.o.get 3 rfl).cell 2;have c7:J.cell? ⟨(w.heap.size+2),3,qa⟩=qb (.bool g.b):=(a.o.get 3 rfl).cell 3;have c8:J.cell? ⟨(w.heap.size+2),4,qa⟩=qb (.slice g.X g.n g.c):=(a.o.get 3 rfl).cell 4;have c9:J.cell? ⟨(w.heap.size+2),5,qa⟩=qb (.slice g.Y g.m g.d):=(a.o.get 3 rfl).cell 5;have d0:J.cell? ⟨(w.heap.size+2),6,qa⟩=qb (.bool b6):=(a.o.get 3 rfl).cell 6;exact qj (v:=.agg #[.bool qc,.string S,.int .i64 z,.bool g.b,.slice g.X g.n g.c,.slice g.Y g.m g.d,.bool b6]) (by simp [results,results145,go_sem,c4,c5,c6,c7,c8,c9,d0]) rfl ⟨g,rfl,H.o,a.o.low⟩
end Sho
namespace Exa
open Go Go.RowKit R5 Scn Sh Fms
theorem Rb.dq{K:Nat}{p:Int}(h:bl K<=80)(h1:-2900<=p)(h2:p<=2900):Rb (Sh.dq K p):=by
 rcases k01 K with k|k
 ·rw[k,q25];exact .inl rfl
 ·exact .inr ⟨K,p,k,rfl,h,h1,h2⟩
theorem q9z(E F m:Nat)(w:qh)(h1:2<=E)(h2:E<=11)(h3:1<=F)(h4:F<=52)(hb:m<2^(E+F))(hf:m/2^F≠2^E-1)(hst:Std w):qi qd 24 #[fm E F,.int .u64 (m:Int)] w (DQP (wv E F m) w):=by
 have hx:m/2^F<2^E:=k0s (by rw[<- k0h,k11];exact hb);have h:q0E E F m=m/2^F:=k0u hx;have l:q2x E F m=qc:=by unfold q2x;rw[k0N (by rw[k11];exact hb)];rfl
 have n:m<2^(1+E+F):=k02 hb (k04 (by decide) (by omega));refine(ValueF E F m w h1 h2 h3 h4 n (by rw[h];exact hf) hst).mono ?_;rw[l,h];show ∀e i,q9b qc (mgN F m) (mgX E F m) w e i->_;obtain⟨s,t⟩:=q4y h1 h2 h4 hb;have u:bl (mgN F m)<=60:=by have:=q0A (q5A F m);omega
 have o:Rb (wv E F m):=Rb.dq (by omega) (by omega) (by omega);intro e i c;unfold q9b at c;split at c
 ·rename_i h0;obtain⟨d,k,rfl,a,-,f⟩:=c;have p:k=0:=by have:=a.words;rw[q0s] at this;exact this.symm
  have q:wv E F m=0:=by unfold wv;rw[h0,q25]
  rw[q];exact⟨d,k,k,0,0,rfl,DQ.of_zero a (fun _=>p),f⟩
 ·rename_i h0;obtain⟨d,k,rfl,a,-,f⟩:=c;have r:(mgN F m/2^Go.Proofs.YtabcgemembkkcaaGreatDoor.tz (mgN F m))%2=1:=by
   have:=Hx.oddN_odd (M:=mgN F m) (by omega);unfold Hx.oddN at this
   rwa [k0o h0] at this
  refine⟨d,k,k,_,_,rfl,DQ.of_odd a r (q77 (by omega) _).symm o (fun e=>?_),f⟩;rcases k01 k with g|g
  ·exact g
  ·obtain⟨b,off,j,-⟩:=a.cell g;rw[e] at j;cases j
theorem q8e{k:Nat}(h:bl N<=32*k):words N<=k:=q0X (by rw[q1q];exact k02 (q0J N) (k04 (by decide) h))
theorem qd4(A:Option qm)(n c N:Nat)(x:Int)(q1:Rat)(B:Option qm)(m d M:Nat)(y:Int)(q2:Rat)(w:qh)(ha:DQ w A n c N x q1)(hb:DQ w B m d M y q2)(hres:Rb (q1+q2))(hst:Std w):qi qd 127 #[q14 qc A n c x,q14 qc B m d y] w (DQP (q1+q2) w):=by
 obtain⟨h,R⟩:=yx (((w.alloc (.cells #[.bool qc,.slice A n c,.int .i64 x] 62)).alloc (.cells #[.bool qc,.slice B m d,.int .i64 y] 62)).alloc (.cells #[.bool qc,.slice qa 0 0,.int .i64 0] 62));have i:Cx w [(w.heap.size+1+1,62,[.bool qc,.slice qa 0 0,.int .i64 0]),(w.heap.size+1,62,[.bool qc,.slice B m d,.int .i64 y]),(w.heap.size,62,[.bool qc,.slice A n c,.int .i64 x])] h:=by rw[R];exact(((Cx.nil w).new _ [_,_,_] rfl).new _ [_,_,_] (by simp)).new _ [_,_,_] (by simp)
 have hn:=ha.n_le;have hm:=hb.n_le;have c0:=vv fun w' (k:DQ w' A n c N x q1) (k2:DQ w' B m d M y q2)=>qcE qc A n c N x qc B m d M y w' k.r k2.r k.ok k2.ok
 have f3:=vv fun w' (k:DQ w' A n c N x q1) (k2:DQ w' B m d M y q2)=>qbA qc A n c N x qc B m d M y w' k.r k2.r hn hm (by have:=k.bn;omega) (by have:=k2.bn;omega) (by have:=k.b1;omega) (by have:=k.b2;omega) (by have:=k2.b1;omega) (by have:=k2.b2;omega)
 have f4:=vv fun w' (k:DQ w' A n c N x q1)=>qaX A n c N x q1 w' k
 have f5:=vv fun w' (k:DQ w' B m d M y q2)=>qaX B m d M y q2 w' k
 have a:=vv i;have HW:=vv R;have f:=vv (ha.below i.low);have g:=vv (hb.below i.low);have c1:=vv hres;have g9:=vv (i.low);have g2:=vv hst;rcases k01 N with Q|Q
 ·have G:q1+q2=q2:=by rw[ha.e,Q,q25];grind
  have O:n=0:=by have:=ha.r.words;rw[Q,q0s] at this;exact this.symm
  subst O;rw[G];have U:=vv fun w=>q5v A c w
  clear R i ha hb hres hst Q G hn hm c1;have V:h.cell? ⟨(w.heap.size+1),0,qa⟩=qb (.bool qc):=(a.o.get 1 rfl).cell 0;have W:h.cell? ⟨(w.heap.size+1),1,qa⟩=qb (.slice B m d):=(a.o.get 1 rfl).cell 1;have X:h.cell? ⟨(w.heap.size+1),2,qa⟩=qb (.int .i64 y):=(a.o.get 1 rfl).cell 2;have Y:=(a.o.get 1 rfl).lt;have Z:h.cell? ⟨w.heap.size,0,qa⟩=qb (.bool qc):=(a.o.get 2 rfl).cell 0;have b4:h.cell? ⟨w.heap.size,1,qa⟩=qb (.slice A 0 c):=(a.o.get 2 rfl).cell 1;have b5:h.cell? ⟨w.heap.size,2,qa⟩=qb (.int .i64 x):=(a.o.get 2 rfl).cell 2;have b6:=(a.o.get 2 rfl).lt;go_enter func127,ntmps127;go_wp2_with fail;rw[<- HW.o];go_wp2_with fail;refine(c0.o _ f.o g.o).mono ?_;rintro e t ⟨rfl,b⟩;replace a:=vv (a.o.step b);replace f:=vv (f.o.below b);replace g:=vv (g.o.below b);clear V W X Y Z b4 b5 b6 b;have a0:t.cell? ⟨w.heap.size,0,qa⟩=qb (.bool qc):=(a.o.get 2 rfl).cell 0;have a1:t.cell? ⟨w.heap.size,1,qa⟩=qb (.slice A 0 c):=(a.o.get 2 rfl).cell 1;have a2:t.cell? ⟨w.heap.size,2,qa⟩=qb (.int .i64 x):=(a.o.get 2 rfl).cell 2;have a3:=(a.o.get 2 rfl).lt;go_wp2_with fail;refine(U.o _).mono ?_;rintro e q ⟨rfl,b⟩;replace a:=vv (a.o.step b);replace f:=vv (f.o.below b);replace g:=vv (g.o.below b);clear a0 a1 a2 a3 b;have a4:q.cell? ⟨(w.heap.size+1),0,qa⟩=qb (.bool qc):=(a.o.get 1 rfl).cell 0;have a5:q.cell? ⟨(w.heap.size+1),1,qa⟩=qb (.slice B m d):=(a.o.get 1 rfl).cell 1;have a6:q.cell? ⟨(w.heap.size+1),2,qa⟩=qb (.int .i64 y):=(a.o.get 1 rfl).cell 2;have a7:=(a.o.get 1 rfl).lt;go_wp2_with fail;refine(f5.o _ g.o).mono ?_;rintro e s ⟨B',d',rfl,K,b⟩;replace a:=vv (a.o.step b);replace f:=vv (f.o.below b);replace g:=vv (g.o.below b);have u:=vv K;clear a4 a5 a6 a7 b K;have j:=vv (a.o.get 0 rfl);go_wp2_with (with_reducible refine q00 rfl 62 (.tmp 4) (.tmp 28) rfl (w.heap.size+1+1) [.bool qc,.slice B' m d',.int .i64 y] rfl rfl 62 _ j.o (by kernel_rfl) rfl rfl ?_);intro c2 I C;clear j;have j:=vv (a.o.get 0 rfl);replace a:=vv (a.o.put 0 rfl I C);replace u:=vv (u.o.apart_ j.o rfl C);clear j I C;go_wp2;have c6:c2.cell? ⟨(w.heap.size+1+1),0,qa⟩=qb (.bool qc):=(a.o.get 0 rfl).cell 0;have c7:c2.cell? ⟨(w.heap.size+1+1),1,qa⟩=qb (.slice B' m d'):=(a.o.get 0 rfl).cell 1;have c8:c2.cell? ⟨(w.heap.size+1+1),2,qa⟩=qb (.int .i64 y):=(a.o.get 0 rfl).cell 2;exact qj (v:=.tuple #[q14 qc B' m d' y,.int .i64 0]) (by simp [results,results127,go_sem,c6,c7,c8]) rfl ⟨B',m,d',M,y,rfl,u.o,a.o.low⟩
 rcases k01 M with k0|k0
 ·have G:q1+q2=q1:=by rw[hb.e,k0,q25];grind
  have b9:m=0:=by have:=hb.r.words;rw[k0,q0s] at this;exact this.symm
  have O:0<n:=by
   rcases k01 n with k|k
   ·have:=ha.r.words;rw[k] at this;have:=q06.1 this;omega
   ·exact k
  subst b9;rw[G];have U:=vv fun w=>q2w A n c w O
  have c3:=vv fun w=>q5v B d w
  clear R i ha hb hres hst Q k0 G hn hm c1 O;have V:h.cell? ⟨(w.heap.size+1),0,qa⟩=qb (.bool qc):=(a.o.get 1 rfl).cell 0;have W:h.cell? ⟨(w.heap.size+1),1,qa⟩=qb (.slice B 0 d):=(a.o.get 1 rfl).cell 1;have X:h.cell? ⟨(w.heap.size+1),2,qa⟩=qb (.int .i64 y):=(a.o.get 1 rfl).cell 2;have Y:=(a.o.get 1 rfl).lt;have Z:h.cell? ⟨w.heap.size,0,qa⟩=qb (.bool qc):=(a.o.get 2 rfl).cell 0;have b4:h.cell? ⟨w.heap.size,1,qa⟩=qb (.slice A n c):=(a.o.get 2 rfl).cell 1;have b5:h.cell? ⟨w.heap.size,2,qa⟩=qb (.int .i64 x):=(a.o.get 2 rfl).cell 2;have b6:=(a.o.get 2 rfl).lt;go_enter func127,ntmps127;go_wp2_with fail;rw[<- HW.o];go_wp2_with fail;refine(c0.o _ f.o g.o).mono ?_;rintro e t ⟨rfl,b⟩;replace a:=vv (a.o.step b);replace f:=vv (f.o.below b);replace g:=vv (g.o.below b);clear V W X Y Z b4 b5 b6 b;have a0:t.cell? ⟨w.heap.size,0,qa⟩=qb (.bool qc):=(a.o.get 2 rfl).cell 0;have a1:t.cell? ⟨w.heap.size,1,qa⟩=qb (.slice A n c):=(a.o.get 2 rfl).cell 1;have a2:t.cell? ⟨w.heap.size,2,qa⟩=qb (.int .i64 x):=(a.o.get 2 rfl).cell 2;have a3:=(a.o.get 2 rfl).lt;go_wp2_with fail;refine(U.o _).mono ?_;rintro e q ⟨rfl,b⟩;replace a:=vv (a.o.step b);replace f:=vv (f.o.below b);replace g:=vv (g.o.below b);clear a0 a1 a2 a3 b;have a4:q.cell? ⟨(w.heap.size+1),0,qa⟩=qb (.bool qc):=(a.o.get 1 rfl).cell 0;have a5:q.cell? ⟨(w.heap.size+1),1,qa⟩=qb (.slice B 0 d):=(a.o.get 1 rfl).cell 1;have a6:q.cell? ⟨(w.heap.size+1),2,qa⟩=qb (.int .i64 y):=(a.o.get 1 rfl).cell 2;have a7:=(a.o.get 1 rfl).lt;go_wp2_with fail;refine(c3.o _).mono ?_;rintro e s ⟨rfl,b⟩;replace a:=vv (a.o.step b);replace f:=vv (f.o.below b);replace g:=vv (g.o.below b);clear a4 a5 a6 a7 b;have a8:s.cell? ⟨w.heap.size,0,qa⟩=qb (.bool qc):=(a.o.get 2 rfl).cell 0;have a9:s.cell? ⟨w.heap.size,1,qa⟩=qb (.slice A n c):=(a.o.get 2 rfl).cell 1;have b0:s.cell? ⟨w.heap.size,2,qa⟩=qb (.int .i64 x):=(a.o.get 2 rfl).cell 2;have b3:=(a.o.get 2 rfl).lt;go_wp2_with fail;refine(f4.o _ f.o).mono ?_;rintro e i0 ⟨A',c',rfl,K,b⟩;replace a:=vv (a.o.step b);replace f:=vv (f.o.below b);replace g:=vv (g.o.below b);have u:=vv K;clear a8 a9 b0 b3 b K;have j:=vv (a.o.get 0 rfl);go_wp2_with (with_reducible refine q00 rfl 62 (.tmp 4) (.tmp 34) rfl (w.heap.size+1+1) [.bool qc,.slice A' n c',.int .i64 x] rfl rfl 62 _ j.o (by kernel_rfl) rfl rfl ?_);intro c4 I C;clear j;have j:=vv (a.o.get 0 rfl);replace a:=vv (a.o.put 0 rfl I C);replace u:=vv (u.o.apart_ j.o rfl C);clear j I C;go_wp2;have d0:c4.cell? ⟨(w.heap.size+1+1),0,qa⟩=qb (.bool qc):=(a.o.get 0 rfl).cell 0;have d1:c4.cell? ⟨(w.heap.size+1+1),1,qa⟩=qb (.slice A' n c'):=(a.o.get 0 rfl).cell 1;have d2:c4.cell? ⟨(w.heap.size+1+1),2,qa⟩=qb (.int .i64 x):=(a.o.get 0 rfl).cell 2;exact qj (v:=.tuple #[q14 qc A' n c' x,.int .i64 0]) (by simp [results,results127,go_sem,d0,d1,d2]) rfl ⟨A',n,c',N,x,rfl,u.o,a.o.low⟩
 have O:0<n:=by
  rcases k01 n with k|k
  ·have:=ha.r.words;rw[k] at this;have:=q06.1 this;omega
  ·exact k
 have b9:0<m:=by
  rcases k01 m with k|k
  ·have:=hb.r.words;rw[k] at this;have:=q06.1 this;omega
  ·exact k
 have G:dq (N*p2 (x-y)+M*p2 (y-x)) (min x y)=q1+q2:=by rw[q90,<- ha.e,<- hb.e]
 have s1:bl (N*p2 (x-y))<=32000:=q2X (by have:=ha.bn;omega) (by have:=ha.b2;have:=hb.b1;omega);have s2:bl (M*p2 (y-x))<=32000:=q2X (by have:=hb.bn;omega) (by have:=hb.b2;have:=ha.b1;omega);obtain⟨S,hS⟩:=yx (N*p2 (x-y));obtain⟨T,hT⟩:=yx (M*p2 (y-x));obtain⟨z,hz⟩:=yx (min x y);have z1:-3000<=z:=by have:=ha.b1;have:=hb.b1;omega
 have z2:z<=3000:=by have:=ha.b2;have:=hb.b2;omega
 rw[<- hS,<- hT,<- hz] at G f3;rw[<- hS] at s1;rw[<- hT] at s2;have d3:bl (S+T)<=32001:=q2E S T 32000 s1 s2;have U:=vv fun w=>q2w A n c w O
 have c3:=vv fun w=>q2w B m d w b9
 have g3:=vv fun L p B1 H w' (k:RN w' L p p S) (k2:RN w' B1 H H T) (l1:p<=16384) (l2:H<=16384)=>Pnt.Add L p p S B1 H H T w' k.r k2.r l1 l2 (k06 (q8e (k:=1001) (by omega)) (by decide))
 have f6:=vv fun L p w' (k:RN w' L p p (S+T)) (hs:Std w')=>qaH L p p (S+T) z w' k.r (k06 (Rtp.rd_le (k:=1001) k.r (by omega)) (by decide)) (by rw[G];exact hres) (by omega) (by omega) hs
 rw[G] at f6;clear R i ha hb hres hst Q k0 G hn hm c1 O b9 s1 s2 hS hT hz d3 f4 f5;have V:h.cell? ⟨(w.heap.size+1),0,qa⟩=qb (.bool qc):=(a.o.get 1 rfl).cell 0;have W:h.cell? ⟨(w.heap.size+1),1,qa⟩=qb (.slice B m d):=(a.o.get 1 rfl).cell 1;have X:h.cell? ⟨(w.heap.size+1),2,qa⟩=qb (.int .i64 y):=(a.o.get 1 rfl).cell 2;have Y:=(a.o.get 1 rfl).lt;have Z:h.cell? ⟨w.heap.size,0,qa⟩=qb (.bool qc):=(a.o.get 2 rfl).cell 0;have b4:h.cell? ⟨w.heap.size,1,qa⟩=qb (.slice A n c):=(a.o.get 2 rfl).cell 1;have b5:h.cell? ⟨w.heap.size,2,qa⟩=qb (.int .i64 x):=(a.o.get 2 rfl).cell 2;have b6:=(a.o.get 2 rfl).lt;go_enter func127,ntmps127;go_wp2_with fail;rw[<- HW.o];go_wp2_with fail;refine(c0.o _ f.o g.o).mono ?_;rintro e t ⟨rfl,b⟩;replace a:=vv (a.o.step b);replace f:=vv (f.o.below b);replace g:=vv (g.o.below b);clear V W X Y Z b4 b5 b6 b;have a0:t.cell? ⟨w.heap.size,0,qa⟩=qb (.bool qc):=(a.o.get 2 rfl).cell 0;have a1:t.cell? ⟨w.heap.size,1,qa⟩=qb (.slice A n c):=(a.o.get 2 rfl).cell 1;have a2:t.cell? ⟨w.heap.size,2,qa⟩=qb (.int .i64 x):=(a.o.get 2 rfl).cell 2;have a3:=(a.o.get 2 rfl).lt;go_wp2_with fail;refine(U.o _).mono ?_;rintro e q ⟨rfl,b⟩;replace a:=vv (a.o.step b);replace f:=vv (f.o.below b);replace g:=vv (g.o.below b);clear a0 a1 a2 a3 b;have a4:q.cell? ⟨(w.heap.size+1),0,qa⟩=qb (.bool qc):=(a.o.get 1 rfl).cell 0;have a5:q.cell? ⟨(w.heap.size+1),1,qa⟩=qb (.slice B m d):=(a.o.get 1 rfl).cell 1;have a6:q.cell? ⟨(w.heap.size+1),2,qa⟩=qb (.int .i64 y):=(a.o.get 1 rfl).cell 2;have a7:=(a.o.get 1 rfl).lt;go_wp2_with fail;refine(c3.o _).mono ?_;rintro e s ⟨rfl,b⟩;replace a:=vv (a.o.step b);replace f:=vv (f.o.below b);replace g:=vv (g.o.below b);clear a4 a5 a6 a7 b;have a8:s.cell? ⟨(w.heap.size+1),0,qa⟩=qb (.bool qc):=(a.o.get 1 rfl).cell 0;have a9:s.cell? ⟨(w.heap.size+1),1,qa⟩=qb (.slice B m d):=(a.o.get 1 rfl).cell 1;have b0:s.cell? ⟨(w.heap.size+1),2,qa⟩=qb (.int .i64 y):=(a.o.get 1 rfl).cell 2;have b3:=(a.o.get 1 rfl).lt;have d4:s.cell? ⟨w.heap.size,0,qa⟩=qb (.bool qc):=(a.o.get 2 rfl).cell 0;have d5:s.cell? ⟨w.heap.size,1,qa⟩=qb (.slice A n c):=(a.o.get 2 rfl).cell 1;have d6:s.cell? ⟨w.heap.size,2,qa⟩=qb (.int .i64 x):=(a.o.get 2 rfl).cell 2;have d7:=(a.o.get 2 rfl).lt;go_wp2_with fail;refine(f3.o _ f.o g.o).mono ?_;rintro e F ⟨L,p,B1,H,rfl,f7,f8,f9,g0,b⟩;replace a:=vv (a.o.step b);replace f:=vv (f.o.below b);replace g:=vv (g.o.below b);have D:=vv (RN.mk f7);have E:=vv (RN.mk f8);clear a8 a9 b0 b3 d4 d5 d6 d7 b f7 f8;have g4:=vv f9;have g5:=vv g0;clear f9 g0;have d8:F.cell? ⟨(w.heap.size+1),0,qa⟩=qb (.bool qc):=(a.o.get 1 rfl).cell 0;have d9:F.cell? ⟨(w.heap.size+1),1,qa⟩=qb (.slice B m d):=(a.o.get 1 rfl).cell 1;have e0:F.cell? ⟨(w.heap.size+1),2,qa⟩=qb (.int .i64 y):=(a.o.get 1 rfl).cell 2;have e1:=(a.o.get 1 rfl).lt;have e2:F.cell? ⟨w.heap.size,0,qa⟩=qb (.bool qc):=(a.o.get 2 rfl).cell 0;have e3:F.cell? ⟨w.heap.size,1,qa⟩=qb (.slice A n c):=(a.o.get 2 rfl).cell 1;have e4:F.cell? ⟨w.heap.size,2,qa⟩=qb (.int .i64 x):=(a.o.get 2 rfl).cell 2;have e5:=(a.o.get 2 rfl).lt;go_wp2_with fail;obtain⟨g6,J⟩:=yx (F.heap.size);obtain⟨b7,l⟩:=yx (F.alloc (.cells #[.slice L p p] 37));have b:qg F.heap.size F b7:=by rw[l];exact(qf _ _).alloc lr _
 have i:=a.o.new 37 [.slice L p p] J;have b8:(g6+1:Nat)=b7.heap.size:=by rw[l,World.size_alloc,<- J]
 rw[<- l] at i 
 try rw[<- l]
 try rw[<- J]
 replace a:=vv i;replace f:=vv (f.o.below b);replace g:=vv (g.o.below b);replace D:=vv (D.o.below b);replace E:=vv (E.o.below b);clear d8 d9 e0 e1 e2 e3 e4 e5 l b i J;obtain⟨g7,l⟩:=yx (b7.alloc (.cells #[.slice B1 H H] 37));have b:qg b7.heap.size b7 g7:=by rw[l];exact(qf _ _).alloc lr _
 have i:=a.o.new 37 [.slice B1 H H] b8;rw[<- l] at i 
 try rw[<- l]
 replace a:=vv i;replace f:=vv (f.o.below b);replace g:=vv (g.o.below b);replace D:=vv (D.o.below b);replace E:=vv (E.o.below b);clear l b i b8;refine(g3.o _ _ _ _ _ D.o E.o g4.o g5.o).mono ?_;rintro e P ⟨A2,n2,rfl,g1,-,b⟩;replace a:=vv (a.o.step b);replace f:=vv (f.o.below b);replace g:=vv (g.o.below b);replace D:=vv (D.o.below b);replace E:=vv (E.o.below b);have H3:=vv (RN.mk g1);clear b g1;have e6:P.cell? ⟨w.heap.size,0,qa⟩=qb (.bool qc):=(a.o.get 4 rfl).cell 0;have e7:P.cell? ⟨w.heap.size,1,qa⟩=qb (.slice A n c):=(a.o.get 4 rfl).cell 1;have e8:P.cell? ⟨w.heap.size,2,qa⟩=qb (.int .i64 x):=(a.o.get 4 rfl).cell 2;have e9:=(a.o.get 4 rfl).lt;go_wp2_with fail;obtain⟨i1,J⟩:=yx (P.heap.size);obtain⟨g8,l⟩:=yx (P.alloc (.cells #[.slice A2 n2 n2] 37));have b:qg P.heap.size P g8:=by rw[l];exact(qf _ _).alloc lr _
 have i:=a.o.new 37 [.slice A2 n2 n2] J;rw[<- l] at i 
 try rw[<- l]
 try rw[<- J]
 replace a:=vv i;replace f:=vv (f.o.below b);replace g:=vv (g.o.below b);replace D:=vv (D.o.below b);replace E:=vv (E.o.below b);replace H3:=vv (H3.o.below b);clear e6 e7 e8 e9 l b i J;refine(f6.o _ _ _ H3.o (a.o.std g2.o)).mono ?_;rintro e i2 ⟨A9,n9,c9,N9,x9,rfl,K,b⟩;replace a:=vv (a.o.step b);replace f:=vv (f.o.below b);replace g:=vv (g.o.below b);replace D:=vv (D.o.below b);replace E:=vv (E.o.below b);replace H3:=vv (H3.o.below b);have u:=vv K;clear b K;have j:=vv (a.o.get 3 rfl);go_wp2_with (with_reducible refine q00 rfl 62 (.tmp 4) (.tmp 67) rfl (w.heap.size+1+1) [.bool qc,.slice A9 n9 c9,.int .i64 x9] rfl rfl 62 _ j.o (by kernel_rfl) rfl rfl ?_);intro c5 I C;clear j;have j:=vv (a.o.get 3 rfl);replace a:=vv (a.o.put 3 rfl I C);replace u:=vv (u.o.apart_ j.o rfl C);clear j I C;go_wp2;have f0:c5.cell? ⟨(w.heap.size+1+1),0,qa⟩=qb (.bool qc):=(a.o.get 3 rfl).cell 0;have f1:c5.cell? ⟨(w.heap.size+1+1),1,qa⟩=qb (.slice A9 n9 c9):=(a.o.get 3 rfl).cell 1;have f2:c5.cell? ⟨(w.heap.size+1+1),2,qa⟩=qb (.int .i64 x9):=(a.o.get 3 rfl).cell 2;exact qj (v:=.tuple #[q14 qc A9 n9 c9 x9,.int .i64 0]) (by simp [results,results127,go_sem,f0,f1,f2]) rfl ⟨A9,n9,c9,N9,x9,rfl,u.o,a.o.low⟩
end Exa
namespace Nea
open Go Go.RowKit R5 Scn Sh Fms Exa
theorem qbt(A:Option qm)(n c N:Nat)(x:Int)(q1:Rat)(B:Option qm)(m d M:Nat)(y:Int)(q2:Rat)(w:qh)(ha:DQ w A n c N x q1)(hb:DQ w B m d M y q2)(h1:Rb (q1+q2))(h2:Rb ((q1+q2)/2))(hst:Std w):qi qd 128 #[q14 qc A n c x,q14 qc B m d y] w (DQP ((q1+q2)/2) w):=by
 obtain⟨i,I⟩:=yx (((w.alloc (.cells #[.bool qc,.slice A n c,.int .i64 x] 62)).alloc (.cells #[.bool qc,.slice B m d,.int .i64 y] 62)).alloc (.cells #[.bool qc,.slice qa 0 0,.int .i64 0] 62));have g:Cx w [(w.heap.size+1+1,62,[.bool qc,.slice qa 0 0,.int .i64 0]),(w.heap.size+1,62,[.bool qc,.slice B m d,.int .i64 y]),(w.heap.size,62,[.bool qc,.slice A n c,.int .i64 x])] i:=by rw[I];exact(((Cx.nil w).new _ [_,_,_] rfl).new _ [_,_,_] (by simp)).new _ [_,_,_] (by simp)
 have a:=vv g;have HW:=vv I;have j:=vv (ha.below g.low);have l:=vv (hb.below g.low);have P:=vv hst;have R:=vv fun w' (k:DQ w' A n c N x q1) (k2:DQ w' B m d M y q2) (hs:Std w')=>qd4 A n c N x q1 B m d M y q2 w' k k2 h1 hs
 have S:Hid (∀p q s h f w',DQ w' p q s h f (q1+q2)->Std w'->qi qd 65 #[.bool qc,q0I p q s,.int .i64 (f-1)] w' (DQP ((q1+q2)/2) w')):=vv fun p q s h f w' k hs=>by
  have e:dq h (f-1)=(q1+q2)/2:=by
   have e1:=k.e;have e2:dq h f=dq h (f-1)+dq h (f-1):=by unfold dq;rw[q6E f];grind
   grind
  have:=qaH p q s h (f-1) w' k.r k.n_le (by rw[e];exact h2) (by have:=k.b1;omega) (by have:=k.b2;omega) hs
  rwa [e] at this
 clear I g ha hb h1 h2 hst;have T:i.cell? ⟨(w.heap.size+1),0,qa⟩=qb (.bool qc):=(a.o.get 1 rfl).cell 0;have U:i.cell? ⟨(w.heap.size+1),1,qa⟩=qb (.slice B m d):=(a.o.get 1 rfl).cell 1;have V:i.cell? ⟨(w.heap.size+1),2,qa⟩=qb (.int .i64 y):=(a.o.get 1 rfl).cell 2;have W:=(a.o.get 1 rfl).lt;have X:i.cell? ⟨w.heap.size,0,qa⟩=qb (.bool qc):=(a.o.get 2 rfl).cell 0;have Y:i.cell? ⟨w.heap.size,1,qa⟩=qb (.slice A n c):=(a.o.get 2 rfl).cell 1;have Z:i.cell? ⟨w.heap.size,2,qa⟩=qb (.int .i64 x):=(a.o.get 2 rfl).cell 2;have a3:=(a.o.get 2 rfl).lt;go_enter func128,ntmps128;go_wp2_with fail;rw[<- HW.o];go_wp2_with fail;refine(R.o _ j.o l.o (a.o.std P.o)).mono ?_;rintro e D ⟨p,q,s,h,f,rfl,z,b⟩;replace a:=vv (a.o.step b);replace j:=vv (j.o.below b);replace l:=vv (l.o.below b);have t:=vv z;clear T U V W X Y Z a3 b z;have a5:=t.o.b1;have a6:=t.o.b2;go_wp2_with fail;obtain⟨a7,J⟩:=yx (D.heap.size);obtain⟨a4,C⟩:=yx (D.alloc (.cells #[.bool qc,.slice p q s,.int .i64 f] 62));have b:qg D.heap.size D a4:=by rw[C];exact(qf _ _).alloc lr _
 have g:=a.o.new 62 [.bool qc,.slice p q s,.int .i64 f] J;rw[<- C] at g 
 try rw[<- C]
 try rw[<- J]
 replace a:=vv g;replace j:=vv (j.o.below b);replace l:=vv (l.o.below b);replace t:=vv (t.o.below b);clear C b g J;refine(S.o _ _ _ _ _ _ t.o (a.o.std P.o)).mono ?_;rintro e a8 ⟨E,F,G,N9,H,rfl,z,b⟩;replace a:=vv (a.o.step b);replace j:=vv (j.o.below b);replace l:=vv (l.o.below b);replace t:=vv (t.o.below b);have L:=vv z;clear b z;have u:=vv (a.o.get 1 rfl);go_wp2_with (with_reducible refine q00 rfl 62 (.tmp 4) (.tmp 26) rfl (w.heap.size+1+1) [.bool qc,.slice E F G,.int .i64 H] rfl rfl 62 _ u.o (by kernel_rfl) rfl rfl ?_);intro K Q O;clear u;have u:=vv (a.o.get 1 rfl);replace a:=vv (a.o.put 1 rfl Q O);replace L:=vv (L.o.apart_ u.o rfl O);clear u Q O;go_wp2;have a0:K.cell? ⟨(w.heap.size+1+1),0,qa⟩=qb (.bool qc):=(a.o.get 1 rfl).cell 0;have a1:K.cell? ⟨(w.heap.size+1+1),1,qa⟩=qb (.slice E F G):=(a.o.get 1 rfl).cell 1;have a2:K.cell? ⟨(w.heap.size+1+1),2,qa⟩=qb (.int .i64 H):=(a.o.get 1 rfl).cell 2;exact qj (v:=.tuple #[q14 qc E F G H,.int .i64 0]) (by simp [results,results128,go_sem,a0,a1,a2]) rfl ⟨E,F,G,N9,H,rfl,L.o,a.o.low⟩
theorem qcl(E F:Nat)(w:qh)(h2:E<=11)(h4:F<=52):qi qd 58 #[fm E F] w fun e w'=>e=.returned (.int .u64 ((2^(E+F):Nat):Int))/\qg w.heap.size w w':=by
 have d:qg w.heap.size w (w.alloc (.cells #[.int .i64 (E:Int),.int .i64 (F:Int)] 23)):=(qf _ _).alloc lr _;obtain⟨a,c⟩:∃n:Nat,n=E+F:=⟨_,rfl⟩;have h:(E:Int)+(F:Int)=(a:Int):=by omega
 have i:(a:Int)<=63:=by omega
 obtain⟨P,b⟩:∃P:Nat,P=2^a:=⟨_,rfl⟩;have f:P<=9223372036854775808:=by rw[b];exact k06 (k04 (by decide) (show a<=63 by omega)) (by decide)
 have j:IntKind.u64.wrap ((2:Int)^a)=(P:Int):=by
  have e:((2:Int)^a)=(P:Int):=by rw[b,k0D];rfl
  rw[e,IntKind.wrap_u64];omega
 have k:(E:Int)<=11:=by omega
 have l:(F:Int)<=52:=by omega
 rw[<- c,<- b];have g:=vv d;clear d f b c;go_enter func58,ntmps58;go_wp2;go_ret;exact⟨rfl,g.o⟩
theorem qcm(mode:Nat)(neg:Bool)(w:qh)(hm:mode<=4):qi qd 60 #[.int .u8 (mode:Int),.bool neg] w fun e w'=>e=.returned (.int .u8 ((Go.Proofs.YtabcgemembkkcaaGreatDoor.Sh.seen mode neg:Nat):Int))/\w=w':=by
 rcases(by omega:mode=0\/mode=1\/mode=2\/mode=3\/mode=4) with rfl|rfl|rfl|rfl|rfl<;>cases neg;all_goals
  go_enter func60,ntmps60;go_wp2;go_ret;exact⟨rfl,rfl⟩
theorem qbX(E F:Nat)(w:qh)(h1:2<=E)(h2:E<=11)(h3:1<=F)(h4:F<=52):qi qd 215 #[fm E F] w fun e w'=>e=.returned (.tuple #[.int .i64 (2-(2^(E-1):Nat)-F),.int .i64 (((2^(E-1):Nat):Int)-1),.int .i64 0])/\qg w.heap.size w w':=by
 have h:R3.formOk E F=qk:=by unfold R3.formOk;rw[k03 (p:=(2:Int)<=E) (by omega),k03 (p:=(E:Int)<=11) (by omega),k03 (p:=(1:Int)<=F) (by omega),k03 (p:=(F:Int)<=52) (by omega)];rfl
 obtain⟨g,f⟩:=yx (w.alloc (.cells #[.int .i64 (E:Int),.int .i64 (F:Int)] 23));have l:Cx w [(w.heap.size,23,[.int .i64 (E:Int),.int .i64 (F:Int)])] g:=by rw[f];exact(Cx.nil w).new _ [_,_] rfl
 have i:=vv fun w=>Check E F w
 rw[show R3.chk E F=0 by unfold R3.chk;rw[h];rfl] at i;have c:=vv fun w=>qcv (E-1) w (by omega)
 have j:((E-1:Nat):Int)=(E:Int)-1:=by omega
 rw[j] at c;obtain⟨M,b⟩:=yx (2^(E-1));have k:1<=M:=by rw[b];exact k0c _
 have r:M<=1024:=by rw[b];exact k06 (k04 (by decide) (show E-1<=10 by omega)) (by decide)
 rw[show R3.tw (E-1)-1=M-1 by rw[b];rfl] at c;rw[<- b];obtain⟨q,d⟩:=yx (M-1);rw[<- d] at c;have x:=vv d;have z:(q:Int)<=1023:=by omega
 have C:(E:Int)<=11:=by omega
 have D:2<=(E:Int):=by omega
 have G:(F:Int)<=52:=by omega
 have s:=vv k;have a:=vv l;have y:=vv f;clear f l h b d j r k;have t:g.cell? ⟨w.heap.size,0,qa⟩=qb (.int .i64 (E:Int)):=(a.o.get 0 rfl).cell 0;have u:g.cell? ⟨w.heap.size,1,qa⟩=qb (.int .i64 (F:Int)):=(a.o.get 0 rfl).cell 1;have v:=(a.o.get 0 rfl).lt;go_enter func215,ntmps215;go_wp2_with fail;rw[<- y.o];go_wp2_with fail;refine(i.o _).mono ?_;rintro e m ⟨rfl,n⟩;replace a:=vv (a.o.step n);clear t u v n;have H:m.cell? ⟨w.heap.size,0,qa⟩=qb (.int .i64 (E:Int)):=(a.o.get 0 rfl).cell 0;have I:m.cell? ⟨w.heap.size,1,qa⟩=qb (.int .i64 (F:Int)):=(a.o.get 0 rfl).cell 1;have J:=(a.o.get 0 rfl).lt;go_wp2_with fail;refine(c.o _).mono ?_;rintro e w' ⟨rfl,rfl⟩;go_wp2;go_ret3;refine⟨?_,a.o.low⟩;have d:=x.o;have h1:=s.o;show Ending.returned (.tuple #[.int .i64 (1-(q:Int)-(F:Int)),.int .i64 (q:Int),.int .i64 0])=_;rw[show 1-(q:Int)-(F:Int)=2-(M:Int)-F by omega,show(q:Int)=(M:Int)-1 by omega]
theorem qce(E F m:Nat)(w:qh)(h1:2<=E)(h2:E<=11)(h3:1<=F)(h4:F<=52)(hb:m<2^(E+F)):qi qd 126 #[fm E F,.int .u64 (m:Int)] w fun e w'=>e=.returned (.int .i64 (mgX E F m))/\qg w.heap.size w w':=by
 have hx:m/2^F<2^E:=k0s (by rw[<- k0h,k11];exact hb);have C:2^E<=2^11:=k04 (by decide) h2;have y:q0E E F m=m/2^F:=k0u hx;have s:m<2^(1+E+F):=k02 hb (k04 (by decide) (by omega));obtain⟨n,i⟩:=yx (w.alloc (.cells #[.int .i64 (E:Int),.int .i64 (F:Int)] 23));have c:Cx w [(w.heap.size,23,[.int .i64 (E:Int),.int .i64 (F:Int)])] n:=by rw[i];exact(Cx.nil w).new _ [_,_] rfl
 have f:=vv fun w=>q7Y E F m w h1 h2 h3 h4 s
 rw[y] at f;have t:=vv fun w=>qbX E F w h1 h2 h3 h4
 obtain⟨M,h⟩:=yx (2^(E-1));have D:M<=1024:=by rw[h];exact k06 (k04 (by decide) (show E-1<=10 by omega)) (by decide)
 obtain⟨x,j⟩:=yx (m/2^F);have z:mgX E F m=2-(M:Int)-F+max (x:Int) 1-1:=by unfold mgX Go.Proofs.YtabcgemembkkcaaGreatDoor.Exa.powOf;rw[<- j,<- h];split<;>omega
 rw[z];rw[<- h] at t;rw[<- j] at f;have P:(x:Int)<=2048:=by omega
 have Q:(M:Int)<=1024:=by omega
 have R:(F:Int)<=52:=by omega
 obtain⟨p,u⟩:=yx (q2x E F m);obtain⟨q,v⟩:=yx (q0W F m);rw[<- u,<- v] at f;have a:=vv c;have N:=vv i;clear i c hx C y s h D j z hb u v;have G:n.cell? ⟨w.heap.size,0,qa⟩=qb (.int .i64 (E:Int)):=(a.o.get 0 rfl).cell 0;have H:n.cell? ⟨w.heap.size,1,qa⟩=qb (.int .i64 (F:Int)):=(a.o.get 0 rfl).cell 1;have I:=(a.o.get 0 rfl).lt;go_enter func126,ntmps126;go_wp2_with fail;rw[<- N.o];go_wp2_with fail;refine(f.o _).mono ?_;rintro e d ⟨rfl,b⟩;replace a:=vv (a.o.step b);clear G H I b;have J:d.cell? ⟨w.heap.size,0,qa⟩=qb (.int .i64 (E:Int)):=(a.o.get 0 rfl).cell 0;have K:d.cell? ⟨w.heap.size,1,qa⟩=qb (.int .i64 (F:Int)):=(a.o.get 0 rfl).cell 1;have L:=(a.o.get 0 rfl).lt;go_wp2_with fail;obtain⟨k,l⟩:=yx (d.heap.size);obtain⟨O,g⟩:=yx (d.alloc (.cells #[.bool p,.int .i64 (x:Int),.int .u64 (q:Int)] 58));have b:qg d.heap.size d O:=by rw[g];exact(qf _ _).alloc lr _
 have c:=a.o.new 58 [.bool p,.int .i64 (x:Int),.int .u64 (q:Int)] l;rw[<- g] at c 
 try rw[<- g]
 try rw[<- l]
 replace a:=vv c;clear J K L g b c l;refine(t.o _).mono ?_;rintro e r ⟨rfl,b⟩;replace a:=vv (a.o.step b);clear b;have S:r.cell? ⟨k,0,qa⟩=qb (.bool p):=(a.o.get 0 rfl).cell 0;have T:r.cell? ⟨k,1,qa⟩=qb (.int .i64 (x:Int)):=(a.o.get 0 rfl).cell 1;have U:r.cell? ⟨k,2,qa⟩=qb (.int .u64 (q:Int)):=(a.o.get 0 rfl).cell 2;have V:=(a.o.get 0 rfl).lt;go_wp2;go_ret;exact⟨rfl,a.o.low⟩
structure One(w:qh)(g b:Nat):Prop where
 c:w.cell? ⟨g,0,qa⟩=qb (.int .u64 (b:Int))
 lt:g<w.heap.size
theorem One.below{b:Nat}(h:One w g b)(hb:qg w.heap.size w w'):One w' g b:=⟨(hb.cell (p:=⟨g,0,qa⟩) h.lt).trans h.c,k02 h.lt hb.size⟩
theorem q78(E F:Int)(b g:Nat)(w:qh)(ho:One w g b)(hb:b<18446744073709551616)(h:q09 E F b≠0):qi qd 56 #[fm E F,.slice (qb ⟨g,0,qa⟩) 1 1] w fun e w'=>e=.returned (.tuple #[.int .i64 (q09 E F b),.bool qc])/\qg w.heap.size w w':=by
 obtain⟨v,i⟩:=yx (w.alloc (.cells #[.int .i64 E,.int .i64 F] 23));have d:Cx w [(w.heap.size,23,[.int .i64 E,.int .i64 F])] v:=by rw[i];exact(Cx.nil w).new _ [_,_] rfl
 have f:=vv (ho.below d.low);have a:=vv d;have x:=vv i;have k:=vv fun w=>Fits E F b w hb
 obtain⟨q,l⟩:=yx (q09 E F b);rw[<- l] at k h ⊢;have z:(q==0)=qc:=k09.2 h;clear i d ho h l;go_enter func56,ntmps56;go_wp2_with fail;rw[<- x.o];go_wp2_with fail;go_loopw [15] (fun t wr=>t=.int .i64 0/\Cx w [(w.heap.size,23,[.int .i64 E,.int .i64 F])] wr/\One wr g b) (fun t _=>(1-intOf t).toNat)
 case atStart=>exact⟨rfl,a.o,f.o⟩
 case round =>obtain⟨y,d,m⟩:=hrel;replace a:=vv d;replace f:=vv m;clear d m;subst y;have n:wr.cell? ⟨w.heap.size,0,qa⟩=qb (.int .i64 E):=(a.o.get 0 rfl).cell 0;have p:wr.cell? ⟨w.heap.size,1,qa⟩=qb (.int .i64 F):=(a.o.get 0 rfl).cell 1;have r:=(a.o.get 0 rfl).lt;have s:=f.o.c;have u:=f.o.lt;go_wp2_with fail;refine(k.o _).mono ?_;rintro e C ⟨rfl,j⟩;replace a:=vv (a.o.step j);replace f:=vv (f.o.below j);clear n p r s u j;go_wp2;go_ret2;exact⟨rfl,a.o.low⟩
theorem q2G(E F:Int)(b g:Nat)(w:qh)(ho:One w g b)(h:q09 E F b=0)(c:Nat)(hc5:(c==5)=qk)(hc:c<=5)(hcl:∀w,qi qd 64 #[fm E F,.int .u64 (b:Int)] w fun e w'=>e=.returned (.tuple #[.int .u8 (c:Int),.int .i64 0])/\qg w.heap.size w w')(hb:b<18446744073709551616):qi qd 56 #[fm E F,.slice (qb ⟨g,0,qa⟩) 1 1] w fun e w'=>e=.returned (.tuple #[.int .i64 0,.bool qc])/\qg w.heap.size w w':=by
 obtain⟨v,k⟩:=yx (w.alloc (.cells #[.int .i64 E,.int .i64 F] 23));have f:Cx w [(w.heap.size,23,[.int .i64 E,.int .i64 F])] v:=by rw[k];exact(Cx.nil w).new _ [_,_] rfl
 have d:=vv (ho.below f.low);have a:=vv f;have x:=vv k;have s:=vv fun w=>Fits E F b w hb
 rw[h] at s;have u:=vv hcl;have z:((c:Int)==5)=qk:=by rw[<- hc5,k2B,k1S,k1S];omega
 clear k f ho h hcl hc5 hc;go_enter func56,ntmps56;go_wp2_with fail;rw[<- x.o];go_wp2_with fail;go_loopw [15] (fun t wr=>(t=.int .i64 0\/t=.int .i64 1)/\Cx w [(w.heap.size,23,[.int .i64 E,.int .i64 F])] wr/\One wr g b) (fun t _=>(1-intOf t).toNat)
 case atStart=>exact⟨.inl rfl,a.o,d.o⟩
 case round =>
  obtain⟨r,f,j⟩:=hrel;replace a:=vv f;replace d:=vv j;clear f j;rcases r with rfl|rfl
  focus
   have l:wr.cell? ⟨w.heap.size,0,qa⟩=qb (.int .i64 E):=(a.o.get 0 rfl).cell 0;have m:wr.cell? ⟨w.heap.size,1,qa⟩=qb (.int .i64 F):=(a.o.get 0 rfl).cell 1;have n:=(a.o.get 0 rfl).lt;have p:=d.o.c;have q:=d.o.lt;go_wp2_with fail;refine(s.o _).mono ?_;rintro e y ⟨rfl,i⟩;replace a:=vv (a.o.step i);replace d:=vv (d.o.below i);clear l m n p q i;go_wp2;go_roundw
   case measure=>simp [intOf]
   case rel=>exact⟨.inr rfl,a.o,d.o⟩
  focus
   go_wp2_with fail;go_loopw [28] (fun t wr=>t=.int .i64 0/\Cx w [(w.heap.size,23,[.int .i64 E,.int .i64 F])] wr/\One wr g b) (fun t _=>(1-intOf t).toNat)
   case atStart=>exact⟨rfl,a.o,d.o⟩
   case round =>obtain⟨r,f,j⟩:=hrel;replace a:=vv f;replace d:=vv j;clear f j;subst r;have l:wr.cell? ⟨w.heap.size,0,qa⟩=qb (.int .i64 E):=(a.o.get 0 rfl).cell 0;have m:wr.cell? ⟨w.heap.size,1,qa⟩=qb (.int .i64 F):=(a.o.get 0 rfl).cell 1;have n:=(a.o.get 0 rfl).lt;have p:=d.o.c;have q:=d.o.lt;go_wp2_with fail;refine(u.o _).mono ?_;rintro e y ⟨rfl,i⟩;replace a:=vv (a.o.step i);replace d:=vv (d.o.below i);clear l m n p q i;go_wp2;go_ret2;exact⟨rfl,a.o.low⟩
theorem q29(E F:Int)(b g:Nat)(w:qh)(ho:One w g b)(h:q09 E F b=0)(c:Nat)(hc5:(c==5)=qc)(hc:c<=5)(hcl:∀w,qi qd 64 #[fm E F,.int .u64 (b:Int)] w fun e w'=>e=.returned (.tuple #[.int .u8 (c:Int),.int .i64 0])/\qg w.heap.size w w')(hb:b<18446744073709551616):qi qd 56 #[fm E F,.slice (qb ⟨g,0,qa⟩) 1 1] w fun e w'=>e=.returned (.tuple #[.int .i64 0,.bool qk])/\qg w.heap.size w w':=by
 obtain⟨v,k⟩:=yx (w.alloc (.cells #[.int .i64 E,.int .i64 F] 23));have f:Cx w [(w.heap.size,23,[.int .i64 E,.int .i64 F])] v:=by rw[k];exact(Cx.nil w).new _ [_,_] rfl
 have d:=vv (ho.below f.low);have a:=vv f;have x:=vv k;have s:=vv fun w=>Fits E F b w hb
 rw[h] at s;have u:=vv hcl;have z:((c:Int)==5)=qc:=by rw[<- hc5,k2B,k1S,k1S];omega
 clear k f ho h hcl hc5 hc;go_enter func56,ntmps56;go_wp2_with fail;rw[<- x.o];go_wp2_with fail;go_loopw [15] (fun t wr=>(t=.int .i64 0\/t=.int .i64 1)/\Cx w [(w.heap.size,23,[.int .i64 E,.int .i64 F])] wr/\One wr g b) (fun t _=>(1-intOf t).toNat)
 case atStart=>exact⟨.inl rfl,a.o,d.o⟩
 case round =>
  obtain⟨r,f,j⟩:=hrel;replace a:=vv f;replace d:=vv j;clear f j;rcases r with rfl|rfl
  focus
   have l:wr.cell? ⟨w.heap.size,0,qa⟩=qb (.int .i64 E):=(a.o.get 0 rfl).cell 0;have m:wr.cell? ⟨w.heap.size,1,qa⟩=qb (.int .i64 F):=(a.o.get 0 rfl).cell 1;have n:=(a.o.get 0 rfl).lt;have p:=d.o.c;have q:=d.o.lt;go_wp2_with fail;refine(s.o _).mono ?_;rintro e y ⟨rfl,i⟩;replace a:=vv (a.o.step i);replace d:=vv (d.o.below i);clear l m n p q i;go_wp2;go_roundw
   case measure=>simp [intOf]
   case rel=>exact⟨.inr rfl,a.o,d.o⟩
  focus
   go_wp2_with fail;go_loopw [28] (fun t wr=>(t=.int .i64 0\/t=.int .i64 1)/\Cx w [(w.heap.size,23,[.int .i64 E,.int .i64 F])] wr/\One wr g b) (fun t _=>(1-intOf t).toNat)
   case atStart=>exact⟨.inl rfl,a.o,d.o⟩
   case round =>
    obtain⟨r,f,j⟩:=hrel;replace a:=vv f;replace d:=vv j;clear f j;rcases r with rfl|rfl
    focus
     have l:wr.cell? ⟨w.heap.size,0,qa⟩=qb (.int .i64 E):=(a.o.get 0 rfl).cell 0;have m:wr.cell? ⟨w.heap.size,1,qa⟩=qb (.int .i64 F):=(a.o.get 0 rfl).cell 1;have n:=(a.o.get 0 rfl).lt;have p:=d.o.c;have q:=d.o.lt;go_wp2_with fail;refine(u.o _).mono ?_;rintro e y ⟨rfl,i⟩;replace a:=vv (a.o.step i);replace d:=vv (d.o.below i);clear l m n p q i;go_wp2;go_roundw
     case measure=>simp [intOf]
     case rel=>exact⟨.inr rfl,a.o,d.o⟩
    focus
     go_wp2;go_ret2;exact⟨rfl,a.o.low⟩
theorem q6b(E F:Int)(b g:Nat)(w:qh)(ho:One w g b)(h:q09 E F b=0)(c:Nat)(hc3:qe (3<c)=qk)(hc:c<=5)(hcl:∀w,qi qd 64 #[fm E F,.int .u64 (b:Int)] w fun e w'=>e=.returned (.tuple #[.int .u8 (c:Int),.int .i64 0])/\qg w.heap.size w w')(hb:b<18446744073709551616):qi qd 57 #[fm E F,.slice (qb ⟨g,0,qa⟩) 1 1] w fun e w'=>e=.returned (.int .i64 8)/\qg w.heap.size w w':=by
 obtain⟨l,j⟩:=yx (w.alloc (.cells #[.int .i64 E,.int .i64 F] 23));have i:Cx w [(w.heap.size,23,[.int .i64 E,.int .i64 F])] l:=by rw[j];exact(Cx.nil w).new _ [_,_] rfl
 have d:=vv (ho.below i.low);have a:=vv i;have D:=vv j;have n:Hid (∀w,One w g b->qi qd 56 #[fm E F,.slice (qb ⟨g,0,qa⟩) 1 1] w fun e w'=>(∃is,e=.returned (.tuple #[.int .i64 0,.bool is]))/\qg w.heap.size w w'):=vv fun w k=>by
  cases h5:(c==5)
  ·exact(q29 E F b g w k h c h5 hc hcl hb).mono fun _ _ x=>⟨⟨_,x.1⟩,x.2⟩
  ·exact(q2G E F b g w k h c h5 hc hcl hb).mono fun _ _ x=>⟨⟨_,x.1⟩,x.2⟩
 have p:=vv hcl;have I:qe ((3:Int)<(c:Int))=qk:=by rw[<- hc3];exact k2w.2 (by omega)
 clear j i ho h hcl hc;have q:l.cell? ⟨w.heap.size,0,qa⟩=qb (.int .i64 E):=(a.o.get 0 rfl).cell 0;have r:l.cell? ⟨w.heap.size,1,qa⟩=qb (.int .i64 F):=(a.o.get 0 rfl).cell 1;have s:=(a.o.get 0 rfl).lt;go_enter func57,ntmps57;go_wp2_with fail;rw[<- D.o];go_wp2_with fail;refine(n.o _ d.o).mono ?_;rintro e J ⟨⟨is,rfl⟩,f⟩;replace a:=vv (a.o.step f);replace d:=vv (d.o.below f);clear q r s f;go_wp2_with fail;go_loopw [22] (fun t wr=>t=.int .i64 0/\Cx w [(w.heap.size,23,[.int .i64 E,.int .i64 F])] wr/\One wr g b) (fun t _=>(1-intOf t).toNat)
 case atStart=>exact⟨rfl,a.o,d.o⟩
 case round =>obtain⟨G,i,m⟩:=hrel;replace a:=vv i;replace d:=vv m;clear i m;subst G;have u:wr.cell? ⟨w.heap.size,0,qa⟩=qb (.int .i64 E):=(a.o.get 0 rfl).cell 0;have v:wr.cell? ⟨w.heap.size,1,qa⟩=qb (.int .i64 F):=(a.o.get 0 rfl).cell 1;have y:=(a.o.get 0 rfl).lt;have z:=d.o.c;have C:=d.o.lt;go_wp2_with fail;refine(p.o _).mono ?_;rintro e H ⟨rfl,f⟩;replace a:=vv (a.o.step f);replace d:=vv (d.o.below f);clear u v y z C f;go_wp2;go_ret;exact⟨rfl,a.o.low⟩
theorem q7y(E F:Int)(b g:Nat)(w:qh)(ho:One w g b)(h:q09 E F b=0)(c:Nat)(hc3:qe (3<c)=qc)(hc:c<=5)(hcl:∀w,qi qd 64 #[fm E F,.int .u64 (b:Int)] w fun e w'=>e=.returned (.tuple #[.int .u8 (c:Int),.int .i64 0])/\qg w.heap.size w w')(hb:b<18446744073709551616):qi qd 57 #[fm E F,.slice (qb ⟨g,0,qa⟩) 1 1] w fun e w'=>e=.returned (.int .i64 0)/\qg w.heap.size w w':=by
 obtain⟨l,j⟩:=yx (w.alloc (.cells #[.int .i64 E,.int .i64 F] 23));have i:Cx w [(w.heap.size,23,[.int .i64 E,.int .i64 F])] l:=by rw[j];exact(Cx.nil w).new _ [_,_] rfl
 have d:=vv (ho.below i.low);have a:=vv i;have D:=vv j;have n:Hid (∀w,One w g b->qi qd 56 #[fm E F,.slice (qb ⟨g,0,qa⟩) 1 1] w fun e w'=>(∃is,e=.returned (.tuple #[.int .i64 0,.bool is]))/\qg w.heap.size w w'):=vv fun w k=>by
  cases h5:(c==5)
  ·exact(q29 E F b g w k h c h5 hc hcl hb).mono fun _ _ x=>⟨⟨_,x.1⟩,x.2⟩
  ·exact(q2G E F b g w k h c h5 hc hcl hb).mono fun _ _ x=>⟨⟨_,x.1⟩,x.2⟩
 have p:=vv hcl;have I:qe ((3:Int)<(c:Int))=qc:=by rw[<- hc3];exact k2w.2 (by omega)
 clear j i ho h hcl hc;have q:l.cell? ⟨w.heap.size,0,qa⟩=qb (.int .i64 E):=(a.o.get 0 rfl).cell 0;have r:l.cell? ⟨w.heap.size,1,qa⟩=qb (.int .i64 F):=(a.o.get 0 rfl).cell 1;have s:=(a.o.get 0 rfl).lt;go_enter func57,ntmps57;go_wp2_with fail;rw[<- D.o];go_wp2_with fail;refine(n.o _ d.o).mono ?_;rintro e J ⟨⟨is,rfl⟩,f⟩;replace a:=vv (a.o.step f);replace d:=vv (d.o.below f);clear q r s f;go_wp2_with fail;go_loopw [22] (fun t wr=>(t=.int .i64 0\/t=.int .i64 1)/\Cx w [(w.heap.size,23,[.int .i64 E,.int .i64 F])] wr/\One wr g b) (fun t _=>(1-intOf t).toNat)
 case atStart=>exact⟨.inl rfl,a.o,d.o⟩
 case round =>
  obtain⟨G,i,m⟩:=hrel;replace a:=vv i;replace d:=vv m;clear i m;rcases G with rfl|rfl
  focus
   have u:wr.cell? ⟨w.heap.size,0,qa⟩=qb (.int .i64 E):=(a.o.get 0 rfl).cell 0;have v:wr.cell? ⟨w.heap.size,1,qa⟩=qb (.int .i64 F):=(a.o.get 0 rfl).cell 1;have y:=(a.o.get 0 rfl).lt;have z:=d.o.c;have C:=d.o.lt;go_wp2_with fail;refine(p.o _).mono ?_;rintro e H ⟨rfl,f⟩;replace a:=vv (a.o.step f);replace d:=vv (d.o.below f);clear u v y z C f;go_wp2;go_roundw
   case measure=>simp [intOf]
   case rel=>exact⟨.inr rfl,a.o,d.o⟩
  focus
   go_wp2;go_ret;exact⟨rfl,a.o.low⟩
end Nea
end Go.Proofs.YtabcgemembkkcaaGreatDoor
