/- Lemmas. -/
import Derived.Test.YtabcgemembkkcaaGreatDoorDigsBM
set_option linter.all false
set_option maxHeartbeats 4000000
set_option maxRecDepth 100000
open Go.Proofs.Tryz
open Go renaming World.grownBy.refl->qa,World->qc,World.cell?_of_block->qf,RowKit.Below.refl->qg,IntWalk.i64_in->qk,bodyPost_ret->ql,Calls->qm,Addr->qn,World.size_alloc->qp
open Option renaming none->qb,some->qi
open Decidable renaming decide->qd
open Go.Proofs.Tryz renaming prog->qe
open Go.RowKit renaming Below->qh,Hid->qo
open Bool renaming false->qj
namespace Go.Proofs.YtabcgemembkkcaaGreatDoor
variable{N n c g X E F b:Nat}{w w':qc}
namespace Rtp
open Go Go.RowKit R5 Scn
def qcZ(p:Int)(D:Nat)(w:qc)(e:Ending)(w':qc):Prop:=
 ∃X n Y m,e=.returned (.tuple #[q0m (qd (p<0)) X n n Y m m,.int .i64 0])/\Rd w' X n n (toL (lp p D).natAbs)/\Rd w' Y m m (toL (ld p D))/\qh w.heap.size w w'
theorem wds_bl{A:Option qn}(h:Rd w A n c (toL N))(hn:n<=16384):bl N<=524288:=by have a:=q0p N;rw[h.words,q1u] at a;have:=q0A a;omega
theorem q2M(p:Int)(D:Nat):(lp p D).natAbs<=p.natAbs:=by rw[q3q];exact k0q _ _
theorem q33(p:Int)(D:Nat)(h:0<D):ld p D<=D:=by exact k0q _ _
def MkI(w:qc)(X:Option qn)(n c:Nat)(Y:Option qn)(m d:Nat)(i:Value)(wr:qc):Prop:=
 ∃k:Nat,k<=2/\i=.int .i64 (k:Int)/\Ctx w [(w.heap.size+3,37,[.slice X n c,.slice Y m d]),(w.heap.size+2,39,[.bool qj,.slice qb 0 0,.slice qb 0 0]),(w.heap.size+1,37,[.slice Y m d]),(w.heap.size,37,[.slice X n c])] wr
theorem qdg(neg:Bool)(X:Option qn)(n c:Nat)(Y:Option qn)(m d N D:Nat)(w:qc)(hX:Rd w X n c (toL N))(hY:Rd w Y m d (toL D))(hn:n<=16384)(hm:m<=16384)(hD:0<D)(hst:Std w):qm qe 53 #[.bool neg,q0x X n c,q0x Y m d] w (qcZ (sg neg N) D w):=by
 have c3:=wds_bl hX hn;have c4:=wds_bl hY hm;have c5:0<m:=by
  rcases k01 m with h|h
  ·subst h;have:=hY.lt;rw[q04,k0B] at this;omega
  ·exact h
 have c6:qo (∀wr,Rd wr X n c (toL N)->qm qe 118 #[q0x X n c] wr fun e w'=>e=.returned (.int .i64 0)/\qh wr.heap.size wr w'):=vv fun wr h=>Pnt.Check_ok h hn
 have a4:qo (∀wr,Rd wr Y m d (toL D)->qm qe 118 #[q0x Y m d] wr fun e w'=>e=.returned (.int .i64 0)/\qh wr.heap.size wr w'):=vv fun wr h=>Pnt.Check_ok h hm
 have c7:=vv fun wr (h:Rd wr X n c (toL N))=>q3G X n c N wr h (by omega)
 have c8:=vv fun wr (h:Rd wr Y m d (toL D))=>q3G Y m d D wr h (by omega)
 have c9:=vv fun g wr (h:IntAt wr g 0 (N:Int))=>A.Neg g 0 g 0 (N:Int) (N:Int) wr h h
 have d0:=vv fun g gx gy u wr (h:RatSh wr g) (hx:IntAt wr gx 0 u) (hy:IntAt wr gy 0 (D:Int)) (hu:u.natAbs=N) (hs:Std wr)=>A.SetFrac g gx gy u D wr h hx hy hD hs (by rw[hu];unfold Sz;omega) (by unfold Sz;omega)
 obtain⟨p,j⟩:=yx (sg neg N);have Q:p.natAbs=N:=by rw[j];exact q0Z _ _
 have d1:=vv fun g wr (h:RatAt wr g p D)=>qbT g p D wr h (by have:=q1k (q2M p D);rw[Q] at this;omega) (by have:=q1k (q33 p D hD);omega)
 rw[<- j];have HP:=vv j;have d2:=vv Q;have HX:=vv hX;have HY:=vv hY;have d3:=vv hst;obtain⟨w3,R⟩:=yx ((((w.alloc (.cells #[.slice X n c] 37)).alloc (.cells #[.slice Y m d] 37)).alloc (.cells #[.bool qj,.slice qb 0 0,.slice qb 0 0] 39)).alloc (.cells #[.slice X n c,.slice Y m d] 37));have l:Ctx w [(w.heap.size+3,37,[.slice X n c,.slice Y m d]),(w.heap.size+2,39,[.bool qj,.slice qb 0 0,.slice qb 0 0]),(w.heap.size+1,37,[.slice Y m d]),(w.heap.size,37,[.slice X n c])] w3:=by rw[R];exact((((Ctx.nil w).new _ _ rfl).new _ _ (by simp)).new _ _ (by simp)).new _ _ (by simp)
 have HW:=vv R;have b:=vv l;have e1:(n:Int)<=16384:=by omega
 have e2:(m:Int)<=16384:=by omega
 have tm:((m:Int)==0)=qj:=by rw[k05];omega
 clear R l hX hY hn hm hD hst c3 c4 c5 j Q;go_enter func53,ntmps53;go_wp2;rw[<- HW.o];go_loopw [16] (fun i wr=>MkI w X n c Y m d i wr) (fun i _=>2-(intOf i).toNat)
 case atStart=>exact⟨0,by omega,rfl,b.o⟩
 case round =>
  obtain⟨k,hk,rfl,l⟩:=hrel;have b:=vv l;have J:=l.get 0 rfl |>.cell 0;have L:=l.get 0 rfl |>.cell 1;have al:=l.get 0 rfl |>.lt;simp only[k06,k0l] at J L;clear l;rcases(by omega:k=0\/k=1\/k=2) with rfl|rfl|rfl
  ·go_wp2_with fail;refine(c6.o _ ?_).mono ?_
   ·exact(HX.o.below b.o.low rfl).below ((qg _ _).alloc lr _) rfl
   rintro e w1 ⟨rfl,a⟩;have S:=vv (b.o.step (((qg _ _).alloc lr _).trans (a.mono (by simp))));clear a J L al;go_wp2;go_roundw
   case rel=>exact⟨1,by omega,by go_num,S.o⟩
   case measure=>simp [intOf]
  ·go_wp2_with fail;refine(a4.o _ ?_).mono ?_
   ·exact(HY.o.below b.o.low rfl).below ((qg _ _).alloc lr _) rfl
   rintro e w1 ⟨rfl,a⟩;have S:=vv (b.o.step (((qg _ _).alloc lr _).trans (a.mono (by simp))));clear a J L al;go_wp2;go_roundw
   case rel=>exact⟨2,by omega,by go_num,S.o⟩
   case measure=>simp [intOf]
  ·have r:=b.o.get 2 rfl |>.cell 0;have bl:=b.o.get 2 rfl |>.lt;have n0:=b.o.get 3 rfl |>.cell 0;have nl:=b.o.get 3 rfl |>.lt;simp only[k06] at r n0;go_wp2_with fail;refine(c7.o _ (HX.o.below b.o.low rfl)).mono ?_;rintro e w4 ⟨q,rfl,d4,a8,a⟩;have E:=vv a8;have a9:qo (w.heap.size+3<q):=vv (by have:=b.o.get 0 rfl |>.lt;omega);have F:=vv (b.o.step a);clear a8 d4 a J L al r bl n0 nl;have nw:∀x∈([(w.heap.size+3,37,[.slice X n c,.slice Y m d]),(w.heap.size+2,39,[.bool qj,.slice qb 0 0,.slice qb 0 0]),(w.heap.size+1,37,[.slice Y m d]),(w.heap.size,37,[.slice X n c])]:List q30),x.1<q:=by have:=a9.o;intro x hx;simp only[k0R,k0X,k2c] at hx;rcases hx with rfl|rfl|rfl|rfl<;>show _<q<;>simp only<;>omega
   have b1:=vv nw;clear nw;cases neg;obtain⟨s,rfl⟩:=yx (w4);have G:qo (IntAt s q 0 p):=vv (by rw[HP.o];exact E.o);have f:=F;have r:=f.o.get 2 rfl |>.cell 0;have bl:=f.o.get 2 rfl |>.lt;simp only[k06] at r;clear E F;go_wp2_with fail;rotate_left;go_wp2_with fail;refine(c9.o q _ E.o).mono ?_;rintro e s ⟨rfl,hI,y⟩;have G:qo (IntAt s q 0 p):=vv (by rw[HP.o];exact hI);have f:=vv (F.o.write y.grown (by have:=a9.o;omega) (fun x hx=>Nat.ne_of_lt (b1.o x hx)));have r:=f.o.get 2 rfl |>.cell 0;have bl:=f.o.get 2 rfl |>.lt;simp only[k06] at r;clear E F hI y;go_wp2_with fail;rotate_left;all_goals
    obtain⟨t,T⟩:=yx (s.heap.size);rw[<- T];obtain⟨w6,H⟩:=yx (s.alloc (.cells #[.bool qj,.slice qb 0 0,.slice qb 0 0] 175));have U:qh s.heap.size s w6:=by rw[H];exact(qg _ _).alloc lr _
    have b2:qo (RatAt w6 t 0 1):=vv (by rw[H,T];exact RatAt.zero _ _);have d5:qo (w.heap.size+3<t):=vv (by have:=f.o.get 0 rfl |>.lt;omega);have d6:qo (q<t):=vv (by have:=G.o.lt;omega);have V:=vv (f.o.step U);have b3:=vv (G.o.below U);rw[<- H];clear T H U r bl f G;refine(c8.o _ (HY.o.below V.o.low rfl)).mono ?_;rintro e w7 ⟨g7,rfl,d7,b4,a⟩;have b5:=vv b4;have b6:=vv (b2.o.below a);have W:=vv (V.o.step a);have b7:=vv (b3.o.below a);clear b4 d7 a V b3 b2;go_wp2_with fail;refine(d0.o t q g7 _ _ b6.o.sh b7.o b5.o d2.o (W.o.std d3.o)).mono ?_;rintro e w8 ⟨rfl,hR,y⟩;have b8:=vv hR;have b9:=vv (W.o.fs y (by intro p j;rw[k09.1 j];have:=d5.o;show _<=t;omega) (by intro x hx p j;rw[k09.1 j];have:=b1.o x hx;have:=d6.o;show t≠_;omega));clear hR y W b6 b7 b5;go_wp2_with fail;refine(d1.o _ _ b8.o).mono ?_;rintro e w9 ⟨X',z,Y',C,rfl,c0,c1,a⟩;have Z:=vv (b9.o.step a);have d8:=vv c0;have d9:=vv c1;clear a c0 c1 b9 b8;have a3:=vv (Z.o.get 1 rfl);obtain⟨c2,a2⟩:=yx (qd (p<0));rw[<- a2];have e0:=vv a2;clear a2;go_wp2_with (with_reducible refine q00 rfl 39 (.tmp 6) (.tmp 44) rfl (w.heap.size+1+1) [.bool c2,.slice X' z z,.slice Y' C C] rfl rfl 39 _ a3.o (by kernel_rfl) rfl rfl ?_);intro e3 a I;have a5:=vv (q0a Z.o.low I Z.o.low.size (by omega));have a6:=vv (d8.o.else_ a3.o rfl I);have a7:=vv (d9.o.else_ a3.o rfl I);obtain⟨M,O,P⟩:=Fms.blk3 a;have K:=vv (And.intro M (And.intro O P));clear a I M O P;go_wp2;obtain⟨M,O,P⟩:=K.o;exact ql (v:=.tuple #[q0m c2 X' z z Y' C C,.int .i64 0]) (by simp [results,results53,go_sem,M,O,P]) rfl ⟨X',z,Y',C,by rw[<- e0.o],a6.o,a7.o,a5.o⟩
theorem qaE(b:Bool)(N M:Nat):sg b N*(M:Int)=sg b (N*M):=by
 cases b
 ·exact(k0f N M).symm
 ·show -(N:Int)*(M:Int) = -((N*M:Nat):Int);rw[k0f,k1e]
theorem q7m(k:Nat):t10 (k:Int)=10^k:=rfl
theorem q3Q{n:Int}(h:n<=0):t10 n=1:=by unfold t10;rw[show n.toNat=0 by omega]
theorem q50(N y:Nat):bl (N*10^y)<=bl N+4*y:=q0A (by rw[k0e,k1r];refine k03 (k0L (q0O N) (k1g (by decide))) (k0m _ (k1j (by decide) _)))
theorem q3f(g gx gy y:Nat)(w:qc)(h:IntAt w g 0 0)(hx:IntAt w gx 0 10)(hy:IntAt w gy 0 (y:Int))(h0:0<y)(hb:y<=20000):qm qe 92 #[.pointer (qi ⟨g,0,qb⟩),.pointer (qi ⟨gx,0,qb⟩),.pointer (qi ⟨gy,0,qb⟩),.pointer qb] w (q75 g 0 ((10^y:Nat):Int) w):=A.Exp g 0 gx 0 gy 0 0 10 y w h hx hy (by decide) h0 (by have:=q50 1 y;rw[k0S,show bl 1=1 from rfl] at this;unfold Sz;omega) (by unfold Sz;have:bl y<=y:=q0A k2m;omega)
theorem qbv(neg:Bool)(X:Option qn)(n c:Nat)(Y:Option qn)(m d N D:Nat)(k:Int)(w:qc)(hX:Rd w X n c (toL N))(hY:Rd w Y m d (toL D))(hn:n<=16384)(hm:m<=16384)(hD:0<D)(hg:Nat.gcd N D=1)(hN:0<N)
  (hk1:-20000<=k) (hk2:k<=20000) (hbN:bl N<=400000) (hbD:bl D<=400000) (hst:Std w) :
  qm qe 141 #[q0m neg X n c Y m d,.int .u32 10,.int .i64 k] w (qcZ (sg neg (N*t10 k)) (D*t10 (-k)) w):=by
 obtain⟨w0,b7⟩:=yx ((w.alloc (.cells #[.bool neg,.slice X n c,.slice Y m d] 39)).alloc (.cells #[.bool qj,.slice qb 0 0,.slice qb 0 0] 39));have y:Ctx w [(w.heap.size+1,39,[.bool qj,.slice qb 0 0,.slice qb 0 0]),(w.heap.size,39,[.bool neg,.slice X n c,.slice Y m d])] w0:=by rw[b7];exact((Ctx.nil w).new _ _ rfl).new _ _ (by simp)
 have c3:=vv (qay neg X n c Y m d N D w0 (y.rd hX) (y.rd hY) hn hm hD hg (fun _=>hN) (y.std hst));have f9:=vv fun w=>(Tryz.bits_Len32 10 w (by omega) (by omega))
 have c4:=vv fun g p D' wr (h:RatAt wr g p D') (h1:bl p.natAbs<=524288) (h2:bl D'<=524288)=>qbT g p D' wr h (k07 (q1k (q2M p D')) h1) (k07 (q1k (k0q _ _)) h2)
 have g0:=vv hst;obtain⟨p,b⟩:=yx (sg neg N);have g1:(p.sign==0)=qj:=by
  rw[k05];have:p≠0:=by rw[b];cases neg<;>simp [sg]<;>omega
  intro e;exact this (Int.sign_eq_zero_iff_zero.1 e)
 have c5:p.natAbs=N:=by rw[b];exact q0Z _ _
 rw[<- b] at c3;obtain⟨s,hs⟩:=yx (p.sign);rw[<- hs] at g1;have HS:=vv hs;have HP:=vv b;have b0:=vv c5;have b1:=vv hbN;have b2:=vv hbD;have HC:=vv y;have HW:=vv b7;have f0:=y.get 1 rfl |>.cell 0;have f1:=y.get 1 rfl |>.cell 1;have f2:=y.get 1 rfl |>.cell 2;have fl:=y.get 1 rfl |>.lt;simp only[k06,k0l] at f0 f1 f2;clear b7 y hX hY hn hm hD hg hN hbN hbD hst hs b c5;go_enter func141,ntmps141;go_wp2_with fail;rw[<- HW.o];go_wp2_with fail;refine c3.o.mono ?_;rintro e w1 ⟨g,rfl,hg,hR,a⟩;have P:=vv hR;have b8:=vv (HC.o.step a);have F:qo (w.heap.size+1<g):=vv (by have:=HC.o.get 0 rfl |>.lt;omega);clear hg hR a f0 f1 f2 fl HC;by_cases hk0:k=0
 ·subst hk0;go_wp2_with fail;refine(c4.o _ _ _ _ P.o (by rw[b0.o];have:=b1.o;omega) (by have:=b2.o;omega)).mono ?_;rintro e w9 ⟨J,l,L,q,rfl,Q,R,a⟩;have G:=vv (b8.o.step a);have b9:=vv Q;have c0:=vv R;clear a Q R;have H:=vv (G.o.get 0 rfl);obtain⟨S,I⟩:=yx (qd (p<0));rw[<- I];have c1:=vv I;clear I;go_wp2_with (with_reducible refine q00 rfl 39 (.tmp 6) (.tmp 39) rfl (w.heap.size+1) [.bool S,.slice J l l,.slice L q q] rfl rfl 39 _ H.o (by kernel_rfl) rfl rfl ?_);intro g2 a t;have a0:=vv (q0a G.o.low t G.o.low.size (by omega));have a1:=vv (b9.o.else_ H.o rfl t);have a2:=vv (c0.o.else_ H.o rfl t);obtain⟨z,C,E⟩:=Fms.blk3 a;have K:=vv (And.intro z (And.intro C E));clear a t z C E;go_wp2;obtain⟨z,C,E⟩:=K.o;have e1:sg neg (N*t10 0)=p:=by rw[HP.o,show t10 0=1 from rfl,k0G]
  have e2:D*t10 (-0)=D:=by rw[show t10 (-0)=1 from rfl,k0G]
  exact ql (v:=.tuple #[q0m S J l l L q q,.int .i64 0]) (by simp [results,results141,go_sem,z,C,E]) rfl (by rw[e1,e2];exact⟨J,l,L,q,by rw[<- c1.o],a1.o,a2.o,a0.o⟩)
 ·have t0:(k==0)=qj:=by rw[k05];exact hk0
  obtain⟨j,hj⟩:=yx (k.natAbs);have c6:0<j:=by omega
  have c7:j<=20000:=by omega
  have i1:(j:Int)<=20000:=by omega
  have c8:max k (-k)=(j:Int):=by omega
  have HJ:=vv hj;have g5:=vv c6;have T:=vv c7;have g6:=vv c8;clear hj c6 c7 hk0 c8;go_wp2_with fail;refine(A.RSign g _ _ _ P.o).mono ?_;rintro e w' ⟨rfl,rfl⟩;rw[<- HS.o];go_wp2_with fail;refine(f9.o _).mono ?_;rintro e O ⟨rfl,hw⟩;subst hw;rw[show Lib.bitLen (10:Int).toNat=4 from by kernel_rfl];go_wp2_with fail;obtain⟨f,U⟩:=yx (O.heap.size);rw[<- U];obtain⟨w2,V⟩:=yx ((O.alloc (.cells #[.bool qj,.slice qb 0 0,.slice qb 0 0] 175)).alloc (.cells #[.bool qj,.slice qb 0 0] 142));have c2:qh O.heap.size O w2:=by rw[V];exact((qg _ _).alloc lr _).alloc (by simp) _
  have c9:qo (RatAt w2 f 0 1):=vv (by rw[V,U];exact(RatAt.zero O _).below ((qg _ _).alloc lr _));have d0:qo (IntAt w2 (f+1) 0 0):=vv (by
   rw[V,U];have:=IntAt.zero (O.alloc (.cells #[.bool qj,.slice qb 0 0,.slice qb 0 0] 175)) 142
   rwa [qp] at this)
  have u:qo (g<f):=vv (by rw[U];exact P.o.lt);have d1:=vv (b8.o.step c2);have d2:=vv (P.o.below c2);rw[<- V];clear U V c2 P b8;refine(A.NewInt 10 w2 (by omega) (by omega)).mono ?_;rintro e w3 ⟨g3,rfl,g7,d3,a⟩;have d4:=vv d3;have d5:=vv (c9.o.below a);have d6:=vv (d0.o.below a);have d7:=vv (d1.o.step a);have d8:=vv (d2.o.below a);clear g7 d3 a c9 d0 d1 d2;go_wp2_with fail;rw[g6.o];refine(A.NewInt (j:Int) w3 (by omega) (by omega)).mono ?_;rintro e w4 ⟨g4,rfl,g8,d9,a⟩;have e0:=vv d9;have e3:=vv (d4.o.below a);have e4:=vv (d5.o.below a);have e5:=vv (d6.o.below a);have e6:=vv (d7.o.step a);have e7:=vv (d8.o.below a);clear g8 d9 a d4 d5 d6 d7 d8;go_wp2_with fail;refine(q3f (f+1) g3 g4 j w4 e5.o e3.o e0.o g5.o T.o).mono ?_;rintro e w5 r;have i:=r.2.2;have e8:=vv (e4.o.fs1 i (by omega));have e9:=vv (e7.o.fs1 i (by have:=u.o;omega));have f3:=vv (e6.o.fs i (by intro p b;rw[k09.1 b];have:=u.o;have:=F.o;show _<=f+1;omega) (by intro x hx p b;rw[k09.1 b];have:=u.o;have:=F.o;simp only[k0R,k0X,k2c] at hx;rcases hx with rfl|rfl<;>show f+1≠_<;>omega));obtain⟨rfl,f4,-⟩:=r;have f5:=vv f4;clear i f4 e5 e3 e0 e4 e6 e7;go_wp2_with fail;refine(A.SetInt f (f+1) _ w5 e8.o.sh f5.o).mono ?_;rintro e w6 r;have i:=r.2.2;have b3:=vv (e9.o.fs1 i (by have:=u.o;omega));have b4:=vv (f3.o.fs i (by intro p b;rw[k09.1 b];have:=u.o;have:=F.o;show _<=f;omega) (by intro x hx p b;rw[k09.1 b];have:=u.o;have:=F.o;simp only[k0R,k0X,k2c] at hx;rcases hx with rfl|rfl<;>show f≠_<;>omega));obtain⟨rfl,f6,-⟩:=r;have W:=vv f6;clear i f6 e8 f5 f3 e9;by_cases hlt:k<0;have Z:t10 k=1:=q3Q (by omega);have a3:t10 (-k)=10^j:=by rw[show -k=(j:Int) by have:=HJ.o;omega,q7m]
  have a4:=vv (And.intro Z a3);clear Z a3;go_wp2_with fail;refine(A.Inv f f (10^j) 1 w6 W.o.sh W.o (k1g (by decide))).mono ?_;rintro e w7 r;have i:=r.2.2;have b5:=vv (b3.o.fs1 i (by have:=u.o;omega));have b6:=vv (b4.o.fs i (by intro p b;rw[k09.1 b];have:=u.o;have:=F.o;show _<=f;omega) (by intro x hx p b;rw[k09.1 b];have:=u.o;have:=F.o;simp only[k0R,k0X,k2c] at hx;rcases hx with rfl|rfl<;>show f≠_<;>omega));obtain⟨rfl,f7,-⟩:=r;have a5:qo (RatAt w7 f ((1:Nat):Int) (10^j)):=vv f7;clear i f7 b3 b4 W;have a6:qo (bl ((1:Nat):Int).natAbs<=90000/\bl (10^j)<=90000):=vv ⟨by decide,by have:=q50 1 j;rw[k0S,show bl 1=1 from rfl] at this;have:=T.o;omega⟩;have HE:qo (sg neg (N*t10 k)=p*((1:Nat):Int)/\D*t10 (-k)=D*10^j):=vv ⟨by rw[a4.o.1,HP.o,k0G];omega,by rw[a4.o.2]⟩;have a7:qo (bl (p*((1:Nat):Int)).natAbs<=524288/\bl (D*10^j)<=524288):=vv ⟨by rw[Int.natCast_one,k3c,b0.o];have:=b1.o;omega,by have:=q50 D j;have:=b2.o;have:=T.o;omega⟩;obtain⟨M,a8⟩:∃M:Int,M=((1:Nat):Int):=⟨_,rfl⟩;obtain⟨Dn,a9⟩:=yx (10^j);rw[<- a8,<- a9] at HE a7 a5 a6;clear a8 a9;go_wp2_with fail;rotate_left;have Z:t10 k=10^j:=by rw[show k=(j:Int) by have:=HJ.o;omega,q7m]
  have a3:t10 (-k)=1:=q3Q (by omega);have a4:=vv (And.intro Z a3);clear Z a3;obtain⟨w7,rfl⟩:=yx (w6);have b5:=b3;have b6:=b4;have a5:qo (RatAt w7 f ((10^j:Nat):Int) 1):=W;clear b3 b4 W;have a6:qo (bl ((10^j:Nat):Int).natAbs<=90000/\bl 1<=90000):=vv ⟨by rw[k08];have:=q50 1 j;rw[k0S,show bl 1=1 from rfl] at this;have:=T.o;omega,by decide⟩;have HE:qo (sg neg (N*t10 k)=p*((10^j:Nat):Int)/\D*t10 (-k)=D*1):=vv ⟨by rw[a4.o.1,HP.o,qaE],by rw[a4.o.2]⟩;have a7:qo (bl (p*((10^j:Nat):Int)).natAbs<=524288/\bl (D*1)<=524288):=vv ⟨by rw[k1c,k08,b0.o];have:=q50 N j;have:=b1.o;have:=T.o;omega,by rw[k0G];have:=b2.o;omega⟩;obtain⟨M,a8⟩:∃M:Int,M=((10^j:Nat):Int):=⟨_,rfl⟩;obtain⟨Dn,a9⟩:∃Dn:Nat,Dn=1:=⟨_,rfl⟩;rw[<- a8,<- a9] at HE a7 a5 a6;clear a8 a9;go_wp2_with fail;rotate_left;all_goals
   refine(A.MulR g g f p M D Dn w7 b5.o.sh b5.o a5.o (b6.o.std g0.o) (by unfold Sz;rw[b0.o];have:=b1.o;omega) (by unfold Sz;have:=b2.o;omega) (by unfold Sz;have:=a6.o.1;omega) (by unfold Sz;have:=a6.o.2;omega)).mono ?_;rintro e w8 r;have i:=r.2.2;have g9:=vv (b6.o.fs i (by intro p b;rw[k09.1 b];have:=F.o;show _<=g;omega) (by intro x hx p b;rw[k09.1 b];have:=F.o;simp only[k0R,k0X,k2c] at hx;rcases hx with rfl|rfl<;>show g≠_<;>omega));obtain⟨rfl,f8,-⟩:=r;have i0:=vv f8;clear i f8 b6 b5 a5;go_wp2_with fail;refine(c4.o _ _ _ _ i0.o a7.o.1 a7.o.2).mono ?_;rintro e w9 ⟨J,l,L,q,rfl,Q,R,a⟩;have G:=vv (g9.o.step a);have b9:=vv Q;have c0:=vv R;clear a Q R;have H:=vv (G.o.get 0 rfl);obtain⟨S,I⟩:=yx (qd (p*M<0));rw[<- I];have c1:=vv I;clear I;go_wp2_with (with_reducible refine q00 rfl 39 (.tmp 6) (.tmp 86) rfl (w.heap.size+1) [.bool S,.slice J l l,.slice L q q] rfl rfl 39 _ H.o (by kernel_rfl) rfl rfl ?_);intro g2 a t;have a0:=vv (q0a G.o.low t G.o.low.size (by omega));have a1:=vv (b9.o.else_ H.o rfl t);have a2:=vv (c0.o.else_ H.o rfl t);obtain⟨z,C,E⟩:=Fms.blk3 a;have K:=vv (And.intro z (And.intro C E));clear a t z C E;go_wp2;obtain⟨z,C,E⟩:=K.o;exact ql (v:=.tuple #[q0m S J l l L q q,.int .i64 0]) (by simp [results,results141,go_sem,z,C,E]) rfl (by rw[HE.o.1,HE.o.2];exact⟨J,l,L,q,by rw[<- c1.o],a1.o,a2.o,a0.o⟩)
end Rtp
namespace A
open AB
open Go Go.RowKit Scn
def qfg(w:qc)(R:Nat)(i:Value)(wr:qc):Prop:=
 ∃k:Nat,k<=1/\i=.int .i64 (k:Int)/\Own wr w.heap.size 54 [if k=0 then 0 else R]/\qh w.heap.size w wr
end A
namespace A
open AB
open Go Go.RowKit Scn
def qeL(g o:Nat)(u:Int)(B:Nat)(w:qc)(e:Ending)(w':qc):Prop:=
 q0B g o u w e w'/\∃A n c,w'.cell? ⟨g,o+1,qb⟩=qi (.slice A n c)/\Fr B A
def qe8(g o:Nat)(u:Int)(w:qc)(e:Ending)(w':qc):Prop:=qeL g o u w.heap.size w e w'
end A
namespace Rnd
open Go Go.RowKit R5 Scn
theorem Rd.row{A:Option qn}{xs:List Nat}{row:Option Nat}(h:Rd w A n c xs)(hg:w.grownBy w' row)(hne:∀a,A=qi a->row≠qi a.block):Rd w' A n c xs:=⟨h.len,h.le,h.sm,h.lim,fun hn=>by obtain⟨b,off,e,hlt,hc⟩:=h.cell hn;exact⟨b,off,e,k03 hlt hg.size,fun j hj=>(qf (a:=⟨b,off+j,qb⟩) (hg.block b hlt (fun k=>hne _ e k.symm))).trans (hc j hj)⟩⟩
def q4x(wr:qc)(g:Nat)(X:Nat)(row:Option Nat):Prop:=IntAt wr g 0 (X:Int)/\∃A n c,wr.cell? ⟨g,0+1,qb⟩=qi (.slice A n c)/\∀a,A=qi a->row≠qi a.block
theorem q4x.below{row:Option Nat}(h:q4x w g X row)(hb:qh w.heap.size w w'):q4x w' g X row:=by obtain⟨a,A,n,c,b,d⟩:=h;exact⟨a.below hb,A,n,c,(hb.cell (p:=⟨g,0+1,qb⟩) a.lt).trans b,d⟩
theorem q4x.grown{row:Option Nat}(h:q4x w g X row)(hg:w.grownBy w' row)(hne:row≠qi g):IntAt w' g 0 (X:Int):=by obtain⟨b,A,n,c,e,i⟩:=h;obtain⟨p,q,r,l,f,m,o⟩:=b.ex;rw[e] at f;cases f;have d:w'.heap[g]?=w.heap[g]?:=hg.block g b.lt (fun k=>hne k.symm);obtain⟨x,hx⟩:=b.head;exact⟨k03 b.lt hg.size,⟨x,(qf (a:=⟨g,0,qb⟩) d).trans hx⟩,fun j=>(World.frozen?_of_block (a:=⟨g,j,qb⟩) d).trans (b.fz j),A,n,c,(qf (a:=⟨g,0,qb⟩) d).trans l,(qf (a:=⟨g,0+1,qb⟩) d).trans e,Rd.row m hg i,o⟩
theorem q4x.fs{g':Nat}{row:Option Nat}(h:q4x w g X row)(hf:Fs [(g',0,2)] w w')(hne:g'≠g):q4x w' g X row:=by obtain⟨a,A,n,c,b,d⟩:=h;exact⟨a.fs1 hf hne,A,n,c,(hf.cell g (0+1) a.lt (fun p hp e=>by rw[k09.1 hp] at e;exact absurd e hne)).trans b,d⟩
def LmI(w:qc)(N:Nat)(v:Value)(wr:qc):Prop:=
 ∃(k:Nat),k<=words N/\(∃A cap,v=.slice A k cap)/\q4x wr (w.heap.size+1) (N/4294967296^k) v.ownBlock/\wr.ownsRow (w.heap.size+2) 54 1 v k (q0k ((toL N).take k)) /\Ctx w [(w.heap.size,37,[.slice qb 0 0])] wr/\w.heap.size+2<=wr.heap.size
def qeh(N:Nat)(w:qc)(e:Ending)(w':qc):Prop:=∃A n c,e=.returned (q0x A n c)/\Rd w' A n c (toL N)/\Fr w.heap.size A/\qh w.heap.size w w'
def lmM(N:Nat)(v:Value):Nat:=match v with|.slice _ n _=>words N-n|_=>0
end Rnd
namespace Rtp
open Go Go.RowKit R5 Scn
end Rtp
namespace Rnd
open Go Go.RowKit R5 Scn
def WlP(neg:Bool)(q:Nat)(same:Bool)(w:qc)(e:Ending)(w':qc):Prop:=
 ∃A n c,e=.returned (.tuple #[.bool (neg && qd (0<q)),q0x A n c,.bool same,.int .i64 0])/\Rd w' A n c (toL q)/\Fr w.heap.size A/\qh w.heap.size w w'
end Rnd
namespace Hx
open Go Go.RowKit R5 Scn Fms Exa
def qbA(N places:Nat):Int:=4*(places:Int)-((bl N:Int)-1)
def qdr(g:Bool)(N mode places:Nat):Nat:=rnd g mode (N*p2 (qbA N places)) (p2 (-qbA N places))
def qeU(neg g:Bool)(N:Nat)(x:Int)(mode places:Nat):List UInt8:=
 if N=0 then qbO neg (hexL 0 (places+1)) 0 else
 if 4*places+1<bl (qdr g N mode places) then qbO neg (hexL (qdr g N mode places/2) (places+1)) (x+(bl N:Int)-1+1)
 else qbO neg (hexL (qdr g N mode places) (places+1)) (x+(bl N:Int)-1)
def RtP(g:Bool)(N D:Nat)(w:qc)(e:Ending)(w':qc):Prop:=
 ∃X n Y m,e=.returned (.tuple #[q0m g X n n Y m m,.int .i64 0])/\Rd w' X n n (toL N)/\Rd w' Y m m (toL D)/\n<=16384/\m<=16384/\qh w.heap.size w w'
theorem q61{A:Option qn}(h:Rd w A n c (toL N))(hb:bl N<=32000):n<=16384:=by obtain⟨k,a⟩:=yx (1000);have:=h.bound (k:=k) (by rw[q1u];exact k03 (q0O N) (k00 (by decide) (by omega)));omega
def qeT(N places:Nat):Nat:=(lp ((N*p2 (qbA N places):Nat):Int) (p2 (-qbA N places))).natAbs
def qeV(N places:Nat):Nat:=ld ((N*p2 (qbA N places):Nat):Int) (p2 (-qbA N places))
theorem bl_p2(z:Int):bl (p2 z)<=z.toNat+1:=q0A (Nat.pow_lt_pow_right (by decide) (k33 _))
end Hx
namespace Exa
open Go Go.RowKit R5 Scn Hx
def qbz(g:Bool)(N:Nat):Int:=if N=0 then 0 else if g then -1 else 1
def qfd(g:Bool)(N:Nat)(x:Int)(h:Bool)(M:Nat)(y:Int):Int:=
 if qbz g N≠qbz h M\/qbz g N=0 then max (-1) (min 1 (qbz g N-qbz h M)) else qbz g N*q14 (N*p2 (x-y)) (M*p2 (y-x))
abbrev two(w:qc)(g:Bool)(A:Option qn)(n c:Nat)(x:Int)(h:Bool)(B:Option qn)(m d:Nat)(y:Int):List q30:=
 [(w.heap.size+1,62,[.bool h,.slice B m d,.int .i64 y]),(w.heap.size,62,[.bool g,.slice A n c,.int .i64 x])]
theorem q5R(w:qc)(g:Bool)(A:Option qn)(n c:Nat)(x:Int)(h:Bool)(B:Option qn)(m d:Nat)(y:Int):Ctx w (two w g A n c x h B m d y) ((w.alloc (.cells #[.bool g,.slice A n c,.int .i64 x] 62)).alloc (.cells #[.bool h,.slice B m d,.int .i64 y] 62)):=((Ctx.nil w).new _ [.bool g,.slice A n c,.int .i64 x] rfl).new _ [.bool h,.slice B m d,.int .i64 y] (by simp)
theorem qdJ(g:Bool)(A:Option qn)(n c N:Nat)(x:Int)(h:Bool)(B:Option qn)(m d M:Nat)(y:Int)(w:qc)(ha:Rd w A n c (toL N))(hb:Rd w B m d (toL M))
  (ea:q1r g n (toL N) x=0) (eb:q1r h m (toL M) y=0) :
  qm qe 216 #[q0q g A n c x,q0q h B m d y] w fun e w'=>e=.returned (.int .i64 0)/\qh w.heap.size w w':=by
 have j:=vv fun w' (a:qh w.heap.size w w')=>Check g A n c (toL N) x w' (ha.below a rfl)
 have k:=vv fun w' (a:qh w.heap.size w w')=>Check h B m d (toL M) y w' (hb.below a rfl)
 rw[ea] at j;rw[eb] at k;have i:=q5R w g A n c x h B m d y;obtain⟨s,f⟩:=yx ((w.alloc (.cells #[.bool g,.slice A n c,.int .i64 x] 62)).alloc (.cells #[.bool h,.slice B m d,.int .i64 y] 62));rw[<- f] at i;have q:=vv f;have l:=vv i;clear f i ha hb ea eb;go_enter func216,ntmps216;go_wp2_with fail;rw[<- q.o];refine(j.o _ l.o.low).mono ?_;rintro e t ⟨rfl,a⟩;have b:=vv (l.o.step a);clear a;have r:=b.o.get 0 rfl |>.cell 0;have c1:=b.o.get 0 rfl |>.cell 1;have c2:=b.o.get 0 rfl |>.cell 2;have u:=b.o.get 0 rfl |>.lt;simp only[k06,k0l] at r c1 c2;go_wp2_with fail;refine(k.o _ b.o.low).mono ?_;rintro e v ⟨rfl,a⟩;have p:=vv (b.o.step a);clear a;go_wp2;go_ret;exact⟨rfl,p.o.low⟩
def LvP(N M:Nat)(z:Int)(w:qc)(e:Ending)(w':qc):Prop:=
 ∃A n B m,e=.returned (.tuple #[q0x A n n,q0x B m m,.int .i64 z,.int .i64 0])/\Rd w' A n n (toL N)/\Rd w' B m m (toL M)/\n<=16384/\m<=16384/\qh w.heap.size w w'
theorem q2a{z:Int}(h:bl N<=100)(hz:z<=20000):bl (N*p2 z)<=32000:=by have a:=q1S N (p2 z);have b:=Hx.bl_p2 z;omega
theorem q8P{A:Option qn}(z:Int)(ha:Rd w A n c (toL N))(hn:n<=16384)(h:bl N<=100)(h0:0<=z)(hz:z<=20000):qm qe 67 #[q0x A n c,.int .i64 z] w (Pnt.NatP (N*p2 z) w):=by obtain⟨k,rfl⟩:∃k:Nat,z=k:=⟨z.toNat,by omega⟩;rw[q1D];exact Pnt.Up A n c N k w ha hn (by omega)
theorem ne3(n:Nat):(qi (n+1+1+1):Option Nat)≠qi (n+1+1):=by intro e;injection e;omega
theorem ne2(n:Nat):(qi (n+1+1):Option Nat)≠qi (n+1+1+1):=by intro e;injection e;omega
theorem qct(g:Bool)(A:Option qn)(n c N:Nat)(x:Int)(h:Bool)(B:Option qn)(m d M:Nat)(y:Int)(w:qc)(ha:Rd w A n c (toL N))(hb:Rd w B m d (toL M))(hn:n<=16384)(hm:m<=16384)
  (bN:bl N<=100) (bM:bl M<=100) (x1:-10000<=x) (x2:x<=10000) (y1:-10000<=y) (y2:y<=10000) :
  qm qe 218 #[q0q g A n c x,q0q h B m d y] w (LvP (N*p2 (x-y)) (M*p2 (y-x)) (min x y) w):=by
 have s1:=q2a (N:=N) (z:=x-y) bN (by omega);have s2:=q2a (N:=M) (z:=y-x) bM (by omega);have S:=q5R w g A n c x h B m d y;obtain⟨w0,J⟩:=yx ((((w.alloc (.cells #[.bool g,.slice A n c,.int .i64 x] 62)).alloc (.cells #[.bool h,.slice B m d,.int .i64 y] 62)).alloc (.cells #[.slice qb 0 0] 37)).alloc (.cells #[.slice qb 0 0] 37));have u:Ctx w ((w.heap.size+1+1+1,37,[.slice qb 0 0])::(w.heap.size+1+1,37,[.slice qb 0 0])::two w g A n c x h B m d y) w0:=by rw[J];exact(S.new _ [.slice qb 0 0] (by simp)).new _ [.slice qb 0 0] (by simp)
 have HW:=vv J;have O:=vv u;have G:=vv (And.intro s1 s2);have T:qo (∀w',qh w.heap.size w w'->qm qe 67 #[q0x A n c,.int .i64 (x-min x y)] w' (Pnt.NatP (N*p2 (x-y)) w')):=vv fun w' b=>by
  have:=q8P (x-min x y) (ha.below b rfl) hn bN (by omega) (by omega)
  rwa [show p2 (x-min x y)=p2 (x-y) by unfold p2;congr 1;omega] at this
 have U:qo (∀w',qh w.heap.size w w'->qm qe 67 #[q0x B m d,.int .i64 (y-min x y)] w' (Pnt.NatP (M*p2 (y-x)) w')):=vv fun w' b=>by
  have:=q8P (y-min x y) (hb.below b rfl) hm bM (by omega) (by omega)
  rwa [show p2 (y-min x y)=p2 (y-x) by unfold p2;congr 1;omega] at this
 obtain⟨P,hP⟩:=yx (N*p2 (x-y));obtain⟨Q,hQ⟩:=yx (M*p2 (y-x));rw[<- hP] at T G ⊢;rw[<- hQ] at U G ⊢;have c2:=u.get 2 rfl |>.cell 2;have c5:=u.get 3 rfl |>.cell 2;have R:=u.get 2 rfl |>.lt;have a6:=u.get 3 rfl |>.lt;simp only[k06,k0l] at c2 c5;clear J u S ha hb hn hm bN bM s1 s2 hP hQ;go_enter func218,ntmps218;go_wp2_with fail;rw[<- HW.o];go_wp2_with fail;refine(T.o _ O.o.low).mono ?_;rintro e w1 ⟨i,n1,rfl,C,-,b⟩;have K:=vv (O.o.step b);have V:=vv C;clear b C c2 c5 R a6 O;have l:qo (Blk w1 (w.heap.size+1+1) 37 [.slice qb 0 0]):=vv (K.o.get 1 rfl);go_wp2_with (with_reducible refine q00 rfl 37 (.tmp 4) (.tmp 21) rfl (w.heap.size+1+1) [.slice i n1 n1] rfl rfl 37 _ l.o (by kernel_rfl) rfl rfl ?_);intro w2 b q;have W:=vv (V.o.else_ l.o rfl q);have s:=vv (K.o.put 1 rfl (fun j x hj hx=>by
  match j,hj with
  | 0,_=>cases hx;show(_:Nat)≠_;omega
  | 2,_=>cases hx;show(_:Nat)≠_;omega
  | 3,_=>cases hx;show(_:Nat)≠_;omega
  | j+4,_=>cases hx) (by omega) b q)
 clear b q l K V;have c1:=s.o.get 2 rfl |>.cell 1;have c2:=s.o.get 2 rfl |>.cell 2;have R:=s.o.get 2 rfl |>.lt;simp only[k06,k0l] at c1 c2;go_wp2_with fail;refine(U.o _ s.o.low).mono ?_;rintro e w3 ⟨k,a,rfl,D,-,b⟩;have L:=vv (s.o.step b);have X:=vv (W.o.below b rfl);have Y:=vv D;have l:qo (Blk w3 (w.heap.size+1+1+1) 37 [.slice qb 0 0]):=vv (L.o.get 0 rfl);clear b D c1 c2 R s W;go_wp2_with (with_reducible refine q00 rfl 37 (.tmp 5) (.tmp 33) rfl (w.heap.size+1+1+1) [.slice k a a] rfl rfl 37 _ l.o (by kernel_rfl) rfl rfl ?_);intro E b q;have Z:=vv (X.o.else_ l.o rfl q);have a0:=vv (Y.o.else_ l.o rfl q);have f:=vv (L.o.put 0 rfl (fun j x hj hx=>by
  match j,hj with
  | 1,_=>cases hx;show(_:Nat)≠_;omega
  | 2,_=>cases hx;show(_:Nat)≠_;omega
  | 3,_=>cases hx;show(_:Nat)≠_;omega
  | j+4,_=>cases hx) (by omega) b q)
 clear b q l L X Y;have d0:=f.o.get 1 rfl |>.cell 0;have dl:=f.o.get 1 rfl |>.lt;have df:=f.o.get 1 rfl |>.fz 0;have e0:=f.o.get 0 rfl |>.cell 0;have el:=f.o.get 0 rfl |>.lt;have ef:=f.o.get 0 rfl |>.fz 0;simp only[k06,k0l] at d0 e0;go_wp2_with fail;go_region;obtain⟨F,r⟩:=yx (((E.setCell ⟨w.heap.size+1+1,0,qb⟩ (.slice i n1 n1)).setCell ⟨w.heap.size+1+1+1,0,qb⟩ (.slice k a a)).drew);have a1:qh w.heap.size w F:=by rw[r];exact q05 ((f.o.low.setCell (p:=⟨w.heap.size+1+1,0,qb⟩) (by show _<=w.heap.size+1+1;omega) _).setCell (p:=⟨w.heap.size+1+1+1,0,qb⟩) (by show _<=w.heap.size+1+1+1;omega) _)
 have a2:Rd F i n1 n1 (toL P):=by rw[r];have C:=Z.o.else_ (w':=E.setCell ⟨w.heap.size+1+1,0,qb⟩ (.slice i n1 n1)) (f.o.get 1 rfl) rfl (Go.Proofs.YtabcgemembkkcaaGreatDoor.only_setCell (qa _ _) (.inl rfl) _);have D:=C.else_ (w':=(E.setCell ⟨w.heap.size+1+1,0,qb⟩ (.slice i n1 n1)).setCell ⟨w.heap.size+1+1+1,0,qb⟩ (.slice k a a)) (g:=w.heap.size+1+1+1) (t:=37) (cs:=[.slice k a a]) (by refine(f.o.get 0 rfl).grown (Go.Proofs.YtabcgemembkkcaaGreatDoor.only_setCell (qa _ _) (.inl rfl) _) ?_;first|exact ne3 _|exact ne2 _) rfl (Go.Proofs.YtabcgemembkkcaaGreatDoor.only_setCell (qa _ _) (.inl rfl) _);exact D.drew
 have a3:Rd F k a a (toL Q):=by rw[r];have C:=a0.o.else_ (w':=E.setCell ⟨w.heap.size+1+1,0,qb⟩ (.slice i n1 n1)) (f.o.get 1 rfl) rfl (Go.Proofs.YtabcgemembkkcaaGreatDoor.only_setCell (qa _ _) (.inl rfl) _);have D:=C.else_ (w':=(E.setCell ⟨w.heap.size+1+1,0,qb⟩ (.slice i n1 n1)).setCell ⟨w.heap.size+1+1+1,0,qb⟩ (.slice k a a)) (g:=w.heap.size+1+1+1) (t:=37) (cs:=[.slice k a a]) (by refine(f.o.get 0 rfl).grown (Go.Proofs.YtabcgemembkkcaaGreatDoor.only_setCell (qa _ _) (.inl rfl) _) ?_;first|exact ne3 _|exact ne2 _) rfl (Go.Proofs.YtabcgemembkkcaaGreatDoor.only_setCell (qa _ _) (.inl rfl) _);exact D.drew
 have H:F.cell? ⟨w.heap.size+1+1,0,qb⟩=qi (.slice i n1 n1):=by rw[r];exact(((f.o.get 1 rfl).set 0 (.slice i n1 n1)).grown (Go.Proofs.YtabcgemembkkcaaGreatDoor.only_setCell (qa _ _) (.inl rfl) _) (by first|exact ne3 _|exact ne2 _)).cell 0
 have I:F.cell? ⟨w.heap.size+1+1+1,0,qb⟩=qi (.slice k a a):=by rw[r];exact(((f.o.get 0 rfl).grown (Go.Proofs.YtabcgemembkkcaaGreatDoor.only_setCell (qa _ _) (.inl rfl) _) (by first|exact ne3 _|exact ne2 _)).set 0 (.slice k a a)).cell 0
 have HK:=vv (And.intro H I);have a4:=vv a2;have a5:=vv a3;have a7:=vv a1;rw[<- r];clear r a2 a3 a1 H I d0 dl df e0 el ef f Z a0;go_wp2;obtain⟨H,I⟩:=HK.o;exact ql (v:=.tuple #[q0x i n1 n1,q0x k a a,.int .i64 (min x y),.int .i64 0]) (by simp [results,results218,go_sem,H,I]) rfl ⟨i,n1,k,a,rfl,a4.o,a5.o,q61 a4.o G.o.1,q61 a5.o G.o.2,a7.o⟩
end Exa
namespace R5
open Go Go.RowKit Scn Fms Exa
theorem qcd(h1:2<=E)(h2:E<=11)(h4:F<=52):-1100<=powOf E F (q0c E F b)/\powOf E F (q0c E F b)<=2050:=by have hx:q0c E F b<2^11:=k03 (k0i _ (k0a _)) (k00 (by decide) h2);have c:2^(E-1)<=2^10:=k00 (by decide) (by omega);unfold powOf;obtain⟨P,a⟩:=yx (2^(E-1));rw[<- a] at c ⊢;clear a;split<;>omega
theorem q7K(hb:b<2^(1+E+F)):qd (((2^(E+F):Nat):Int)<=(b:Int))=q0M E F b:=by
 have c:=k0a (E+F);have a:b<2^(E+F)*2:=by rw[<- k0d];rwa [show(E+F).succ=1+E+F by omega]
 unfold q0M;rw[k0Z F E];by_cases h:2^(E+F)<=b
 ·rw[k04 (by omega)];have:b/2^(E+F)=1:=by refine k1I ?_ ?_<;>omega
  rw[this];rfl
 ·rw[k02 (by omega),k0K (by omega)];rfl
theorem qdN(E F b:Nat)(w:qc)(h1:2<=E)(h2:E<=11)(h3:1<=F)(h4:F<=52)(hb:b<2^(1+E+F))(hst:Std w):qm qe 31 #[fm E F,.int .u64 (b:Int)] w (q2Q (sg (q0M E F b) (mantOf F (q0c E F b) (q0r F b)*p2 (powOf E F (q0c E F b)))) (p2 (-powOf E F (q0c E F b))) w):=by
 have W:=qcd (b:=b) (F:=F) h1 h2 h4;have b7:b<18446744073709551616:=k03 hb (by rw[show(18446744073709551616:Nat)=2^64 from rfl];exact k00 (by decide) (by omega));have b9:q0c E F b<2^11:=k03 (k0i _ (k0a _)) (k00 (by decide) h2);have c3:q0r F b<2^F:=k0i _ (k0a _);have a0:2^F<=2^52:=k00 (by decide) h4;have D:=q7K hb;have a3:=vv fun w=>Bias E F w h1 h2
 have c4:=vv fun w=>Sign E F w h1 h2 h3 h4
 have c5:=Hx.bias_nat (E:=E);have c6:=q4w h1;have c7:=q5J h2;obtain⟨p,c⟩:=yx (powOf E F (q0c E F b));have Q:p=1-q1p E-F+(if q0c E F b=0 then 0 else(q0c E F b:Int)-1):=by rw[c,c5];unfold powOf;split<;>omega
 rw[<- c] at W ⊢;obtain⟨x,hx⟩:=yx (q0c E F b);obtain⟨f,hf⟩:=yx (q0r F b);obtain⟨neg,a1⟩:=yx (q0M E F b);obtain⟨m,hm⟩:=yx (q1p E);obtain⟨l,t⟩:=yx (2^F);obtain⟨N,X⟩:=yx (2^E);obtain⟨ts,c8⟩:=yx (2^(E+F));rw[<- hx] at Q b9 ⊢;rw[<- hf] at c3 ⊢;rw[<- a1] at D ⊢;rw[<- c8] at D c4;rw[<- hm] at a3 Q c6 c7;have pe:0<N:=by rw[X];exact k0a E
 have pf:0<l:=by rw[t];exact k0a F
 have w1:IntKind.u64.wrap (2^F)=(l:Int):=by rw[t];exact wu_pow (by omega)
 have w2:IntKind.u64.wrap (2^E)=(N:Int):=by rw[X];exact wu_pow (by omega)
 have e1:f=b%l:=by rw[hf,t];rfl
 have e2:x=b/l%N:=by rw[hx,t,X];rfl
 obtain⟨v,hv⟩:=yx (b/l);rw[<- hv] at e2;have d1:(b:Int)%(l:Int)=(f:Int):=by rw[e1,k1x]
 have d2:(v:Int)%(N:Int)=(x:Int):=by rw[e2,k1x]
 have d3:(b:Int)/2^F=(v:Int):=by rw[hv,t,k1n,k0C];rfl
 have O:((l:Int)==0)=qj:=by rw[k05];omega
 have S:((N:Int)==0)=qj:=by rw[k05];omega
 have z3:¬l=0:=by omega
 have z4:¬N=0:=by omega
 have e6:v<=b:=by rw[hv];exact k0q _ _
 have e7:(v:Int)<=18446744073709551615:=by omega
 have g6:(b:Int)<=18446744073709551615:=by omega
 have g7:(x:Int)<=2047:=by omega
 have g8:(f:Int)<=4503599627370496:=by omega
 have g9:(F:Int)<=52:=by omega
 have i0:(E:Int)<=11:=by omega
 have i1:-1<=m:=by omega
 obtain⟨M,J⟩:=yx (mantOf F x f);rw[<- J];have Y:qo ((x=0->M=f/\p=1-m-F)/\(x≠0->M=f+l/\p=x-m-F)):=vv (by
  unfold mantOf at J;refine⟨fun h=>?_,fun h=>?_⟩
  ·rw[k0p h] at J Q;exact⟨J,by omega⟩
  ·rw[k0r h] at J Q;exact⟨by rw[J,t],by omega⟩)
 have c9:bl M<=54:=by
  refine q0A ?_;rcases k01 x with h|h
  ·have:=(Y.o.1 h).1;omega
  ·have:=(Y.o.2 (by omega)).1;have:l<=2^52:=by rw[t];exact a0
   omega
 have e8:=vv c9;have d0:=vv fun w=>qaI p w (by omega) (by omega)
 have d4:=vv fun w=>qaI (F:Int) w (by omega) (by omega)
 have a4:p2 (F:Int)=l/\p2 (-(F:Int))=1:=⟨by rw[q1D,t],q0s (by omega)⟩;rw[a4.1,a4.2] at d4;have G:qo (bl (p2 p)<=3000/\bl (p2 (-p))<=3000/\bl l<=60/\bl f<=54):=vv ⟨by have:=Hx.bl_p2 p;omega,by have:=Hx.bl_p2 (-p);omega,by rw[t,q8r];omega,q0A (by omega)⟩;have e9:=vv fun g w (h:IntAt w g 0 0)=>B.SetUint64 g 0 0 f w h (by omega)
 have a2:qd ((ts:Int)<=(b:Int))=neg:=D;obtain⟨T,a5⟩:=yx (w.alloc (.cells #[.int .i64 (E:Int),.int .i64 (F:Int)] 23));have s:Ctx w [(w.heap.size,23,[.int .i64 (E:Int),.int .i64 (F:Int)])] T:=by rw[a5];exact(Ctx.nil w).new _ _ rfl
 have HW:=vv a5;have HC:=vv s;have d5:=vv hst;have f0:=vv a2;have g1:-1100<=p:=W.1;have g3:p<=2050:=W.2;have y:=s.get 0 rfl |>.cell 0;have c1:=s.get 0 rfl |>.cell 1;have P:=s.get 0 rfl |>.lt;simp only[k06,k0l] at y c1;clear a5 s hst hb h1 h3 b7 b9 c3 a0 D a2 c5 c6 c7 c Q hx hf a1 hm t X c8 pe pf e1 e2 hv e6 J c9 a4 W;go_enter func31,ntmps31;go_wp2_with fail;rw[<- HW.o];go_wp2_with fail;clear w1 w2 d1 d2 d3 O S z3 z4 e7 y c1 P h2 h4;have a6:T.heap.size=w.heap.size+1:=by rw[HW.o];simp
 obtain⟨a,a7⟩:=yx (w.heap.size+1);have n:qo (w.heap.size<a):=vv (by omega);obtain⟨z0,O⟩:=q4j T;obtain⟨y0,y1⟩:=q5q (T.alloc q5o);rw[qp,a6] at y0;have f1:=O;rw[a6] at z0;obtain⟨w1,Z⟩:=yx ((T.alloc q5o).alloc qd8);have S:=z0.below y1;have d6:=vv (HC.o.step (O.trans (y1.mono O.size)));rw[<- Z,<- a7] at S y0;rw[<- Z] at d6;rw[<- Z,<- a7];have f2:=vv S;have d7:=vv y0;clear z0 O f1 y0 y1 S Z a6 a7;refine(e9.o (a+1) _ d7.o).mono ?_;rintro e w2 j;have j:=j.f d7.o;have f3:=vv (f2.o.fs1 j.2.2 (by omega));have f4:=vv j.2.1;have f5:=vv (d6.o.fs j.2.2 (by intro p c;rw[k09.1 c];have:=n.o;show _<=a+1;omega) (by intro x hx p c;rw[k09.1 c];have:=n.o;simp only[k0R,k0X,k2c] at hx;rcases hx with rfl<;>show a+1≠_<;>omega));obtain⟨rfl,-,-⟩:=j;go_wp2_with fail;refine(B.SetInt a (a+1) _ _ f3.o.sh f4.o).mono ?_;rintro e w3 j;have L:=vv (f5.o.fs j.2.2 (by intro p c;rw[k09.1 c];have:=n.o;show _<=a;omega) (by intro x hx p c;rw[k09.1 c];have:=n.o;simp only[k0R,k0X,k2c] at hx;rcases hx with rfl<;>show a≠_<;>omega));obtain⟨rfl,k,-⟩:=j;have d8:=vv k;clear k;have HF:qo (∀wc (r:Int) (d:Nat),Ctx w [(w.heap.size,23,[.int .i64 (E:Int),.int .i64 (F:Int)])] wc->RatAt wc a r d->∀g2 q e',RatAt wc g2 q e'->bl r.natAbs<=5000->bl d<=5000->bl q.natAbs<=5000->bl e'<=5000 ->qm qe 83 #[.pointer (qi ⟨a,0,qb⟩),.pointer (qi ⟨a,0,qb⟩),.pointer (qi ⟨g2,0,qb⟩)] wc fun e z=>e=.returned (.pointer (qi ⟨a,0,qb⟩))/\RatAt z a (r*q) (d*e')/\Ctx w [(w.heap.size,23,[.int .i64 (E:Int),.int .i64 (F:Int)])] z):=vv (by intro wc r d hc hr g2 q e' hq s1 s2 s3 s4;refine(B.MulR a a g2 _ _ _ _ wc hr.sh hr hq (hc.std d5.o) (by unfold Sz;omega) (by unfold Sz;omega) (by unfold Sz;omega) (by unfold Sz;omega)).mono ?_;rintro e z j;have H:=hc.fs j.2.2 (by intro p c;rw[k09.1 c];have:=n.o;show _<=a;omega) (by intro x hx p c;rw[k09.1 c];have:=n.o;simp only[k0R,k0X,k2c] at hx;rcases hx with rfl<;>show a≠_<;>omega);exact⟨j.1,j.2.1,H⟩);by_cases hx0:x=0
 focus
  obtain⟨U,V⟩:=Y.o.1 hx0;subst hx0;have a8:=vv U;have a9:IntKind.i64.wrap (1-m)=1-m:=qk _ (by omega);have b0:IntKind.i64.wrap (1-m-(F:Int))=p:=by rw[<- V];exact qk _ (by omega)
  clear U V;go_wp2_with fail;refine q02 (fun z=>z.cell? ⟨w.heap.size,0,qb⟩=qi (.int .i64 (E:Int))/\z.cell? ⟨w.heap.size,1,qb⟩=qi (.int .i64 (F:Int))) 10
   (.still 0 (.still 1 (.still 2 (.still 5 (.still 6 (.one 3 (.still 4 (.still 7 (.one 8 (.one 9 .done)))))))))) (Blk.c2 (L.o.get 0 rfl)) (fun b1=>?_)
  iterate 5
   refine q03 ?_
  refine q01 rfl (by rfl) (fun K hK=>?_);go_simp;refine(a3.o _).mono ?_;rintro e w4 ⟨rfl,i⟩;have H:=vv (L.o.drew.step i);have b2:=vv (d8.o.drew.below i);clear i;go_wp2_with fail;refine hK.out _ _ (Blk.c2 (H.o.get 0 rfl)) (fun I=>?_);clear hK
  iterate 2
   refine q03 ?_
  refine q01 rfl (by rfl) (fun K hK=>?_);go_simp;refine(d0.o _).mono ?_;rintro e w5 ⟨g5,rfl,b3,C,i⟩;have R:=vv (H.o.step i);have b4:=vv (b2.o.below i);have b5:=vv C;clear i C b3;go_wp2_with fail;refine hK.out _ _ (Blk.c2 (R.o.get 0 rfl)) (fun I=>?_);clear hK;refine q01 rfl (by rfl) (fun K hK=>?_);go_simp;refine(HF.o _ _ _ R.o b4.o _ _ _ b5.o (by rw[k08];have:=G.o;omega) (by decide) (by rw[k08];have:=G.o;omega) (by have:=G.o;omega)).mono ?_;rintro e w6 ⟨rfl,k,s⟩;have u:=vv s;have d9:qo (RatAt w6 a ((M*p2 p:Nat):Int) (p2 (-p))):=vv (by
   rw[a8.o,k0f]
   rwa [k0S] at k)
  clear s k;go_wp2_with fail;refine hK.out _ _ (Blk.c2 (u.o.get 0 rfl)) (fun I=>?_);clear hK;refine q08 ?_;clear I b1 a9 b0;simp only[k0o,k0w];have y:=(u.o.get 0 rfl).cell 0;have c1:=(u.o.get 0 rfl).cell 1;have P:=(u.o.get 0 rfl).lt;simp only[k06,k0l] at y c1;go_wp2_with fail
 rotate_left
 focus
  obtain⟨U,V⟩:=Y.o.2 hx0;have a8:=vv U;have a9:IntKind.i64.wrap ((x:Int)-m)=x-m:=qk _ (by omega);have b0:IntKind.i64.wrap ((x:Int)-m-(F:Int))=p:=by rw[<- V];exact qk _ (by omega)
  have xz:((x:Int)==0)=qj:=by rw[k05];omega
  clear U V;have y:=(L.o.get 0 rfl).cell 0;have c1:=(L.o.get 0 rfl).cell 1;have P:=(L.o.get 0 rfl).lt;simp only[k06,k0l] at y c1;go_wp2_with fail;refine(d4.o _).mono ?_;rintro e wa ⟨ga,rfl,f6,C,i⟩;have e0:=vv (L.o.step i);have e3:=vv (d8.o.below i);have f7:=vv C;clear i C f6 y c1 P;go_wp2_with fail;refine(B.AddR a a ga _ _ _ _ wa e3.o.sh e3.o f7.o (e0.o.std d5.o) (by unfold Sm;rw[k08];have:=G.o;omega) (by unfold Sm;decide) (by unfold Sm;rw[k08];have:=G.o;omega) (by unfold Sm;decide)).mono ?_;rintro e wb j;have e4:=vv (e0.o.fs j.2.2 (by intro p c;rw[k09.1 c];have:=n.o;show _<=a;omega) (by intro x hx p c;rw[k09.1 c];have:=n.o;simp only[k0R,k0X,k2c] at hx;rcases hx with rfl<;>show a≠_<;>omega));obtain⟨rfl,k,-⟩:=j;have f8:qo (RatAt wb a (M:Int) 1):=vv (by rw[a8.o,k1o];rw[Int.natCast_one,k3c,k3c,k0G] at k;exact k);clear k;go_wp2_with fail;refine q02 (fun z=>z.cell? ⟨w.heap.size,0,qb⟩=qi (.int .i64 (E:Int))/\z.cell? ⟨w.heap.size,1,qb⟩=qi (.int .i64 (F:Int))) 11
   (.still 0 (.still 1 (.still 2 (.still 3 (.still 6 (.still 7 (.one 4 (.still 5 (.still 8 (.one 9 (.one 10 .done))))))))))) (Blk.c2 (e4.o.get 0 rfl)) (fun b1=>?_)
  iterate 6
   refine q03 ?_
  refine q01 rfl (by rfl) (fun K hK=>?_);go_simp;refine(a3.o _).mono ?_;rintro e w4 ⟨rfl,i⟩;have H:=vv (e4.o.drew.step i);have b2:=vv (f8.o.drew.below i);clear i;go_wp2_with fail;refine hK.out _ _ (Blk.c2 (H.o.get 0 rfl)) (fun I=>?_);clear hK
  iterate 2
   refine q03 ?_
  refine q01 rfl (by rfl) (fun K hK=>?_);go_simp;refine(d0.o _).mono ?_;rintro e w5 ⟨g5,rfl,b3,C,i⟩;have R:=vv (H.o.step i);have b4:=vv (b2.o.below i);have b5:=vv C;clear i C b3;go_wp2_with fail;refine hK.out _ _ (Blk.c2 (R.o.get 0 rfl)) (fun I=>?_);clear hK;refine q01 rfl (by rfl) (fun K hK=>?_);go_simp;refine(HF.o _ _ _ R.o b4.o _ _ _ b5.o (by rw[k08];have:=e8.o;omega) (by decide) (by rw[k08];have:=G.o;omega) (by have:=G.o;omega)).mono ?_;rintro e w6 ⟨rfl,k,s⟩;have u:=vv s;have d9:qo (RatAt w6 a ((M*p2 p:Nat):Int) (p2 (-p))):=vv (by
   rw[k0f]
   rwa [k0S] at k)
  clear s k;go_wp2_with fail;refine hK.out _ _ (Blk.c2 (u.o.get 0 rfl)) (fun I=>?_);clear hK;refine q08 ?_;clear I b1 a9 b0;simp only[k0o,k0w];have y:=(u.o.get 0 rfl).cell 0;have c1:=(u.o.get 0 rfl).cell 1;have P:=(u.o.get 0 rfl).lt;simp only[k06,k0l] at y c1;go_wp2_with fail
 rotate_left;all_goals
  refine(c4.o _).mono ?_;rintro e w7 ⟨rfl,i⟩;have e5:=vv (u.o.step i);have b6:=vv (d9.o.below i);clear i y c1 P;have D:=f0.o;cases neg
  ·have b8:¬(ts:Int)<=(b:Int):=k2W D;have g4:(b:Int)<(ts:Int):=by omega
   go_wp2;go_ret;exact⟨_,rfl,by have:=n.o;omega,b6.o,e5.o.low⟩
  ·have b8:(ts:Int)<=(b:Int):=k1h D;go_wp2_with fail;refine(B.NegR a a _ _ _ b6.o.sh b6.o).mono ?_;rintro e w8 j;have f9:=vv (e5.o.fs j.2.2 (by intro p c;rw[k09.1 c];have:=n.o;show _<=a;omega) (by intro x hx p c;rw[k09.1 c];have:=n.o;simp only[k0R,k0X,k2c] at hx;rcases hx with rfl<;>show a≠_<;>omega));obtain⟨rfl,k,-⟩:=j;have g0:=vv k;clear k;go_wp2;go_ret;exact⟨_,rfl,by have:=n.o;omega,g0.o,f9.o.low⟩
end R5
end Go.Proofs.YtabcgemembkkcaaGreatDoor
