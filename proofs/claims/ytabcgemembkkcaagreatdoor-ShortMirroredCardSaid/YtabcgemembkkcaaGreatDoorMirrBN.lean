/- Lemmas. -/
import Derived.Test.YtabcgemembkkcaaGreatDoorMirrBM
set_option linter.all false
set_option maxHeartbeats 4000000
set_option maxRecDepth 100000
open Go.Proofs.Tryz
open Go renaming World.grownBy.refl->qa,World->qb,RowKit.Below.refl->qe,bodyPost_ret->qh,Addr->qj,Calls->ql
open Option renaming none->qc,some->qk
open Go.Proofs.Tryz renaming prog->qd
open Decidable renaming decide->qf
open Go.RowKit renaming Below->qg,Hid->qm
open Bool renaming false->qi
namespace Go.Proofs.YtabcgemembkkcaaGreatDoor
variable{N n c g X:Nat}{w w':qb}
namespace Rtp
open Go Go.RowKit R5 Scn
def qbW(p:Int)(D:Nat)(w:qb)(e:Ending)(w':qb):Prop:=
 ∃X n Y m,e=.returned (.tuple #[q0i (qf (p<0)) X n n Y m m,.int .i64 0])/\Rd w' X n n (toL (lp p D).natAbs)/\Rd w' Y m m (toL (ld p D))/\qg w.heap.size w w'
theorem wds_bl{A:Option qj}(h:Rd w A n c (toL N))(hn:n<=16384):bl N<=524288:=by have a:=q0f N;rw[h.words,q1q] at a;have:=q0A a;omega
theorem q1P(p:Int)(D:Nat):(lp p D).natAbs<=p.natAbs:=by rw[q3f];exact k0e _ _
theorem q1Y(p:Int)(D:Nat)(h:0<D):ld p D<=D:=by exact k0e _ _
def MkI(w:qb)(X:Option qj)(n c:Nat)(Y:Option qj)(m d:Nat)(i:Value)(wr:qb):Prop:=
 ∃k:Nat,k<=2/\i=.int .i64 (k:Int)/\Ctx w [(w.heap.size+3,37,[.slice X n c,.slice Y m d]),(w.heap.size+2,39,[.bool qi,.slice qc 0 0,.slice qc 0 0]),(w.heap.size+1,37,[.slice Y m d]),(w.heap.size,37,[.slice X n c])] wr
theorem qc9(neg:Bool)(X:Option qj)(n c:Nat)(Y:Option qj)(m d N D:Nat)(w:qb)(hX:Rd w X n c (toL N))(hY:Rd w Y m d (toL D))(hn:n<=16384)(hm:m<=16384)(hD:0<D)(hst:Std w):ql qd 53 #[.bool neg,q0I X n c,q0I Y m d] w (qbW (sg neg N) D w):=by
 have c3:=wds_bl hX hn;have c4:=wds_bl hY hm;have c5:0<m:=by
  rcases k01 m with h|h
  ·subst h;have:=hY.lt;rw[q04,k0J] at this;omega
  ·exact h
 have c6:qm (∀wr,Rd wr X n c (toL N)->ql qd 118 #[q0I X n c] wr fun e w'=>e=.returned (.int .i64 0)/\qg wr.heap.size wr w'):=vv fun wr h=>Pnt.Check_ok h hn
 have a5:qm (∀wr,Rd wr Y m d (toL D)->ql qd 118 #[q0I Y m d] wr fun e w'=>e=.returned (.int .i64 0)/\qg wr.heap.size wr w'):=vv fun wr h=>Pnt.Check_ok h hm
 have c7:=vv fun wr (h:Rd wr X n c (toL N))=>q3v X n c N wr h (by omega)
 have c8:=vv fun wr (h:Rd wr Y m d (toL D))=>q3v Y m d D wr h (by omega)
 have c9:=vv fun g wr (h:IntAt wr g 0 (N:Int))=>A.Neg g 0 g 0 (N:Int) (N:Int) wr h h
 have d0:=vv fun g gx gy u wr (h:RatSh wr g) (hx:IntAt wr gx 0 u) (hy:IntAt wr gy 0 (D:Int)) (hu:u.natAbs=N) (hs:Std wr)=>A.SetFrac g gx gy u D wr h hx hy hD hs (by rw[hu];unfold Sz;omega) (by unfold Sz;omega)
 obtain⟨p,j⟩:=yx (sg neg N);have Q:p.natAbs=N:=by rw[j];exact q0z _ _
 have d1:=vv fun g wr (h:RatAt wr g p D)=>qb2 g p D wr h (by have:=q15 (q1P p D);rw[Q] at this;omega) (by have:=q15 (q1Y p D hD);omega)
 rw[<- j];have HP:=vv j;have d2:=vv Q;have HX:=vv hX;have HY:=vv hY;have d3:=vv hst;obtain⟨w3,R⟩:=yx ((((w.alloc (.cells #[.slice X n c] 37)).alloc (.cells #[.slice Y m d] 37)).alloc (.cells #[.bool qi,.slice qc 0 0,.slice qc 0 0] 39)).alloc (.cells #[.slice X n c,.slice Y m d] 37));have l:Ctx w [(w.heap.size+3,37,[.slice X n c,.slice Y m d]),(w.heap.size+2,39,[.bool qi,.slice qc 0 0,.slice qc 0 0]),(w.heap.size+1,37,[.slice Y m d]),(w.heap.size,37,[.slice X n c])] w3:=by rw[R];exact((((Ctx.nil w).new _ _ rfl).new _ _ (by simp)).new _ _ (by simp)).new _ _ (by simp)
 have HW:=vv R;have b:=vv l;have e1:(n:Int)<=16384:=by omega
 have e2:(m:Int)<=16384:=by omega
 have tm:((m:Int)==0)=qi:=by rw[k09];omega
 clear R l hX hY hn hm hD hst c3 c4 c5 j Q;go_enter func53,ntmps53;go_wp2;rw[<- HW.o];go_loopw [16] (fun i wr=>MkI w X n c Y m d i wr) (fun i _=>2-(intOf i).toNat)
 case atStart=>exact⟨0,by omega,rfl,b.o⟩
 case round =>
  obtain⟨k,hk,rfl,l⟩:=hrel;have b:=vv l;have J:=l.get 0 rfl |>.cell 0;have L:=l.get 0 rfl |>.cell 1;have al:=l.get 0 rfl |>.lt;simp only[List.getElem?_cons_zero,List.getElem?_cons_succ] at J L;clear l;rcases(by omega:k=0\/k=1\/k=2) with rfl|rfl|rfl
  ·go_wp2_with fail;refine(c6.o _ ?_).mono ?_
   ·exact(HX.o.below b.o.low rfl).below ((qe _ _).alloc lr _) rfl
   rintro e w1 ⟨rfl,a⟩;have S:=vv (b.o.step (((qe _ _).alloc lr _).trans (a.mono (by simp))));clear a J L al;go_wp2;go_roundw
   case rel=>exact⟨1,by omega,by go_num,S.o⟩
   case measure=>simp [intOf]
  ·go_wp2_with fail;refine(a5.o _ ?_).mono ?_
   ·exact(HY.o.below b.o.low rfl).below ((qe _ _).alloc lr _) rfl
   rintro e w1 ⟨rfl,a⟩;have S:=vv (b.o.step (((qe _ _).alloc lr _).trans (a.mono (by simp))));clear a J L al;go_wp2;go_roundw
   case rel=>exact⟨2,by omega,by go_num,S.o⟩
   case measure=>simp [intOf]
  ·have r:=b.o.get 2 rfl |>.cell 0;have bl:=b.o.get 2 rfl |>.lt;have n0:=b.o.get 3 rfl |>.cell 0;have nl:=b.o.get 3 rfl |>.lt;simp only[List.getElem?_cons_zero] at r n0;go_wp2_with fail;refine(c7.o _ (HX.o.below b.o.low rfl)).mono ?_;rintro e w4 ⟨q,rfl,d4,a9,a⟩;have E:=vv a9;have b1:qm (w.heap.size+3<q):=vv (by have:=b.o.get 0 rfl |>.lt;omega);have F:=vv (b.o.step a);clear a9 d4 a J L al r bl n0 nl;have nw:∀x∈([(w.heap.size+3,37,[.slice X n c,.slice Y m d]),(w.heap.size+2,39,[.bool qi,.slice qc 0 0,.slice qc 0 0]),(w.heap.size+1,37,[.slice Y m d]),(w.heap.size,37,[.slice X n c])]:List q33),x.1<q:=by have:=b1.o;intro x hx;simp only[k1b,k1h,k2G] at hx;rcases hx with rfl|rfl|rfl|rfl<;>show _<q<;>simp only<;>omega
   have b2:=vv nw;clear nw;cases neg;obtain⟨s,rfl⟩:=yx (w4);have G:qm (IntAt s q 0 p):=vv (by rw[HP.o];exact E.o);have f:=F;have r:=f.o.get 2 rfl |>.cell 0;have bl:=f.o.get 2 rfl |>.lt;simp only[List.getElem?_cons_zero] at r;clear E F;go_wp2_with fail;rotate_left;go_wp2_with fail;refine(c9.o q _ E.o).mono ?_;rintro e s ⟨rfl,hI,y⟩;have G:qm (IntAt s q 0 p):=vv (by rw[HP.o];exact hI);have f:=vv (F.o.write y.grown (by have:=b1.o;omega) (fun x hx=>Nat.ne_of_lt (b2.o x hx)));have r:=f.o.get 2 rfl |>.cell 0;have bl:=f.o.get 2 rfl |>.lt;simp only[List.getElem?_cons_zero] at r;clear E F hI y;go_wp2_with fail;rotate_left;all_goals
    obtain⟨t,T⟩:=yx (s.heap.size);rw[<- T];obtain⟨w6,H⟩:=yx (s.alloc (.cells #[.bool qi,.slice qc 0 0,.slice qc 0 0] 175));have U:qg s.heap.size s w6:=by rw[H];exact(qe _ _).alloc lr _
    have V:qm (RatAt w6 t 0 1):=vv (by rw[H,T];exact RatAt.zero _ _);have d5:qm (w.heap.size+3<t):=vv (by have:=f.o.get 0 rfl |>.lt;omega);have d6:qm (q<t):=vv (by have:=G.o.lt;omega);have W:=vv (f.o.step U);have b3:=vv (G.o.below U);rw[<- H];clear T H U r bl f G;refine(c8.o _ (HY.o.below W.o.low rfl)).mono ?_;rintro e w7 ⟨g7,rfl,d7,b4,a⟩;have b5:=vv b4;have e3:qm (t<g7):=vv (by have:=V.o.lt;omega);have b6:=vv (V.o.below a);have Z:=vv (W.o.step a);have b7:=vv (b3.o.below a);clear b4 d7 a W b3 V;go_wp2_with fail;refine(d0.o t q g7 _ _ b6.o.sh b7.o b5.o d2.o (Z.o.std d3.o)).mono ?_;rintro e w8 ⟨rfl,hR,y⟩;have b8:=vv hR;have b9:=vv (Z.o.fs y (by intro p j;rw[k0i.1 j];have:=d5.o;show _<=t;omega) (by intro x hx p j;rw[k0i.1 j];have:=b2.o x hx;have:=d6.o;show t≠_;omega));clear hR y Z b6 b7 b5;go_wp2_with fail;refine(d1.o _ _ b8.o).mono ?_;rintro e w9 ⟨X',z,Y',C,rfl,c0,c1,a⟩;have a3:=vv (b9.o.step a);have d8:=vv c0;have d9:=vv c1;clear a c0 c1 b9 b8;have a4:=vv (a3.o.get 1 rfl);obtain⟨c2,a2⟩:=yx (qf (p<0));rw[<- a2];have e0:=vv a2;clear a2;go_wp2_with (with_reducible refine q00 rfl 39 (.tmp 6) (.tmp 44) rfl (w.heap.size+1+1) [.bool c2,.slice X' z z,.slice Y' C C] rfl rfl 39 _ a4.o (by kernel_rfl) rfl rfl ?_);intro e4 a I;have a6:=vv (q0a a3.o.low I a3.o.low.size (by omega));have a7:=vv (d8.o.else_ a4.o rfl I);have a8:=vv (d9.o.else_ a4.o rfl I);obtain⟨M,O,P⟩:=Fms.blk3 a;have K:=vv (And.intro M (And.intro O P));clear a I M O P;go_wp2;obtain⟨M,O,P⟩:=K.o;exact qh (v:=.tuple #[q0i c2 X' z z Y' C C,.int .i64 0]) (by simp [results,results53,go_sem,M,O,P]) rfl ⟨X',z,Y',C,by rw[<- e0.o],a7.o,a8.o,a6.o⟩
theorem q9U(b:Bool)(N M:Nat):sg b N*(M:Int)=sg b (N*M):=by
 cases b
 ·exact(k08 N M).symm
 ·show -(N:Int)*(M:Int) = -((N*M:Nat):Int);rw[k08,k0P]
theorem q6K(k:Nat):t10 (k:Int)=10^k:=rfl
theorem q3D{n:Int}(h:n<=0):t10 n=1:=by unfold t10;rw[show n.toNat=0 by omega]
theorem q4G(N y:Nat):bl (N*10^y)<=bl N+4*y:=q0A (by rw[k0h,k1k];refine k02 (k0E (q0J N) (k1x (by decide))) (k0g _ (k1C (by decide) _)))
theorem q3S(g gx gy y:Nat)(w:qb)(h:IntAt w g 0 0)(hx:IntAt w gx 0 10)(hy:IntAt w gy 0 (y:Int))(h0:0<y)(hb:y<=20000):ql qd 92 #[.pointer (qk ⟨g,0,qc⟩),.pointer (qk ⟨gx,0,qc⟩),.pointer (qk ⟨gy,0,qc⟩),.pointer qc] w (q6m g 0 ((10^y:Nat):Int) w):=A.Exp g 0 gx 0 gy 0 0 10 y w h hx hy (by decide) h0 (by have:=q4G 1 y;rw[k0Q,show bl 1=1 from rfl] at this;unfold Sz;omega) (by unfold Sz;have:bl y<=y:=q0A Nat.lt_two_pow_self;omega)
theorem qaF(neg:Bool)(X:Option qj)(n c:Nat)(Y:Option qj)(m d N D:Nat)(k:Int)(w:qb)(hX:Rd w X n c (toL N))(hY:Rd w Y m d (toL D))(hn:n<=16384)(hm:m<=16384)(hD:0<D)(hg:Nat.gcd N D=1)(hN:0<N)
  (hk1:-20000<=k) (hk2:k<=20000) (hbN:bl N<=400000) (hbD:bl D<=400000) (hst:Std w) :
  ql qd 141 #[q0i neg X n c Y m d,.int .u32 10,.int .i64 k] w (qbW (sg neg (N*t10 k)) (D*t10 (-k)) w):=by
 obtain⟨w0,b7⟩:=yx ((w.alloc (.cells #[.bool neg,.slice X n c,.slice Y m d] 39)).alloc (.cells #[.bool qi,.slice qc 0 0,.slice qc 0 0] 39));have y:Ctx w [(w.heap.size+1,39,[.bool qi,.slice qc 0 0,.slice qc 0 0]),(w.heap.size,39,[.bool neg,.slice X n c,.slice Y m d])] w0:=by rw[b7];exact((Ctx.nil w).new _ _ rfl).new _ _ (by simp)
 have c3:=vv (q9L neg X n c Y m d N D w0 (y.rd hX) (y.rd hY) hn hm hD hg (fun _=>hN) (y.std hst));have f9:=vv fun w=>(Tryz.bits_Len32 10 w (by omega) (by omega))
 have c4:=vv fun g p D' wr (h:RatAt wr g p D') (h1:bl p.natAbs<=524288) (h2:bl D'<=524288)=>qb2 g p D' wr h (k06 (q15 (q1P p D')) h1) (k06 (q15 (k0e _ _)) h2)
 have g0:=vv hst;obtain⟨p,b⟩:=yx (sg neg N);have g1:(p.sign==0)=qi:=by
  rw[k09];have:p≠0:=by rw[b];cases neg<;>simp [sg]<;>omega
  intro e;exact this (Int.sign_eq_zero_iff_zero.1 e)
 have c5:p.natAbs=N:=by rw[b];exact q0z _ _
 rw[<- b] at c3;obtain⟨s,hs⟩:=yx (p.sign);rw[<- hs] at g1;have HS:=vv hs;have HP:=vv b;have b0:=vv c5;have b1:=vv hbN;have b2:=vv hbD;have HD:=vv hD;have HC:=vv y;have HW:=vv b7;have f0:=y.get 1 rfl |>.cell 0;have f1:=y.get 1 rfl |>.cell 1;have f2:=y.get 1 rfl |>.cell 2;have fl:=y.get 1 rfl |>.lt;simp only[List.getElem?_cons_zero,List.getElem?_cons_succ] at f0 f1 f2;clear b7 y hX hY hn hm hD hg hN hbN hbD hst hs b c5;go_enter func141,ntmps141;go_wp2_with fail;rw[<- HW.o];go_wp2_with fail;refine c3.o.mono ?_;rintro e w1 ⟨g,rfl,hg,hR,a⟩;have P:=vv hR;have b8:=vv (HC.o.step a);have F:qm (w.heap.size+1<g):=vv (by have:=HC.o.get 0 rfl |>.lt;omega);clear hg hR a f0 f1 f2 fl HC;by_cases hk0:k=0
 ·subst hk0;go_wp2_with fail;refine(c4.o _ _ _ _ P.o (by rw[b0.o];have:=b1.o;omega) (by have:=b2.o;omega)).mono ?_;rintro e w9 ⟨J,l,L,q,rfl,Q,R,a⟩;have G:=vv (b8.o.step a);have b9:=vv Q;have c0:=vv R;clear a Q R;have H:=vv (G.o.get 0 rfl);obtain⟨S,I⟩:=yx (qf (p<0));rw[<- I];have c1:=vv I;clear I;go_wp2_with (with_reducible refine q00 rfl 39 (.tmp 6) (.tmp 39) rfl (w.heap.size+1) [.bool S,.slice J l l,.slice L q q] rfl rfl 39 _ H.o (by kernel_rfl) rfl rfl ?_);intro g2 a t;have a0:=vv (q0a G.o.low t G.o.low.size (by omega));have a1:=vv (b9.o.else_ H.o rfl t);have a2:=vv (c0.o.else_ H.o rfl t);obtain⟨z,C,E⟩:=Fms.blk3 a;have K:=vv (And.intro z (And.intro C E));clear a t z C E;go_wp2;obtain⟨z,C,E⟩:=K.o;have e1:sg neg (N*t10 0)=p:=by rw[HP.o,show t10 0=1 from rfl,k0A]
  have e2:D*t10 (-0)=D:=by rw[show t10 (-0)=1 from rfl,k0A]
  exact qh (v:=.tuple #[q0i S J l l L q q,.int .i64 0]) (by simp [results,results141,go_sem,z,C,E]) rfl (by rw[e1,e2];exact⟨J,l,L,q,by rw[<- c1.o],a1.o,a2.o,a0.o⟩)
 ·have t0:(k==0)=qi:=by rw[k09];exact hk0
  obtain⟨j,hj⟩:=yx (k.natAbs);have c6:0<j:=by omega
  have c7:j<=20000:=by omega
  have i1:(j:Int)<=20000:=by omega
  have c8:max k (-k)=(j:Int):=by omega
  have HJ:=vv hj;have g5:=vv c6;have T:=vv c7;have g6:=vv c8;have i2:=vv hk0;clear hj c6 c7 hk0 c8;go_wp2_with fail;refine(A.RSign g _ _ _ P.o).mono ?_;rintro e w' ⟨rfl,rfl⟩;rw[<- HS.o];go_wp2_with fail;refine(f9.o _).mono ?_;rintro e O ⟨rfl,hw⟩;subst hw;rw[show Lib.bitLen (10:Int).toNat=4 from by kernel_rfl];go_wp2_with fail;obtain⟨f,U⟩:=yx (O.heap.size);rw[<- U];obtain⟨w2,V⟩:=yx ((O.alloc (.cells #[.bool qi,.slice qc 0 0,.slice qc 0 0] 175)).alloc (.cells #[.bool qi,.slice qc 0 0] 142));have c2:qg O.heap.size O w2:=by rw[V];exact((qe _ _).alloc lr _).alloc (by simp) _
  have c9:qm (RatAt w2 f 0 1):=vv (by rw[V,U];exact(RatAt.zero O _).below ((qe _ _).alloc lr _));have d0:qm (IntAt w2 (f+1) 0 0):=vv (by
   rw[V,U];have:=IntAt.zero (O.alloc (.cells #[.bool qi,.slice qc 0 0,.slice qc 0 0] 175)) 142
   rwa [World.size_alloc] at this)
  have u:qm (g<f):=vv (by rw[U];exact P.o.lt);have d1:=vv (b8.o.step c2);have d2:=vv (P.o.below c2);rw[<- V];clear U V c2 P b8;refine(A.NewInt 10 w2 (by omega) (by omega)).mono ?_;rintro e w3 ⟨g3,rfl,g7,d3,a⟩;have d4:=vv d3;have d5:=vv (c9.o.below a);have d6:=vv (d0.o.below a);have d7:=vv (d1.o.step a);have d8:=vv (d2.o.below a);clear g7 d3 a c9 d0 d1 d2;go_wp2_with fail;rw[g6.o];refine(A.NewInt (j:Int) w3 (by omega) (by omega)).mono ?_;rintro e w4 ⟨g4,rfl,g8,d9,a⟩;have e0:=vv d9;have e3:=vv (d4.o.below a);have e4:=vv (d5.o.below a);have e5:=vv (d6.o.below a);have e6:=vv (d7.o.step a);have e7:=vv (d8.o.below a);clear g8 d9 a d4 d5 d6 d7 d8;go_wp2_with fail;refine(q3S (f+1) g3 g4 j w4 e5.o e3.o e0.o g5.o T.o).mono ?_;rintro e w5 r;have i:=r.2.2;have e8:=vv (e4.o.fs1 i (by omega));have e9:=vv (e7.o.fs1 i (by have:=u.o;omega));have f3:=vv (e6.o.fs i (by intro p b;rw[k0i.1 b];have:=u.o;have:=F.o;show _<=f+1;omega) (by intro x hx p b;rw[k0i.1 b];have:=u.o;have:=F.o;simp only[k1b,k1h,k2G] at hx;rcases hx with rfl|rfl<;>show f+1≠_<;>omega));obtain⟨rfl,f4,-⟩:=r;have f5:=vv f4;clear i f4 e5 e3 e0 e4 e6 e7;go_wp2_with fail;refine(A.SetInt f (f+1) _ w5 e8.o.sh f5.o).mono ?_;rintro e w6 r;have i:=r.2.2;have b3:=vv (e9.o.fs1 i (by have:=u.o;omega));have b4:=vv (f3.o.fs i (by intro p b;rw[k0i.1 b];have:=u.o;have:=F.o;show _<=f;omega) (by intro x hx p b;rw[k0i.1 b];have:=u.o;have:=F.o;simp only[k1b,k1h,k2G] at hx;rcases hx with rfl|rfl<;>show f≠_<;>omega));obtain⟨rfl,f6,-⟩:=r;have W:=vv f6;clear i f6 e8 f5 f3 e9;by_cases hlt:k<0;have Z:t10 k=1:=q3D (by omega);have a3:t10 (-k)=10^j:=by rw[show -k=(j:Int) by have:=HJ.o;omega,q6K]
  have a4:=vv (And.intro Z a3);clear Z a3;go_wp2_with fail;refine(A.Inv f f (10^j) 1 w6 W.o.sh W.o (k1x (by decide))).mono ?_;rintro e w7 r;have i:=r.2.2;have b5:=vv (b3.o.fs1 i (by have:=u.o;omega));have b6:=vv (b4.o.fs i (by intro p b;rw[k0i.1 b];have:=u.o;have:=F.o;show _<=f;omega) (by intro x hx p b;rw[k0i.1 b];have:=u.o;have:=F.o;simp only[k1b,k1h,k2G] at hx;rcases hx with rfl|rfl<;>show f≠_<;>omega));obtain⟨rfl,f7,-⟩:=r;have a5:qm (RatAt w7 f ((1:Nat):Int) (10^j)):=vv f7;clear i f7 b3 b4 W;have a6:qm (bl ((1:Nat):Int).natAbs<=90000/\bl (10^j)<=90000):=vv ⟨by decide,by have:=q4G 1 j;rw[k0Q,show bl 1=1 from rfl] at this;have:=T.o;omega⟩;have HE:qm (sg neg (N*t10 k)=p*((1:Nat):Int)/\D*t10 (-k)=D*10^j):=vv ⟨by rw[a4.o.1,HP.o,k0A];omega,by rw[a4.o.2]⟩;have a7:qm (bl (p*((1:Nat):Int)).natAbs<=524288/\bl (D*10^j)<=524288):=vv ⟨by rw[Int.natCast_one,k2Q,b0.o];have:=b1.o;omega,by have:=q4G D j;have:=b2.o;have:=T.o;omega⟩;obtain⟨M,a8⟩:∃M:Int,M=((1:Nat):Int):=⟨_,rfl⟩;obtain⟨Dn,a9⟩:=yx (10^j);rw[<- a8,<- a9] at HE a7 a5 a6;clear a8 a9;go_wp2_with fail;rotate_left;have Z:t10 k=10^j:=by rw[show k=(j:Int) by have:=HJ.o;omega,q6K]
  have a3:t10 (-k)=1:=q3D (by omega);have a4:=vv (And.intro Z a3);clear Z a3;obtain⟨w7,rfl⟩:=yx (w6);have b5:=b3;have b6:=b4;have a5:qm (RatAt w7 f ((10^j:Nat):Int) 1):=W;clear b3 b4 W;have a6:qm (bl ((10^j:Nat):Int).natAbs<=90000/\bl 1<=90000):=vv ⟨by rw[k05];have:=q4G 1 j;rw[k0Q,show bl 1=1 from rfl] at this;have:=T.o;omega,by decide⟩;have HE:qm (sg neg (N*t10 k)=p*((10^j:Nat):Int)/\D*t10 (-k)=D*1):=vv ⟨by rw[a4.o.1,HP.o,q9U],by rw[a4.o.2]⟩;have a7:qm (bl (p*((10^j:Nat):Int)).natAbs<=524288/\bl (D*1)<=524288):=vv ⟨by rw[k0B,k05,b0.o];have:=q4G N j;have:=b1.o;have:=T.o;omega,by rw[k0A];have:=b2.o;omega⟩;obtain⟨M,a8⟩:∃M:Int,M=((10^j:Nat):Int):=⟨_,rfl⟩;obtain⟨Dn,a9⟩:∃Dn:Nat,Dn=1:=⟨_,rfl⟩;rw[<- a8,<- a9] at HE a7 a5 a6;clear a8 a9;go_wp2_with fail;rotate_left;all_goals
   refine(A.MulR g g f p M D Dn w7 b5.o.sh b5.o a5.o (b6.o.std g0.o) (by unfold Sz;rw[b0.o];have:=b1.o;omega) (by unfold Sz;have:=b2.o;omega) (by unfold Sz;have:=a6.o.1;omega) (by unfold Sz;have:=a6.o.2;omega)).mono ?_;rintro e w8 r;have i:=r.2.2;have g9:=vv (b6.o.fs i (by intro p b;rw[k0i.1 b];have:=F.o;show _<=g;omega) (by intro x hx p b;rw[k0i.1 b];have:=F.o;simp only[k1b,k1h,k2G] at hx;rcases hx with rfl|rfl<;>show g≠_<;>omega));obtain⟨rfl,f8,-⟩:=r;have i0:=vv f8;clear i f8 b6 b5 a5;go_wp2_with fail;refine(c4.o _ _ _ _ i0.o a7.o.1 a7.o.2).mono ?_;rintro e w9 ⟨J,l,L,q,rfl,Q,R,a⟩;have G:=vv (g9.o.step a);have b9:=vv Q;have c0:=vv R;clear a Q R;have H:=vv (G.o.get 0 rfl);obtain⟨S,I⟩:=yx (qf (p*M<0));rw[<- I];have c1:=vv I;clear I;go_wp2_with (with_reducible refine q00 rfl 39 (.tmp 6) (.tmp 86) rfl (w.heap.size+1) [.bool S,.slice J l l,.slice L q q] rfl rfl 39 _ H.o (by kernel_rfl) rfl rfl ?_);intro g2 a t;have a0:=vv (q0a G.o.low t G.o.low.size (by omega));have a1:=vv (b9.o.else_ H.o rfl t);have a2:=vv (c0.o.else_ H.o rfl t);obtain⟨z,C,E⟩:=Fms.blk3 a;have K:=vv (And.intro z (And.intro C E));clear a t z C E;go_wp2;obtain⟨z,C,E⟩:=K.o;exact qh (v:=.tuple #[q0i S J l l L q q,.int .i64 0]) (by simp [results,results141,go_sem,z,C,E]) rfl (by rw[HE.o.1,HE.o.2];exact⟨J,l,L,q,by rw[<- c1.o],a1.o,a2.o,a0.o⟩)
end Rtp
namespace A
open AB
open Go Go.RowKit Scn
def qdY(w:qb)(R:Nat)(i:Value)(wr:qb):Prop:=
 ∃k:Nat,k<=1/\i=.int .i64 (k:Int)/\Own wr w.heap.size 54 [if k=0 then 0 else R]/\qg w.heap.size w wr
end A
namespace A
open AB
open Go Go.RowKit Scn
def qdu(g o:Nat)(u:Int)(B:Nat)(w:qb)(e:Ending)(w':qb):Prop:=
 q0B g o u w e w'/\∃A n c,w'.cell? ⟨g,o+1,qc⟩=qk (.slice A n c)/\Fr B A
def qcZ(g o:Nat)(u:Int)(w:qb)(e:Ending)(w':qb):Prop:=qdu g o u w.heap.size w e w'
end A
namespace Rnd
open Go Go.RowKit R5 Scn
theorem Rd.row{A:Option qj}{xs:List Nat}{row:Option Nat}(h:Rd w A n c xs)(hg:w.grownBy w' row)(hne:∀a,A=qk a->row≠qk a.block):Rd w' A n c xs:=⟨h.len,h.le,h.sm,h.lim,fun hn=>by obtain⟨b,off,e,hlt,hc⟩:=h.cell hn;exact⟨b,off,e,k02 hlt hg.size,fun j hj=>(World.cell?_of_block (a:=⟨b,off+j,qc⟩) (hg.block b hlt (fun k=>hne _ e k.symm))).trans (hc j hj)⟩⟩
def q4d(wr:qb)(g:Nat)(X:Nat)(row:Option Nat):Prop:=IntAt wr g 0 (X:Int)/\∃A n c,wr.cell? ⟨g,0+1,qc⟩=qk (.slice A n c)/\∀a,A=qk a->row≠qk a.block
theorem q4d.below{row:Option Nat}(h:q4d w g X row)(hb:qg w.heap.size w w'):q4d w' g X row:=by obtain⟨a,A,n,c,b,d⟩:=h;exact⟨a.below hb,A,n,c,(hb.cell (p:=⟨g,0+1,qc⟩) a.lt).trans b,d⟩
theorem q4d.grown{row:Option Nat}(h:q4d w g X row)(hg:w.grownBy w' row)(hne:row≠qk g):IntAt w' g 0 (X:Int):=by obtain⟨b,A,n,c,e,i⟩:=h;obtain⟨p,q,r,l,f,m,o⟩:=b.ex;rw[e] at f;cases f;have d:w'.heap[g]?=w.heap[g]?:=hg.block g b.lt (fun k=>hne k.symm);obtain⟨x,hx⟩:=b.head;exact⟨k02 b.lt hg.size,⟨x,(World.cell?_of_block (a:=⟨g,0,qc⟩) d).trans hx⟩,fun j=>(World.frozen?_of_block (a:=⟨g,j,qc⟩) d).trans (b.fz j),A,n,c,(World.cell?_of_block (a:=⟨g,0,qc⟩) d).trans l,(World.cell?_of_block (a:=⟨g,0+1,qc⟩) d).trans e,Rd.row m hg i,o⟩
theorem q4d.fs{g':Nat}{row:Option Nat}(h:q4d w g X row)(hf:Fs [(g',0,2)] w w')(hne:g'≠g):q4d w' g X row:=by obtain⟨a,A,n,c,b,d⟩:=h;exact⟨a.fs1 hf hne,A,n,c,(hf.cell g (0+1) a.lt (fun p hp e=>by rw[k0i.1 hp] at e;exact absurd e hne)).trans b,d⟩
def LmI(w:qb)(N:Nat)(v:Value)(wr:qb):Prop:=
 ∃(k:Nat),k<=words N/\(∃A cap,v=.slice A k cap)/\q4d wr (w.heap.size+1) (N/4294967296^k) v.ownBlock/\wr.ownsRow (w.heap.size+2) 54 1 v k (q0q ((toL N).take k)) /\Ctx w [(w.heap.size,37,[.slice qc 0 0])] wr/\w.heap.size+2<=wr.heap.size
def qd3(N:Nat)(w:qb)(e:Ending)(w':qb):Prop:=∃A n c,e=.returned (q0I A n c)/\Rd w' A n c (toL N)/\Fr w.heap.size A/\qg w.heap.size w w'
def lmM(N:Nat)(v:Value):Nat:=match v with|.slice _ n _=>words N-n|_=>0
end Rnd
namespace Rtp
open Go Go.RowKit R5 Scn
end Rtp
namespace Rnd
open Go Go.RowKit R5 Scn
def WlP(neg:Bool)(q:Nat)(same:Bool)(w:qb)(e:Ending)(w':qb):Prop:=
 ∃A n c,e=.returned (.tuple #[.bool (neg && qf (0<q)),q0I A n c,.bool same,.int .i64 0])/\Rd w' A n c (toL q)/\Fr w.heap.size A/\qg w.heap.size w w'
end Rnd
namespace Hx
open Go Go.RowKit R5 Scn Fms Exa
def qaK(N places:Nat):Int:=4*(places:Int)-((bl N:Int)-1)
def qcp(g:Bool)(N mode places:Nat):Nat:=rnd g mode (N*p2 (qaK N places)) (p2 (-qaK N places))
def qdD(neg g:Bool)(N:Nat)(x:Int)(mode places:Nat):List UInt8:=
 if N=0 then qaW neg (hexL 0 (places+1)) 0 else
 if 4*places+1<bl (qcp g N mode places) then qaW neg (hexL (qcp g N mode places/2) (places+1)) (x+(bl N:Int)-1+1)
 else qaW neg (hexL (qcp g N mode places) (places+1)) (x+(bl N:Int)-1)
def RtP(g:Bool)(N D:Nat)(w:qb)(e:Ending)(w':qb):Prop:=
 ∃X n Y m,e=.returned (.tuple #[q0i g X n n Y m m,.int .i64 0])/\Rd w' X n n (toL N)/\Rd w' Y m m (toL D)/\n<=16384/\m<=16384/\qg w.heap.size w w'
theorem q5s{A:Option qj}(h:Rd w A n c (toL N))(hb:bl N<=32000):n<=16384:=by obtain⟨k,a⟩:=yx (1000);have:=h.bound (k:=k) (by rw[q1q];exact k02 (q0J N) (k04 (by decide) (by omega)));omega
def qdC(N places:Nat):Nat:=(lp ((N*p2 (qaK N places):Nat):Int) (p2 (-qaK N places))).natAbs
def qdE(N places:Nat):Nat:=ld ((N*p2 (qaK N places):Nat):Int) (p2 (-qaK N places))
theorem bl_p2(z:Int):bl (p2 z)<=z.toNat+1:=q0A (k1P (by decide) (Nat.lt_succ_self _))
end Hx
namespace Exa
open Go Go.RowKit R5 Scn Hx
def qaJ(g:Bool)(N:Nat):Int:=if N=0 then 0 else if g then -1 else 1
def qdV(g:Bool)(N:Nat)(x:Int)(h:Bool)(M:Nat)(y:Int):Int:=
 if qaJ g N≠qaJ h M\/qaJ g N=0 then max (-1) (min 1 (qaJ g N-qaJ h M)) else qaJ g N*q0F (N*p2 (x-y)) (M*p2 (y-x))
abbrev two(w:qb)(g:Bool)(A:Option qj)(n c:Nat)(x:Int)(h:Bool)(B:Option qj)(m d:Nat)(y:Int):List q33:=
 [(w.heap.size+1,62,[.bool h,.slice B m d,.int .i64 y]),(w.heap.size,62,[.bool g,.slice A n c,.int .i64 x])]
theorem q5j(w:qb)(g:Bool)(A:Option qj)(n c:Nat)(x:Int)(h:Bool)(B:Option qj)(m d:Nat)(y:Int):Ctx w (two w g A n c x h B m d y) ((w.alloc (.cells #[.bool g,.slice A n c,.int .i64 x] 62)).alloc (.cells #[.bool h,.slice B m d,.int .i64 y] 62)):=((Ctx.nil w).new _ [.bool g,.slice A n c,.int .i64 x] rfl).new _ [.bool h,.slice B m d,.int .i64 y] (by simp)
theorem qcE(g:Bool)(A:Option qj)(n c N:Nat)(x:Int)(h:Bool)(B:Option qj)(m d M:Nat)(y:Int)(w:qb)(ha:Rd w A n c (toL N))(hb:Rd w B m d (toL M))
  (ea:q1i g n (toL N) x=0) (eb:q1i h m (toL M) y=0) :
  ql qd 216 #[q14 g A n c x,q14 h B m d y] w fun e w'=>e=.returned (.int .i64 0)/\qg w.heap.size w w':=by
 have j:=vv fun w' (a:qg w.heap.size w w')=>Check g A n c (toL N) x w' (ha.below a rfl)
 have k:=vv fun w' (a:qg w.heap.size w w')=>Check h B m d (toL M) y w' (hb.below a rfl)
 rw[ea] at j;rw[eb] at k;have i:=q5j w g A n c x h B m d y;obtain⟨u,f⟩:=yx ((w.alloc (.cells #[.bool g,.slice A n c,.int .i64 x] 62)).alloc (.cells #[.bool h,.slice B m d,.int .i64 y] 62));rw[<- f] at i;have q:=vv f;have l:=vv i;clear f i ha hb ea eb;go_enter func216,ntmps216;go_wp2_with fail;rw[<- q.o];refine(j.o _ l.o.low).mono ?_;rintro e v ⟨rfl,a⟩;have b:=vv (l.o.step a);clear a;have r:=b.o.get 0 rfl |>.cell 0;have s:=b.o.get 0 rfl |>.cell 1;have t:=b.o.get 0 rfl |>.cell 2;have z:=b.o.get 0 rfl |>.lt;simp only[List.getElem?_cons_zero,List.getElem?_cons_succ] at r s t;go_wp2_with fail;refine(k.o _ b.o.low).mono ?_;rintro e C ⟨rfl,a⟩;have p:=vv (b.o.step a);clear a;go_wp2;go_ret;exact⟨rfl,p.o.low⟩
def LvP(N M:Nat)(z:Int)(w:qb)(e:Ending)(w':qb):Prop:=
 ∃A n B m,e=.returned (.tuple #[q0I A n n,q0I B m m,.int .i64 z,.int .i64 0])/\Rd w' A n n (toL N)/\Rd w' B m m (toL M)/\n<=16384/\m<=16384/\qg w.heap.size w w'
theorem q2X{z:Int}(h:bl N<=100)(hz:z<=20000):bl (N*p2 z)<=32000:=by have a:=q0H N (p2 z);have b:=Hx.bl_p2 z;omega
theorem q8h{A:Option qj}(z:Int)(ha:Rd w A n c (toL N))(hn:n<=16384)(h:bl N<=100)(h0:0<=z)(hz:z<=20000):ql qd 67 #[q0I A n c,.int .i64 z] w (Pnt.NatP (N*p2 z) w):=by obtain⟨k,rfl⟩:∃k:Nat,z=k:=⟨z.toNat,by omega⟩;rw[q1s];exact Pnt.Up A n c N k w ha hn (by omega)
theorem ne3(n:Nat):(qk (n+1+1+1):Option Nat)≠qk (n+1+1):=by intro e;injection e;omega
theorem ne2(n:Nat):(qk (n+1+1):Option Nat)≠qk (n+1+1+1):=by intro e;injection e;omega
theorem qbA(g:Bool)(A:Option qj)(n c N:Nat)(x:Int)(h:Bool)(B:Option qj)(m d M:Nat)(y:Int)(w:qb)(ha:Rd w A n c (toL N))(hb:Rd w B m d (toL M))(hn:n<=16384)(hm:m<=16384)
  (bN:bl N<=100) (bM:bl M<=100) (x1:-10000<=x) (x2:x<=10000) (y1:-10000<=y) (y2:y<=10000) :
  ql qd 218 #[q14 g A n c x,q14 h B m d y] w (LvP (N*p2 (x-y)) (M*p2 (y-x)) (min x y) w):=by
 have s1:=q2X (N:=N) (z:=x-y) bN (by omega);have s2:=q2X (N:=M) (z:=y-x) bM (by omega);have U:=q5j w g A n c x h B m d y;obtain⟨w0,L⟩:=yx ((((w.alloc (.cells #[.bool g,.slice A n c,.int .i64 x] 62)).alloc (.cells #[.bool h,.slice B m d,.int .i64 y] 62)).alloc (.cells #[.slice qc 0 0] 37)).alloc (.cells #[.slice qc 0 0] 37));have C:Ctx w ((w.heap.size+1+1+1,37,[.slice qc 0 0])::(w.heap.size+1+1,37,[.slice qc 0 0])::two w g A n c x h B m d y) w0:=by rw[L];exact(U.new _ [.slice qc 0 0] (by simp)).new _ [.slice qc 0 0] (by simp)
 have HW:=vv L;have S:=vv C;have I:=vv (And.intro s1 s2);have V:qm (∀w',qg w.heap.size w w'->ql qd 67 #[q0I A n c,.int .i64 (x-min x y)] w' (Pnt.NatP (N*p2 (x-y)) w')):=vv fun w' f=>by
  have:=q8h (x-min x y) (ha.below f rfl) hn bN (by omega) (by omega)
  rwa [show p2 (x-min x y)=p2 (x-y) by unfold p2;congr 1;omega] at this
 have W:qm (∀w',qg w.heap.size w w'->ql qd 67 #[q0I B m d,.int .i64 (y-min x y)] w' (Pnt.NatP (M*p2 (y-x)) w')):=vv fun w' f=>by
  have:=q8h (y-min x y) (hb.below f rfl) hm bM (by omega) (by omega)
  rwa [show p2 (y-min x y)=p2 (y-x) by unfold p2;congr 1;omega] at this
 obtain⟨P,hP⟩:=yx (N*p2 (x-y));obtain⟨Q,hQ⟩:=yx (M*p2 (y-x));rw[<- hP] at V I ⊢;rw[<- hQ] at W I ⊢;have F:=C.get 2 rfl |>.cell 2;have c5:=C.get 3 rfl |>.cell 2;have T:=C.get 2 rfl |>.lt;have a8:=C.get 3 rfl |>.lt;simp only[List.getElem?_cons_zero,List.getElem?_cons_succ] at F c5;clear L C U ha hb hn hm bN bM s1 s2 hP hQ;go_enter func218,ntmps218;go_wp2_with fail;rw[<- HW.o];go_wp2_with fail;refine(V.o _ S.o.low).mono ?_;rintro e w1 ⟨k,a,rfl,D,-,f⟩;have O:=vv (S.o.step f);have X:=vv D;clear f D F c5 T a8 S;have q:qm (Blk w1 (w.heap.size+1+1) 37 [.slice qc 0 0]):=vv (O.o.get 1 rfl);go_wp2_with (with_reducible refine q00 rfl 37 (.tmp 4) (.tmp 21) rfl (w.heap.size+1+1) [.slice k a a] rfl rfl 37 _ q.o (by kernel_rfl) rfl rfl ?_);intro w2 f r;have Y:=vv (X.o.else_ q.o rfl r);have u:=vv (O.o.put 1 rfl (fun j x hj hx=>by
  match j,hj with
  | 0,_=>cases hx;show(_:Nat)≠_;omega
  | 2,_=>cases hx;show(_:Nat)≠_;omega
  | 3,_=>cases hx;show(_:Nat)≠_;omega
  | j+4,_=>cases hx) (by omega) f r)
 clear f r q O X;have c1:=u.o.get 2 rfl |>.cell 1;have F:=u.o.get 2 rfl |>.cell 2;have T:=u.o.get 2 rfl |>.lt;simp only[List.getElem?_cons_zero,List.getElem?_cons_succ] at c1 F;go_wp2_with fail;refine(W.o _ u.o.low).mono ?_;rintro e w3 ⟨l,b,rfl,E,-,f⟩;have R:=vv (u.o.step f);have Z:=vv (Y.o.below f rfl);have a0:=vv E;have q:qm (Blk w3 (w.heap.size+1+1+1) 37 [.slice qc 0 0]):=vv (R.o.get 0 rfl);clear f E c1 F T u Y;go_wp2_with (with_reducible refine q00 rfl 37 (.tmp 5) (.tmp 33) rfl (w.heap.size+1+1+1) [.slice l b b] rfl rfl 37 _ q.o (by kernel_rfl) rfl rfl ?_);intro G f r;have a1:=vv (Z.o.else_ q.o rfl r);have a2:=vv (a0.o.else_ q.o rfl r);have i:=vv (R.o.put 0 rfl (fun j x hj hx=>by
  match j,hj with
  | 1,_=>cases hx;show(_:Nat)≠_;omega
  | 2,_=>cases hx;show(_:Nat)≠_;omega
  | 3,_=>cases hx;show(_:Nat)≠_;omega
  | j+4,_=>cases hx) (by omega) f r)
 clear f r q R Z a0;have d0:=i.o.get 1 rfl |>.cell 0;have dl:=i.o.get 1 rfl |>.lt;have df:=i.o.get 1 rfl |>.fz 0;have e0:=i.o.get 0 rfl |>.cell 0;have el:=i.o.get 0 rfl |>.lt;have ef:=i.o.get 0 rfl |>.fz 0;simp only[List.getElem?_cons_zero,List.getElem?_cons_succ] at d0 e0;go_wp2_with fail;go_region;obtain⟨H,s⟩:=yx (((G.setCell ⟨w.heap.size+1+1,0,qc⟩ (.slice k a a)).setCell ⟨w.heap.size+1+1+1,0,qc⟩ (.slice l b b)).drew);have a3:qg w.heap.size w H:=by rw[s];exact q05 ((i.o.low.setCell (p:=⟨w.heap.size+1+1,0,qc⟩) (by show _<=w.heap.size+1+1;omega) _).setCell (p:=⟨w.heap.size+1+1+1,0,qc⟩) (by show _<=w.heap.size+1+1+1;omega) _)
 have a4:Rd H k a a (toL P):=by rw[s];have D:=a1.o.else_ (w':=G.setCell ⟨w.heap.size+1+1,0,qc⟩ (.slice k a a)) (i.o.get 1 rfl) rfl (Go.Proofs.YtabcgemembkkcaaGreatDoor.only_setCell (qa _ _) (.inl rfl) _);have E:=D.else_ (w':=(G.setCell ⟨w.heap.size+1+1,0,qc⟩ (.slice k a a)).setCell ⟨w.heap.size+1+1+1,0,qc⟩ (.slice l b b)) (g:=w.heap.size+1+1+1) (t:=37) (cs:=[.slice l b b]) (by refine(i.o.get 0 rfl).grown (Go.Proofs.YtabcgemembkkcaaGreatDoor.only_setCell (qa _ _) (.inl rfl) _) ?_;first|exact ne3 _|exact ne2 _) rfl (Go.Proofs.YtabcgemembkkcaaGreatDoor.only_setCell (qa _ _) (.inl rfl) _);exact E.drew
 have a5:Rd H l b b (toL Q):=by rw[s];have D:=a2.o.else_ (w':=G.setCell ⟨w.heap.size+1+1,0,qc⟩ (.slice k a a)) (i.o.get 1 rfl) rfl (Go.Proofs.YtabcgemembkkcaaGreatDoor.only_setCell (qa _ _) (.inl rfl) _);have E:=D.else_ (w':=(G.setCell ⟨w.heap.size+1+1,0,qc⟩ (.slice k a a)).setCell ⟨w.heap.size+1+1+1,0,qc⟩ (.slice l b b)) (g:=w.heap.size+1+1+1) (t:=37) (cs:=[.slice l b b]) (by refine(i.o.get 0 rfl).grown (Go.Proofs.YtabcgemembkkcaaGreatDoor.only_setCell (qa _ _) (.inl rfl) _) ?_;first|exact ne3 _|exact ne2 _) rfl (Go.Proofs.YtabcgemembkkcaaGreatDoor.only_setCell (qa _ _) (.inl rfl) _);exact E.drew
 have J:H.cell? ⟨w.heap.size+1+1,0,qc⟩=qk (.slice k a a):=by rw[s];exact(((i.o.get 1 rfl).set 0 (.slice k a a)).grown (Go.Proofs.YtabcgemembkkcaaGreatDoor.only_setCell (qa _ _) (.inl rfl) _) (by first|exact ne3 _|exact ne2 _)).cell 0
 have K:H.cell? ⟨w.heap.size+1+1+1,0,qc⟩=qk (.slice l b b):=by rw[s];exact(((i.o.get 0 rfl).grown (Go.Proofs.YtabcgemembkkcaaGreatDoor.only_setCell (qa _ _) (.inl rfl) _) (by first|exact ne3 _|exact ne2 _)).set 0 (.slice l b b)).cell 0
 have HK:=vv (And.intro J K);have a6:=vv a4;have a7:=vv a5;have a9:=vv a3;rw[<- s];clear s a4 a5 a3 J K d0 dl df e0 el ef i a1 a2;go_wp2;obtain⟨J,K⟩:=HK.o;exact qh (v:=.tuple #[q0I k a a,q0I l b b,.int .i64 (min x y),.int .i64 0]) (by simp [results,results218,go_sem,J,K]) rfl ⟨k,a,l,b,rfl,a6.o,a7.o,q5s a6.o I.o.1,q5s a7.o I.o.2,a9.o⟩
end Exa
end Go.Proofs.YtabcgemembkkcaaGreatDoor
