/- Lemmas. -/
import Derived.Test.YtabcgemembkkcaaGreatDoorMirrBC
set_option linter.all false
set_option maxHeartbeats 8000000
set_option maxRecDepth 100000
open Go.Proofs.Tryz
open Go renaming RowKit.Below.refl->qa,IntWalk.i64_in->qh,IntKind.wrap_u64->qi,World->qk,Addr->qm,Calls->qn,IntKind.wrap_i64->qo,heap_alloc_new->qp
open Option renaming none->qb,some->qe
open Decidable renaming decide->qc
open Go.RowKit renaming Below->qd,Hid->qf
open Bool renaming false->qg,true->ql
open Go.Proofs.Tryz renaming prog->qj
namespace Go.Proofs.YtabcgemembkkcaaGreatDoor.Rnd
open Go Go.RowKit R5
theorem q67(a b:Nat):(bl a:Int)-bl b-1<=q1p a b/\q1p a b<=(bl a:Int)-bl b:=by unfold q1p;split<;>omega
theorem bl_p2(a:Nat)(s:Int):bl (a*p2 s)<=bl a+s.toNat+1:=by have b:=q0H a (p2 s);have c:bl (p2 s)<=s.toNat+1:=q0A (by unfold p2;exact k1P (by omega) (by omega));omega
theorem q8r{a:Nat}{s:Int}(h:Sm a)(hs:s<=100000000000):Sz (a*p2 s):=by have:=bl_p2 a s;unfold Sm at h;unfold Sz;omega
theorem qb4(gn on gd od a b G F:Nat)(neg:Bool)(mode:Nat)(w:qk)(hn:IntAt w gn on (a:Int))(hd:IntAt w gd od (b:Int))(ha:0<a)(hb0:0<b)(sa:Sm a)(sb:Sm b)(g1:1<=G)(g2:G<=10)(h3:1<=F)(h4:F<=52)(hm:mode<=4):qn qj 183 #[q66 gn on gd od,fm ((G:Int)+1) F,.bool neg,.int .u8 (mode:Int)] w (qc5 0 (out (G+1) F neg mode a b) w):=by
 have a8:Sz a:=by unfold Sm at sa;unfold Sz;omega
 have a9:Sz b:=by unfold Sm at sb;unfold Sz;omega
 obtain⟨B,R⟩:∃B:Int,B=q12 (G+1):=⟨_,rfl⟩;obtain⟨e,H⟩:∃e:Int,e=q1p a b:=⟨_,rfl⟩;have f3:=vv fun g (h:IntAt g gn on (a:Int)) (h':IntAt g gd od (b:Int))=>log gn on gd od a b g h h' a8 a9
 rw[<- H] at f3;have hr:=q67 a b;rw[<- H] at hr;have i5:bl a<=4294967296:=sa;have i6:bl b<=4294967296:=sb;have e1:e<=4294967296:=by omega
 have e2:-4294967297<=e:=by omega
 have i7:=q5Q (E:=G+1) (by omega);have i8:=q7P (E:=G+1) (by omega);rw[<- R] at i7 i8;have y:(2:Int)^G=B+1:=by rw[R];unfold q12;rw[k1d];omega
 have n1:IntKind.i64.wrap ((2:Int)^G)=B+1:=by rw[y];exact qh _ (by omega)
 have o0:=(qa w.heap.size w).alloc (o:=.cells #[.pointer (qe ⟨gn,on,qb⟩),.pointer (qe ⟨gd,od,qb⟩)] 140) lr;have T:=NbBox.made w gn on gd od 140;obtain⟨w0,c8⟩:=yx (w.alloc (.cells #[.pointer (qe ⟨gn,on,qb⟩),.pointer (qe ⟨gd,od,qb⟩)] 140));rw[<- c8] at o0 T;have s0:w0.heap.size=w.heap.size+1:=by rw[c8];simp
 have r:=(qa w0.heap.size w0).alloc (o:=.cells #[.int .i64 ((G:Int)+1),.int .i64 (F:Int)] 23) lr;have J:=FmAt.made w0 ((G:Int)+1) (F:Int) 23;obtain⟨w1,d3⟩:=yx (w0.alloc (.cells #[.int .i64 ((G:Int)+1),.int .i64 (F:Int)] 23));rw[<- d3] at r J;rw[s0] at J;have b1:qd w.heap.size w w1:=o0.trans (r.mono (by omega));have u:=vv (T.below r);have c:=vv J;have f:=vv b1;have z:=vv (hn.below b1);have C:=vv (hd.below b1);have i9:qf (w1=(w.alloc (.cells #[.pointer (qe ⟨gn,on,qb⟩),.pointer (qe ⟨gd,od,qb⟩)] 140)).alloc (.cells #[.int .i64 ((G:Int)+1),.int .i64 (F:Int)] 23)):=vv (by rw[d3,c8]);obtain⟨low,b0⟩:∃l:Int,max e (1-B)=l:=⟨_,rfl⟩;have l1:low<=4294967296:=by omega
 have l2:-1023<=low:=by omega
 have c4:qf (q21 (G+1) a b=low):=vv (by unfold q21;rw[<- H,<- R];exact b0);obtain⟨s,hs⟩:∃s:Int,(F:Int)-low=s:=⟨_,rfl⟩;have k1:s<=1100:=by omega
 have k2:-4294967296<=s:=by omega
 have HT:=vv fun g (h:IntAt g gn on (a:Int)) (h':IntAt g gd od (b:Int))=>q4S gn on gd od a b s g h h' a8 a9 (by omega) (by omega)
 obtain⟨X,hX⟩:=yx (a*p2 s);obtain⟨Y,hY⟩:=yx (b*p2 (-s));have f4:0<Y:=by rw[hY];exact k0l hb0 (q0L _)
 have sX:Sz X:=by rw[hX];exact q8r sa (by omega)
 have sY:Sz Y:=by rw[hY];exact q8r sb (by omega)
 simp only[<- hX,<- hY] at HT;have f5:=vv fun g g1 r g2 U (h:IntAt g g1 r (X:Int)) (h':IntAt g g2 U (Y:Int))=>q3v g1 r g2 U X Y neg mode g h h' f4 sX sY hm
 have c9:qf (q4L (G+1) F neg mode a b=rnd neg mode X Y):=vv (by
  have el:q21 (G+1) a b=low:=by unfold q21;rw[<- H,<- R];exact b0
  unfold q4L;rw[el,hs,hX,hY,show low-(F:Int) = -s by omega])
 have j0:qf (q6Z (G+1) F a b=X%Y):=vv (by
  have el:q21 (G+1) a b=low:=by unfold q21;rw[<- H,<- R];exact b0
  unfold q6Z;rw[el,hs,hX,hY,show low-(F:Int) = -s by omega])
 obtain⟨m,d4⟩:=yx (rnd neg mode X Y);obtain⟨same,d5⟩:=yx (qc (X%Y=0));simp only[<- d4,<- d5] at f5;rw[<- d4] at c9;have f6:=vv d5;obtain⟨s2,e0⟩:∃s:Int,(F:Int)-e=s:=⟨_,rfl⟩;have k3:s2<=4294967400:=by omega
 have k4:-4294967296<=s2:=by omega
 have f7:=vv fun g (h:IntAt g gn on (a:Int)) (h':IntAt g gd od (b:Int))=>q4S gn on gd od a b s2 g h h' a8 a9 (by omega) (by omega)
 obtain⟨X2,d0⟩:=yx (a*p2 s2);obtain⟨Y2,b6⟩:=yx (b*p2 (-s2));have c5:0<Y2:=by rw[b6];exact k0l hb0 (q0L _)
 have f8:Sz X2:=by rw[d0];exact q8r sa (by omega)
 have f9:Sz Y2:=by rw[b6];exact q8r sb (by omega)
 simp only[<- d0,<- b6] at f7;have c6:=vv fun g g1 r g2 U (h:IntAt g g1 r (X2:Int)) (h':IntAt g g2 U (Y2:Int))=>q3v g1 r g2 U X2 Y2 neg mode g h h' c5 f8 f9 hm
 have g0:qf (qam F neg mode a b=rnd neg mode X2 Y2):=vv (by unfold qam;rw[<- H,e0,d0,b6,show e-(F:Int) = -s2 by omega]);obtain⟨fk,e3⟩:=yx (rnd neg mode X2 Y2);simp only[<- e3] at c6;rw[<- e3] at g0;have j1:=vv e0;have n2:(G:Int)<=10:=by omega
 have n3:(F:Int)<=52:=by omega
 have g5:=vv H;have d1:=vv R;have j2:=vv y;clear o0 T c8 s0 r J d3 b1 hn hd H R y e0 d0 b6 c5 f8 f9 e3 hX hY f4 sX sY d4 d5 i5 i6 hr a8 a9 sa sb;go_enter func183,ntmps183;go_wp2_with fail;rw[<- i9.o];refine(f3.o _ z.o C.o).mono ?_;rintro e' w2 ⟨rfl,y⟩;have u:=vv (u.o.below y);have c:=vv (c.o.below y);have z:=vv (z.o.below y);have C:=vv (C.o.below y);have f:=vn f y;obtain⟨T,x1,xl⟩:=u.o;obtain⟨f0,J,fl⟩:=c.o;clear y;go_wp2_with fail;refine(HT.o _ z.o C.o).mono ?_;rintro e' w3 ⟨g1,r,g2,U,rfl,i1,i2,Z⟩;have j3:=vv i1;have j4:=vv i2;have u:=vv (u.o.below Z);have c:=vv (c.o.below Z);have z:=vv (z.o.below Z);have C:=vv (C.o.below Z);have f:=vn f Z;clear Z i1 i2 T x1 xl f0 J fl;go_wp2_with fail;refine(f5.o _ g1 r g2 U j3.o j4.o).mono ?_;rintro e' w4 ⟨gm,rfl,j5,im,b4⟩;have p:=vv im;have u:=vv (u.o.below b4);have c:=vv (c.o.below b4);have z:=vv (z.o.below b4);have C:=vv (C.o.below b4);have f:=vn f b4;clear b4 im j5;obtain⟨fl,g6⟩:=yx (q5K (G+1) F neg mode a b);have g7:=vv g6;clear g6;go_upto_if 51 with fail;go_cut [13,14,17,18,19] from 52 (fun s13 s14 s17 s18 s19 wx=>s17=.int .u8 (fl:Int)/\IntAt wx gm 0 (m:Int)/\FmAt wx (w.heap.size+1) ((G:Int)+1) F/\qd w.heap.size w wx)
 case first =>
  have M:qf (fl=if X%Y=0 then 0 else if q3x (G+1) F neg mode a b then 5 else 1):=vv (by rw[g7.o];unfold q5K;rw[j0.o]);cases same
  ·have b7:X%Y≠0:=of_decide_eq_false f6.o.symm;have M:qf (fl=if q3x (G+1) F neg mode a b then 5 else 1):=vv (by rw[M.o,k0o b7]);clear b7;by_cases hlt:e<1-B
   ·have j6:qc (e<1-B)=ql:=k03 hlt;obtain⟨T,x1,xl⟩:=u.o;have J:=c.o.c1;have j7:=c.o.lt;have q1:=j1.o;have j8:=vv hlt;clear hlt;go_wp2_with fail;refine(f7.o _ z.o C.o).mono ?_;rintro e' w5 ⟨g3,o3,g4,o4,rfl,i3,i4,b8⟩;have j9:=vv i3;have k0:=vv i4;have p:=vv (p.o.below b8);have u:=vv (u.o.below b8);have c:=vv (c.o.below b8);have f:=vn f b8;clear b8 i3 i4 T x1 xl J j7;go_wp2_with fail;refine(c6.o _ g3 o3 g4 o4 j9.o k0.o).mono ?_;rintro e' w6 ⟨gk,rfl,k5,ik,b9⟩;have e4:=vv ik;have p:=vv (p.o.below b9);have u:=vv (u.o.below b9);have c:=vv (c.o.below b9);have f:=vn f b9;clear b9 ik k5;go_wp2_with fail;have V:q3x (G+1) F neg mode a b=(qc (e < -B) || decide (bl fk<=F+1)):=by unfold q3x;rw[<- g5.o,<- d1.o,k03 j8.o,g0.o];rfl
    have n4:bits BinOp.or IntKind.u8 1 4=5:=by decide
    by_cases hl2:e < -B
    ·have c2:qf (fl=5):=vv (by rw[M.o,V,k03 hl2];rfl);have d2:qc (e < -B)=ql:=k03 hl2;have k6:IntKind.i64.wrap (-B) = -B:=qh _ (by omega);clear hl2 V;go_quiet (fail);go_wp2;go_meet
     case rel=>exact⟨by rw[c2.o];rfl,p.o.like rfl,⟨c.o.c0,c.o.c1,c.o.lt⟩,q0k f.o _⟩
    ·have d2:qc (e < -B)=qg:=k00 hl2;have HU:qf (q3x (G+1) F neg mode a b=qc (bl fk<=F+1)):=vv (by rw[V,k00 hl2];rfl);have k6:IntKind.i64.wrap (-B) = -B:=qh _ (by omega);clear hl2 V;refine q02 (fun g=>g.cell? ⟨w.heap.size+1,1,qb⟩=qe (.int .i64 (F:Int))) 12
      (.still 0 (.still 1 (.still 2 (.still 3 (.still 4 (.still 5 (.still 7 (.still 8 (.still 9 (.one 6 (.still 10 (.still 11 .done)))))))))))) (by kernel_rfl) (by kernel_rfl) (fun _ _ d _ _ h=>by cases d<;>exact h) c.o.c1 (fun hS0=>?_)
     obtain⟨wc,b5⟩:=yx (w6.drew);have e4:qf (IntAt wc gk 0 (fk:Int)):=vv (by rw[b5];exact e4.o.drew);have p:qf (IntAt wc gm 0 (m:Int)):=vv (by rw[b5];exact p.o.drew);have c:qf (FmAt wc (w.heap.size+1) ((G:Int)+1) F):=vv (by rw[b5];exact⟨c.o.c0,c.o.c1,c.o.lt⟩);have f:qf (qd w.heap.size w wc):=vv (by rw[b5];exact q05 f.o);rw[<- b5] at hS0 ⊢;clear b5;have e5:=vv (A.BitLen gk 0 (fk:Int) wc e4.o);rw[k05] at e5;obtain⟨lk,g8⟩:=yx (bl fk);rw[<- g8] at e5 HU;have k7:qf (IntKind.i64.wrap ((F:Int)+1)=(F:Int)+1):=vv (qh _ (by omega));clear g8
     iterate 9
      refine q01 (v:=?_) rfl (by rfl) ?_ ?_;rotate_left
      ·intro w x;go_simp;with_reducible rfl
      simp only[Act.put,sa,sb,sc]
     refine q03 rfl (by rfl) (fun K hK=>?_);go_simp;refine e5.o.mono ?_;rintro e' g ⟨rfl,rfl⟩;go_wp2_with fail;refine hK.out _ _ c.o.c1 (fun a0=>?_);clear hK
     try rw[k7.o]
     by_cases hb6:lk<=F+1
     ·have c2:qf (fl=5):=vv (by rw[M.o,HU.o,k03 hb6];rfl);have d6:qc ((lk:Int)<=(F:Int)+1)=ql:=k03 (by omega);have d7:qc (lk<=F+1)=ql:=k03 hb6;clear hb6
      iterate 2
       refine q01 (v:=?_) rfl (by rfl) ?_ ?_;rotate_left
       ·intro w x;go_simp;with_reducible rfl
       simp only[Act.put,sa,sb,sc]
      refine q0K rfl ?_;clear a0 hS0;go_wp2;go_meet
      case rel=>exact⟨by rw[c2.o];rfl,p.o,c.o,f.o⟩
     ·have c2:qf (fl=1):=vv (by rw[M.o,HU.o,k00 hb6];rfl);have d6:qc ((lk:Int)<=(F:Int)+1)=qg:=k00 (by omega);have d7:qc (lk<=F+1)=qg:=k00 hb6;clear hb6
      iterate 2
       refine q01 (v:=?_) rfl (by rfl) ?_ ?_;rotate_left
       ·intro w x;go_simp;with_reducible rfl
       simp only[Act.put,sa,sb,sc]
      refine q0K rfl ?_;clear a0 hS0;go_wp2;go_meet
      case rel=>exact⟨by rw[c2.o];rfl,p.o,c.o,f.o⟩
   ·have V:q3x (G+1) F neg mode a b=qg:=by unfold q3x;rw[<- g5.o,<- d1.o,k00 hlt];rfl
    have e6:qf (fl=1):=vv (by rw[M.o,V];rfl);have j6:qc (e<1-B)=qg:=k00 hlt;clear hlt V;go_wp2;go_meet
    case rel=>exact⟨by rw[e6.o];rfl,p.o,c.o,f.o⟩
  ·have b7:X%Y=0:=k1j f6.o.symm;have e6:qf (fl=0):=vv (by rw[M.o,k0n b7]);clear b7;go_wp2;go_meet
   case rel=>exact⟨by rw[e6.o];rfl,p.o,c.o,f.o⟩
 case rest =>
  obtain⟨rfl,im,hf,hb⟩:=hcut;have p:=vv im;have c:=vv hf;have f:=vv hb;clear im hf hb;go_wp2_with fail;obtain⟨LB,n5⟩:∃l:Int,low+B=l:=⟨_,rfl⟩;obtain⟨q,n6⟩:∃t:Nat,LB-1=(t:Int):=⟨(LB-1).toNat,by omega⟩;have e9:qf (IntKind.i64.wrap LB=LB):=vv (qh _ (by omega));have k8:qf (IntKind.i64.wrap (q:Int)=(q:Int)):=vv (qh _ (by omega));have k9:qf (IntKind.u64.wrap (q:Int)=(q:Int)):=vv (by rw[qi];omega);obtain⟨W,hW⟩:∃W:Int,IntKind.u64.wrap ((q:Int)*2^F)=W:=⟨_,rfl⟩;obtain⟨S,hS⟩:∃S:Int,IntKind.u64.wrap ((m:Int)+W)=S:=⟨_,rfl⟩;have l0:=vv hW;have l3:=vv hS;have b2:m<18446744073709551616:=by have h1:=q4Z (E:=G+1) (F:=F) (neg:=neg) (mode:=mode) ha hb0;rw[c9.o] at h1;have h2:2^(F+1)<=2^53:=k04 (by omega) (by omega);omega
  have l4:=vv fun g (h:IntAt g gm 0 (m:Int))=>A.Uint64 gm 0 (m:Int) g h (by rw[k05];exact b2)
  have m6:=vv b2;clear b2;refine q02 (fun g=>g.cell? ⟨w.heap.size+1,1,qb⟩=qe (.int .i64 (F:Int))) 11
   (.still 0 (.still 2 (.still 3 (.still 4 (.still 5 (.still 6 (.still 7 (.still 8 (.still 9 (.one 1 (.still 10 .done))))))))))) (by kernel_rfl) (by kernel_rfl) (fun _ _ d _ _ h=>by cases d<;>exact h) c.o.c1 (fun hS0=>?_)
  iterate 4
   refine q01 (v:=?_) rfl (by rfl) ?_ ?_;rotate_left
   ·intro w x;go_simp;with_reducible rfl
   simp only[Act.put,sa,sb,sc]
  rw[e9.o]
  iterate 1
   refine q01 (v:=?_) rfl (by rfl) ?_ ?_;rotate_left
   ·intro w x;go_simp;with_reducible rfl
   simp only[Act.put,sa,sb,sc]
  rw[k8.o]
  iterate 1
   refine q01 (v:=?_) rfl (by rfl) ?_ ?_;rotate_left
   ·intro w x;go_simp;with_reducible rfl
   simp only[Act.put,sa,sb,sc]
  rw[k9.o]
  iterate 3
   refine q01 (v:=?_) rfl (by rfl) ?_ ?_;rotate_left
   ·intro w x;go_simp;with_reducible rfl
   simp only[Act.put,sa,sb,sc]
  obtain⟨wd,c3⟩:=yx (wc.drew);have p:qf (IntAt wd gm 0 (m:Int)):=vv (by rw[c3];exact p.o.drew);have c:qf (FmAt wd (w.heap.size+1) ((G:Int)+1) F):=vv (by rw[c3];exact⟨c.o.c0,c.o.c1,c.o.lt⟩);have f:qf (qd w.heap.size w wd):=vv (by rw[c3];exact q05 f.o);rw[<- c3];clear c3 hS0;refine q03 rfl (by rfl) (fun K hK=>?_);go_simp;refine(l4.o _ p.o).mono ?_;rintro e' g ⟨rfl,rfl⟩;rw[k05];go_wp2_with fail;refine hK.out _ _ c.o.c1 (fun a0=>?_);clear hK
  iterate 1
   refine q01 (v:=?_) rfl (by rfl) ?_ ?_;rotate_left
   ·intro w x;go_simp;with_reducible rfl
   simp only[Act.put,sa,sb,sc]
  refine q07 ?_;clear a0;go_wp2_with fail;obtain⟨L,c7⟩:∃n:Nat,n=G+1+F:=⟨_,rfl⟩;have n7:(G:Int)+1+(F:Int)=(L:Int):=by omega
  have f2:qf (IntKind.i64.wrap (L:Int)=(L:Int)):=vv (qh _ (by omega));have m7:(L:Int)<=63:=by omega
  obtain⟨P,hP⟩:∃P:Nat,P=R3.tw L:=⟨_,rfl⟩;obtain⟨Q,hQ⟩:∃Q:Nat,Q=R3.tw F:=⟨_,rfl⟩;have l5:P<=9223372036854775808:=by rw[hP];exact k06 (R3.tw_le (j:=L) (k:=63) (by omega)) (by decide)
  have l6:Q<=P:=by rw[hP,hQ];exact R3.tw_le (by omega)
  have l7:qf (IntKind.u64.wrap ((2:Int)^L)=(P:Int)):=vv (by
   have e:((2:Int)^L)=(P:Int):=by rw[hP];unfold R3.tw;rw[k0D];rfl
   rw[e,qi];omega)
  have l8:qf (IntKind.u64.wrap ((2:Int)^F)=(Q:Int)):=vv (by
   have e:((2:Int)^F)=(Q:Int):=by rw[hQ];unfold R3.tw;rw[k0D];rfl
   rw[e,qi];omega)
  obtain⟨I,hI⟩:∃I:Nat,I=P-Q:=⟨_,rfl⟩;have l9:qf (IntKind.u64.wrap ((P:Int)-(Q:Int))=(I:Int)):=vv (by rw[qi];omega);have b3:qf (q2P (G+1) F=I):=vv (by rw[hI,hP,hQ,c7];rfl);have N:=vv (show 1<=I by
   have:Q*2<=P:=by rw[hP,hQ,<- R3.tw_succ];exact R3.tw_le (by omega)
   have:=R3.tw_pos F;omega)
  have n8:=vv hQ;have m0:=vv (show I<=9223372036854775808 by omega);clear c7 hP hQ l5 l6 hI;refine q02 (fun g=>g.cell? ⟨w.heap.size+1,0,qb⟩=qe (.int .i64 ((G:Int)+1))/\g.cell? ⟨w.heap.size+1,1,qb⟩=qe (.int .i64 (F:Int))) 10
   (.still 0 (.still 1 (.still 2 (.still 3 (.still 4 (.still 5 (.still 6 (.still 7 (.still 8 (.still 9 .done)))))))))) (by kernel_rfl) (by kernel_rfl) (fun _ _ d _ _ h=>by cases d<;>exact h) ⟨c.o.c0,c.o.c1⟩ (fun hS0=>?_)
  iterate 5
   refine q01 (v:=?_) rfl (by rfl) ?_ ?_;rotate_left
   ·intro w x;go_simp;with_reducible rfl
   simp only[Act.put,sa,sb,sc]
  rw[f2.o]
  iterate 1
   refine q01 (v:=?_) rfl (by rfl) ?_ ?_;rotate_left
   ·intro w x;go_simp;with_reducible rfl
   simp only[Act.put,sa,sb,sc]
  rw[l7.o]
  iterate 3
   refine q01 (v:=?_) rfl (by rfl) ?_ ?_;rotate_left
   ·intro w x;go_simp;with_reducible rfl
   simp only[Act.put,sa,sb,sc]
  rw[l8.o]
  iterate 1
   refine q01 (v:=?_) rfl (by rfl) ?_ ?_;rotate_left
   ·intro w x;go_simp;with_reducible rfl
   simp only[Act.put,sa,sb,sc]
  rw[l9.o];refine q07 ?_;clear hS0;have O:over (G+1) F neg mode a b=(qc (B<low) || decide (I<=q18 (G+1) F neg mode a b)):=by unfold over;rw[b3.o,<- d1.o,c4.o]
  have g9:qf ((I:Int)<=9223372036854775808/\(1:Int)<=(I:Int)):=vv (by have:=m0.o;have:=N.o;omega);have m8:=g9.o.1;have m9:=g9.o.2;by_cases hlow2:B<low
  ·have D:over (G+1) F neg mode a b=ql:=by rw[O,k03 hlow2];rfl
   have d8:qc (B<low)=ql:=k03 hlow2;clear O hlow2;have i:qf (out (G+1) F neg mode a b=(if inner neg mode then I-1 else I,3)):=vv (by unfold out;rw[D,k0n rfl,b3.o]);clear D;rcases(by omega:mode=0\/mode=1\/mode=2\/mode=3\/mode=4) with rfl|rfl|rfl|rfl|rfl
   ·go_wp2;go_ret2;rw[i.o];exact⟨q4X (by simp [inner]) rfl,q05 f.o⟩
   ·go_wp2;go_ret2;rw[i.o];exact⟨q4X (by simp [inner]) rfl,q05 f.o⟩
   ·go_wp2;go_ret2;rw[i.o];exact⟨q4X (by have:=N.o;simp [inner];omega) rfl,q05 f.o⟩
   ·cases neg
    ·go_wp2;go_ret2;rw[i.o];exact⟨q4X (by simp [inner]) rfl,q05 f.o⟩
    ·go_wp2;go_ret2;rw[i.o];exact⟨q4X (by have:=N.o;simp [inner];omega) rfl,q05 f.o⟩
   ·cases neg
    ·go_wp2;go_ret2;rw[i.o];exact⟨q4X (by have:=N.o;simp [inner];omega) rfl,q05 f.o⟩
    ·go_wp2;go_ret2;rw[i.o];exact⟨q4X (by simp [inner]) rfl,q05 f.o⟩
  ·have d8:qc (B<low)=qg:=k00 hlow2;obtain⟨bt,e7⟩:∃n:Nat,n=m+q*2^F:=⟨_,rfl⟩;have e8:q18 (G+1) F neg mode a b=bt:=by unfold q18;rw[c9.o,c4.o,<- d1.o,e7,show low+B-1=(q:Int) by omega,k2l]
   have m1:q*2^F<=9223372036854775808:=by
    have a1:(q:Int)+1<=2*B:=by omega
    have a2:(2:Int)^G=((2^G:Nat):Int):=by rw[k0D];rfl
    have a3:=j2.o;rw[a2] at a3;have a4:q<=2^G*2:=by omega
    have a5:q*2^F<=2^G*2*2^F:=k0q _ a4;have a6:2^G*2*2^F=2^(G+1+F):=by rw[k0h,k0a]
    have a7:2^(G+1+F)<=2^63:=k04 (by omega) (by omega);omega
   have m2:m<=9007199254740992:=by have h1:=q4Z (E:=G+1) (F:=F) (neg:=neg) (mode:=mode) ha hb0;rw[c9.o] at h1;have h2:2^(F+1)<=2^53:=k04 (by omega) (by omega);omega
   have i0:W=((q*2^F:Nat):Int):=by rw[<- l0.o];exact q3N q F (by omega)
   have m3:S=(bt:Int):=by rw[<- l3.o,i0,e7,qi];omega
   have n0:(bt:Int)<=9232379236109516800:=by omega
   rw[e8] at O;have m4:=vv e8;clear hW hS i0 e8 e7 m1 m2 hlow2;subst m3;by_cases hge:I<=bt
   ·have D:over (G+1) F neg mode a b=ql:=by rw[O,k03 hge];simp
    have d9:qc ((I:Int)<=(bt:Int))=ql:=k03 (by omega);have m5:qc (I<=bt)=ql:=k03 hge;clear O hge;have i:qf (out (G+1) F neg mode a b=(if inner neg mode then I-1 else I,3)):=vv (by unfold out;rw[D,k0n rfl,b3.o]);clear D;rcases(by omega:mode=0\/mode=1\/mode=2\/mode=3\/mode=4) with rfl|rfl|rfl|rfl|rfl
    ·go_wp2;go_ret2;rw[i.o];exact⟨q4X (by simp [inner]) rfl,q05 f.o⟩
    ·go_wp2;go_ret2;rw[i.o];exact⟨q4X (by simp [inner]) rfl,q05 f.o⟩
    ·go_wp2;go_ret2;rw[i.o];exact⟨q4X (by have:=N.o;simp [inner];omega) rfl,q05 f.o⟩
    ·cases neg
     ·go_wp2;go_ret2;rw[i.o];exact⟨q4X (by simp [inner]) rfl,q05 f.o⟩
     ·go_wp2;go_ret2;rw[i.o];exact⟨q4X (by have:=N.o;simp [inner];omega) rfl,q05 f.o⟩
    ·cases neg
     ·go_wp2;go_ret2;rw[i.o];exact⟨q4X (by have:=N.o;simp [inner];omega) rfl,q05 f.o⟩
     ·go_wp2;go_ret2;rw[i.o];exact⟨q4X (by simp [inner]) rfl,q05 f.o⟩
   ·have D:over (G+1) F neg mode a b=qg:=by rw[O,d8,k00 hge];rfl
    have d9:qc ((I:Int)<=(bt:Int))=qg:=k00 (by omega);have m5:qc (I<=bt)=qg:=k00 hge;have i:qf (out (G+1) F neg mode a b=(bt,fl)):=vv (by unfold out;rw[D,m4.o,<- g7.o];rfl);clear O hge D;go_wp2;go_ret2;rw[i.o];exact⟨q4X (by simp) rfl,q05 f.o⟩
theorem qbk(E F:Nat)(neg:Bool)(mode a b:Nat):(out E F neg mode a b).1<=q2P E F:=by
 unfold out;cases h:over E F neg mode a b
 ·rw[k0o (by decide)];unfold over at h;simp only[Bool.or_eq_false_iff,k17] at h;show q18 E F neg mode a b<=q2P E F;omega
 ·rw[k0n rfl];show(if inner neg mode then q2P E F-1 else q2P E F)<=q2P E F;split<;>omega
theorem q9g(gn on gd od a b G F:Nat)(below neg:Bool)(mode:Nat)(w:qk)(hn:IntAt w gn on (a:Int))(hd:IntAt w gd od (b:Int))(hb0:0<b)(sa:Sm a)(sb:Sm b)(g1:1<=G)(g2:G<=10)(h3:1<=F)(h4:F<=52)(hm:mode<=4):qn qj 95 #[fm ((G:Int)+1) F,q66 gn on gd od,.bool below,.bool neg,.int .u8 (mode:Int)] w (q2K (q0h (G+1) F below neg mode a b) w):=by
 obtain⟨c,x⟩:∃n:Nat,n=G+1+F:=⟨_,rfl⟩;have a2:(G:Int)+1+(F:Int)=(c:Int):=by omega
 have a0:(c:Int)<=63:=by omega
 obtain⟨P,d⟩:∃P:Nat,P=R3.tw c:=⟨_,rfl⟩;have H:P<=9223372036854775808:=by rw[d];exact k06 (R3.tw_le (j:=c) (k:=63) (by omega)) (by decide)
 have a3:IntKind.u64.wrap ((2:Int)^c)=(P:Int):=by
  have e:((2:Int)^c)=(P:Int):=by rw[d];unfold R3.tw;rw[k0D];rfl
  rw[e,qi];omega
 have r:∀n,sgb (G+1) F n=if n then P else 0:=fun n=>by unfold sgb;rw[d,x];rfl
 have a4:=vv r;have D:=(qa w.heap.size w).alloc (o:=.cells #[.int .i64 ((G:Int)+1),.int .i64 (F:Int)] 23) lr;have E:=FmAt.made w ((G:Int)+1) (F:Int) 23;obtain⟨t,s⟩:=yx (w.alloc (.cells #[.int .i64 ((G:Int)+1),.int .i64 (F:Int)] 23));rw[<- s] at D E;have L:t.heap.size=w.heap.size+1:=by rw[s];simp
 have u:=(qa t.heap.size t).alloc (o:=.cells #[.pointer (qe ⟨gn,on,qb⟩),.pointer (qe ⟨gd,od,qb⟩)] 140) lr;have f:=NbBox.made t gn on gd od 140;obtain⟨M,y⟩:=yx (t.alloc (.cells #[.pointer (qe ⟨gn,on,qb⟩),.pointer (qe ⟨gd,od,qb⟩)] 140));rw[<- y] at u f;rw[L] at f;have v:qd w.heap.size w M:=D.trans (u.mono (by omega));have g:=E.below u;have HX:=vv f;have HF:=vv g;have l:=vv v;have z:=hn.below v;have I:=hd.below v;have X:=vv z;have Y:=vv I;have J:=vv (A.Sign gn on (a:Int) M z);have K:qf (M=(w.alloc (.cells #[.int .i64 ((G:Int)+1),.int .i64 (F:Int)] 23)).alloc (.cells #[.pointer (qe ⟨gn,on,qb⟩),.pointer (qe ⟨gd,od,qb⟩)] 140)):=vv (by rw[y,s]);have k0:=g.c0;have k1:=g.c1;have kl:=g.lt;have k2:=f.c0;have k3:=f.c1;have a5:=f.lt;have a6:(G:Int)<=10:=by omega
 have a7:(F:Int)<=52:=by omega
 have a1:=vv H;rcases k01 a with m|m
 ·have p:qf (q0h (G+1) F below neg mode a b=(if neg then P else 0,0)):=vv (by unfold q0h;rw[k0n m,r]);have Z:((a:Int).sign==0)=ql:=by rw[m];rfl
  clear D E s L u f y v g hn hd z I r x d H m sa sb;cases neg
  ·go_enter func95,ntmps95;go_wp2_with fail;rw[<- K.o];refine J.o.mono ?_;rintro N q ⟨rfl,rfl⟩;go_wp2;go_ret3;rw[p.o];exact⟨rfl,l.o⟩
  ·go_enter func95,ntmps95;go_wp2_with fail;rw[<- K.o];refine J.o.mono ?_;rintro N q ⟨rfl,rfl⟩;go_wp2;go_ret3;rw[p.o];exact⟨rfl,l.o⟩
 ·have p:qf (q0h (G+1) F below neg mode a b=((if below then P else 0)+(out (G+1) F below mode a b).1,(out (G+1) F below mode a b).2)):=vv (by unfold q0h;rw[k0o (by omega),r]);have Z:((a:Int).sign==0)=qg:=by rw[k0r (by omega)];rfl
  have C:=qbk (G+1) F below mode a b;have Q:q2P (G+1) F<P:=by unfold q2P;rw[d,x];have e1:=k0c (G+1+F);have e2:=k0c F;show 2^(G+1+F)-2^F<2^(G+1+F);omega
  have R:=vv fun q (h:IntAt q gn on (a:Int)) (h':IntAt q gd od (b:Int))=>qb4 gn on gd od a b G F below mode q h h' m hb0 sa sb g1 g2 h3 h4 hm
  obtain⟨O,T⟩:=yx (out (G+1) F below mode a b);rw[<- T] at R p C;obtain⟨o1v,o2v⟩:=O;have U:qf (bits .or .u64 (o1v:Int) (P:Int)=((P+o1v:Nat):Int)):=vv (by
   have V:o1v<2^c:=by have:P=2^c:=d;rw[<- this];exact k0F C Q
   have W:P=2^c:=d;have a8:o1v<P:=by omega
   rw[u64_or_nat _ _ (by omega) (by omega),Nat.or_comm];have h:=k1c (i:=c) (b:=o1v) V 1;rw[k0A,<- W] at h;rw[<- h])
  have a9:(o1v:Int)<=9223372036854775808:=by have h9:o1v<=q2P (G+1) F:=C;omega
  clear D E s L u f y v g hn hd z I r x d H m sa sb C Q T;go_enter func95,ntmps95;go_wp2_with fail;rw[<- K.o];refine J.o.mono ?_;rintro N q ⟨rfl,rfl⟩;go_wp2_with fail;refine(R.o _ X.o Y.o).mono ?_;rintro N w2 ⟨rfl,S⟩;have l:=vn l S;clear S;cases below
  ·go_wp2;go_ret3;rw[p.o];exact⟨by simp,l.o⟩
  ·go_wp2;go_ret3;rw[p.o];exact⟨by simp [U.o],l.o⟩
end Go.Proofs.YtabcgemembkkcaaGreatDoor.Rnd
namespace Go.Proofs.YtabcgemembkkcaaGreatDoor
open Go Go.RowKit
theorem IntAt.setPtr{w:qk}{g o gb j:Nat}{v:Int}{p:Option qm}(h:IntAt w g o v)(hp:w.cell? ⟨gb,0,qb⟩=qe (.pointer p))(u:Value):IntAt (w.setCell ⟨gb,j,qb⟩ u) g o v:=by
 have f:gb≠g:=by intro e;subst e;obtain⟨x,hx⟩:=h.head;rw[hp] at hx;cases hx
 have d:∀i,(w.setCell ⟨gb,j,qb⟩ u).cell? ⟨g,i,qb⟩=w.cell? ⟨g,i,qb⟩:=fun i=>q0o (fun e=>by injection e with e1;exact f e1)
 obtain⟨A,n,c,q,r,a,l⟩:=h.ex;refine⟨by simpa [World.setCell] using h.lt,?_,fun i=>?_,A,n,c,(d _).trans q,(d _).trans r,⟨a.len,a.le,a.sm,a.lim,fun hn=>?_⟩,l⟩
 ·obtain⟨x,hx⟩:=h.head;exact⟨x,(d _).trans hx⟩
 ·rw[<- h.fz i];exact q0M (p:=⟨g,i,qb⟩) (Below.heap_setCell w ⟨gb,j,qb⟩ u g (fun e=>f e.symm))
 ·obtain⟨b,off,e,s,k⟩:=a.cell hn;have m:off=0:=l _ e;subst m;have t:gb≠b:=by intro y;subst y;have:=k 0 hn;rw[hp] at this;cases this
  exact⟨b,0,e,by simpa [World.setCell] using s,fun i hi=>(q0o (fun e=>by injection e with e1;exact t e1)).trans (k i hi)⟩
namespace R5
theorem FmAt.belowLt{B:Nat}{w w':qk}{g:Nat}{E F:Int}(h:FmAt w g E F)(hb:qd B w w')(hl:g<B):FmAt w' g E F:=⟨(hb.cell (p:=⟨g,0,qb⟩) hl).trans h.c0,(hb.cell (p:=⟨g,1,qb⟩) hl).trans h.c1,k02 h.lt hb.size⟩
theorem DyadBox.belowLt{B:Nat}{w w':qk}{g:Nat}{neg:Bool}{A:Option qm}{n c:Nat}{e:Int}(h:DyadBox w g neg A n c e)(hb:qd B w w')(hl:g<B):DyadBox w' g neg A n c e:=⟨(hb.cell (p:=⟨g,0,qb⟩) hl).trans h.c0,(hb.cell (p:=⟨g,1,qb⟩) hl).trans h.c1,(hb.cell (p:=⟨g,2,qb⟩) hl).trans h.c2,k02 h.lt hb.size⟩
end R5
namespace Rnd
open Go.Proofs.YtabcgemembkkcaaGreatDoor.R5
theorem NbBox.set0{w:qk}{g gn on gd od:Nat}(h:NbBox w g gn on gd od)(ga oa:Nat):NbBox (w.setCell ⟨g,0,qb⟩ (.pointer (qe ⟨ga,oa,qb⟩))) g ga oa gd od:=⟨q0p h.c0,(q0o (fun e=>by injection e with _ e;omega)).trans h.c1,by simpa [World.setCell] using h.lt⟩
end Rnd
end Go.Proofs.YtabcgemembkkcaaGreatDoor
namespace Go.Proofs.YtabcgemembkkcaaGreatDoor.R5
open Go Go.RowKit
theorem RatioBox.fs{l:List Ob}{w w':qk}{g:Nat}{neg:Bool}{X:Option qm}{n c:Nat}{Y:Option qm}{m d:Nat}(h:RatioBox w g neg X n c Y m d)(hf:Fs l w w')(hne:∀p∈l,p.1≠g):RatioBox w' g neg X n c Y m d:=⟨Rnd.Fs.cell0 hf h.c0 h.lt hne,Rnd.Fs.cell0 hf h.c1 h.lt hne,Rnd.Fs.cell0 hf h.c2 h.lt hne,k02 h.lt hf.size⟩
theorem RatioBox.drew{w:qk}{g:Nat}{neg:Bool}{X:Option qm}{n c:Nat}{Y:Option qm}{m d:Nat}(h:RatioBox w g neg X n c Y m d):RatioBox w.drew g neg X n c Y m d:=⟨h.c0,h.c1,h.c2,h.lt⟩
end Go.Proofs.YtabcgemembkkcaaGreatDoor.R5
namespace Go.Proofs.YtabcgemembkkcaaGreatDoor.Rtp
open Go Go.RowKit R5
theorem qcQ{p:Int}{N D:Nat}(hp:p.natAbs=N)(hg:Nat.gcd N D=1):lp p D=p/\ld p D=D:=by
 unfold lp ld;rw[hp,hg,k1m,k1m];refine⟨?_,rfl⟩;unfold sg;by_cases h:p<0
 ·rw[k03 h,k0n rfl];omega
 ·rw[k00 h,k0o (by decide)];omega
theorem q4T(X:Option qm)(n c:Nat)(Y:Option qm)(m d N D:Nat)(w:qk)(hX:Rd w X n c (toL N))(hY:Rd w Y m d (toL D))(hn:n<=16384)(hm:m<=16384)(hD:0<D)(hg:Nat.gcd N D=1)(hst:Std w):qn qj 109 #[q0i qg X n c Y m d] w fun e w'=>∃g,e=.returned (.tuple #[.pointer (qe ⟨g,0,qb⟩),.int .i64 0])/\w.heap.size<=g/\RatAt w' g ((N:Int)) D/\qd w.heap.size w w':=by
 obtain⟨p,t⟩:∃p:Int,p=(N:Int):=⟨_,rfl⟩;have C:p.natAbs=N:=by omega
 obtain⟨a2,a3⟩:=qcQ C hg;have wn:=hX.words;have wm:=hY.words;have bN:bl N<=524288:=by have:=A.bl_words N;omega
 have bD:bl D<=524288:=by have:=A.bl_words D;omega
 have d7:0<m:=by
  rcases k01 m with h|h
  ·rw[h,q06] at wm;omega
  ·exact h
 obtain⟨w0,R⟩:=yx (w.alloc (.cells #[.bool qg,.slice X n c,.slice Y m d] 39));have b0:qd w.heap.size w w0:=by rw[R];exact(qa _ w).alloc lr _
 have z:RatioBox w0 w.heap.size qg X n c Y m d:=by rw[R];exact RatioBox.made w _ _ _ _ _ _ _ _
 have d8:=vv R;have b:=vv b0;have a:=vv z;have d9:=vv hst;have a0:=vv fun w' (h:qd w.heap.size w w')=>Nat_.Check X n c (toL N) w' (hX.below h rfl)
 rw[Nat_.natErr_ok (q1D hX hn)] at a0;have a1:=vv fun w' (h:qd w.heap.size w w')=>Nat_.Check Y m d (toL D) w' (hY.below h rfl)
 rw[Nat_.natErr_ok (q1D hY hm)] at a1;have b3:=vv fun w' (h:qd w.heap.size w w')=>q3v X n c N w' (hX.below h rfl) (by omega)
 have b4:=vv fun w' (h:qd w.heap.size w w')=>q3v Y m d D w' (hY.below h rfl) (by omega)
 have e9:=vv fun w' g (h:IntAt w' g 0 (N:Int))=>A.Neg g 0 g 0 (N:Int) (N:Int) w' h h
 have e0:=vv fun w' g gx y (h:RatSh w' g) (hx:IntAt w' gx 0 p) (hy:IntAt w' y 0 (D:Int)) (hs:Std w')=>A.SetFrac g gx y p D w' h hx hy hD hs (by rw[C];unfold Sz;omega) (by unfold Sz;omega)
 have a4:=vv fun w' g (h:RatAt w' g p D)=>qb2 g p D w' h (by rw[a2,C];exact bN) (by rw[a3];exact bD)
 have b5:=vv fun w' g (h:RatAt w' g p D)=>A.Denom g p D w' h
 simp only[a2,a3,C] at a4 b5;have b7:=vv fun w' g gx (h:IntAt w' g 0 (D:Int)) (h':IntAt w' gx 0 (D:Int))=>A.Cmp g 0 gx 0 (D:Int) (D:Int) w' h h'
 simp only[q3q] at b7;have b8:qc (p<0)=qg:=by rw[k17];omega
 simp only[b8] at a4;have e1:=vv wn;have e2:=vv wm;have f3:((m:Int)==0)=qg:=by rw[k09];omega
 have f4:(n:Int)<=16384:=by omega
 have e8:(m:Int)<=16384:=by omega
 have H:=z.c0;have Z:=z.c1;have f2:=z.c2;have fl:=z.lt;rw[<- t];have HP:=vv t;clear hX hY hn hm hD hg hst t C a2 a3 wn wm bN bD d7 R b0 z b8 ;go_enter func109,ntmps109;go_wp2_with fail;rw[<- d8.o];refine(a0.o _ b.o).mono ?_;rintro e w1 ⟨rfl,a5⟩;have a:=vv (a.o.below a5);have b:=vn b a5;obtain⟨H,Z,f2,fl⟩:=a.o;clear a5;go_wp2_with fail;refine(a1.o _ b.o).mono ?_;rintro e w2 ⟨rfl,a6⟩;have a:=vv (a.o.below a6);have b:=vn b a6;obtain⟨H,Z,f2,fl⟩:=a.o;clear a6;go_wp2_with fail;refine q02 (fun w'=>w'.cell? ⟨w.heap.size,1,qb⟩=qe (.slice X n c)/\w'.cell? ⟨w.heap.size,2,qb⟩=qe (.slice Y m d)) 6
  (.still 0 (.still 1 (.still 3 (.still 4 (.one 2 (.one 5 .done)))))) (by kernel_rfl) (by kernel_rfl) (fun _ _ d _ _ h=>by cases d<;>exact h) ⟨Z,f2⟩ (fun hS0=>?_)
 have a:qf (RatioBox w2.drew w.heap.size qg X n c Y m d):=vv a.o.drew;have b:qf (qd w.heap.size w w2.drew):=vv (q05 b.o);obtain⟨wc,E⟩:=yx (w2.drew);rw[<- E] at a b hS0 ⊢;clear E H Z f2 fl
 iterate 4
  refine q01 (v:=?_) rfl (by rfl) ?_ ?_;rotate_left
  ·intro w a7;go_simp;with_reducible rfl
  simp only[Act.put,sa,sb,sc]
 refine q03 rfl (by rfl) (fun K hK=>?_);go_simp;refine(b3.o _ b.o).mono ?_;rintro e w3 ⟨g1,rfl,e3,c3,S⟩;have s:=vv c3;have a:=vv (a.o.below S);have b:=vn b S;have f5:qf (w.heap.size<g1):=vv (by have:=a.o.lt;have:=S.size;have:w.heap.size<wc.heap.size:=by {show _;exact(by assumption:RatioBox wc w.heap.size qg X n c Y m d).lt};omega);clear c3 S e3;go_wp2_with fail;refine hK.out _ _ ⟨a.o.c1,a.o.c2⟩ (fun F=>?_);clear hK;refine q03 rfl (by rfl) (fun K hK=>?_);go_simp;refine(b4.o _ b.o).mono ?_;rintro e w4 ⟨g2,rfl,e4,c4,T⟩;have j:=vv c4;have c5:g1<g2:=by have:=s.o.lt;omega
 have f6:=vv c5;have s:=vv (s.o.below T);have a:=vv (a.o.below T);have b:=vn b T;clear c4 T e4 c5;go_wp2_with fail;refine hK.out _ _ ⟨a.o.c1,a.o.c2⟩ (fun F=>?_);clear hK;refine q07 ?_;have H:=a.o.c0;have fl:=a.o.lt;have c6:IntAt w4 g1 0 p:=by rw[HP.o];exact s.o
 have s:=vv c6;clear c6;obtain⟨I,rfl⟩:∃x:qk,x=w4:=⟨_,rfl⟩;obtain⟨w6,U⟩:=yx (I.alloc (.cells #[.bool qg,.slice qb 0 0,.slice qb 0 0] 175));have J:qd I.heap.size I w6:=by rw[U];exact(qa _ _).alloc lr _
 have z6:RatAt w6 I.heap.size 0 1:=by rw[U];exact RatAt.zero _ _
 obtain⟨g,a8⟩:=yx (I.heap.size);have a9:=s.o.lt;have b1:=j.o.lt;have V:=a.o.lt;rw[<- a8] at z6 a9 b1 V;have e5:=vv z6;have s:=vv (s.o.below J);have j:=vv (j.o.below J);have a:=vv (a.o.below J);have c7:qf (w.heap.size<g):=vv V;have b:=vn b J;have c8:=vv (And.intro a9 (And.intro b1 V));have c9:=vv U;have d0:=vv a8;clear U J z6 a8 a9 b1 V;go_wp2_with fail;clear H fl;rw[<- c9.o,<- d0.o];clear c9 d0;refine(e0.o _ g g1 g2 e5.o.sh s.o j.o (d9.o.fs (Fs.of_nil b.o))).mono ?_;rintro e w7 L;have d1:=L.below b.o b.o.size (by have:=c7.o;omega);have l:=vv L.2.1;have a:=vv (a.o.fs L.2.2 (by intro p t;simp at t;rw[t];have:=c8.o.2.2;show g≠_;omega));have j:=vv (j.o.fs L.2.2 (by intro p t k;simp at t;rw[t] at k;have:=c8.o.2.1;exact absurd k (by show g≠_;omega)));have b:=vv d1;obtain⟨rfl,-,-⟩:=L;clear d1;go_wp2_with fail;refine(a4.o _ g l.o).mono ?_;rintro e M ⟨O,q,P,r,rfl,d2,d3,G⟩;obtain rfl:q=n:=by rw[<- d2.words];exact e1.o
 obtain rfl:r=m:=by rw[<- d3.words];exact e2.o
 have l:=vv (l.o.below G);have a:=vv (a.o.below G);have j:=vv (j.o.below G);have b:=vn b G;clear d2 d3 G;obtain⟨u,W⟩:=yx (M.alloc (.cells #[.bool qg,.slice O q q,.slice P r r] 39));have Q:qd M.heap.size M u:=by rw[W];exact(qa _ _).alloc lr _
 have x9:RatioBox u M.heap.size qg O q q P r r:=by rw[W];exact RatioBox.made _ _ _ _ _ _ _ _ _
 obtain⟨y,b2⟩:=yx (M.heap.size);rw[<- b2] at x9;have l:=vv (l.o.below Q);have a:=vv (a.o.below Q);have i:=vv x9;have j:=vv (j.o.below Q);have b:=vn b Q;have d4:=vv W;have d5:=vv b2;clear W Q x9 b2;go_wp2_with fail;rw[<- d4.o,<- d5.o];clear d4 d5;refine q02 (fun w'=>(w'.cell? ⟨y,0,qb⟩=qe (.bool qg)/\w'.cell? ⟨y,1,qb⟩=qe (.slice O q q)/\w'.cell? ⟨y,2,qb⟩=qe (.slice P r r))/\w'.cell? ⟨w.heap.size,0,qb⟩=qe (.bool qg)/\w'.cell? ⟨w.heap.size,1,qb⟩=qe (.slice X q c)/\w'.cell? ⟨w.heap.size,2,qb⟩=qe (.slice Y r d)) 16
  (.still 0 (.still 1 (.still 2 (.still 3 (.still 5 (.one 4 (.one 6 (.still 7 (.still 8 (.still 9 (.still 10 (.still 12 (.one 11 (.one 13 (.still 14 (.still 15 .done)))))))))))))))) (by kernel_rfl) (by kernel_rfl) (fun _ _ d _ _ h=>by cases d<;>exact h) ⟨⟨i.o.c0,i.o.c1,i.o.c2⟩,a.o.c0,a.o.c1,a.o.c2⟩ (fun hS0=>?_)
 have a:qf (RatioBox u.drew w.heap.size qg X q c Y r d):=vv a.o.drew;have i:qf (RatioBox u.drew y qg O q q P r r):=vv i.o.drew;have l:qf (RatAt u.drew g p D):=vv (l.o.like rfl);have j:qf (IntAt u.drew g2 0 (D:Int)):=vv j.o.drew;have b:qf (qd w.heap.size w u.drew):=vv (q05 b.o);obtain⟨wc,E⟩:=yx (u.drew);rw[<- E] at a i l j b hS0 ⊢;clear E;have yl:=i.o.lt;have xl:=a.o.lt
 iterate 5
  refine q01 (v:=?_) rfl (by rfl) ?_ ?_;rotate_left
  ·intro w a7;go_simp;with_reducible rfl
  simp only[Act.put,sa,sb,sc]
 refine q03 rfl (by rfl) (fun K hK=>?_);go_simp;refine(seen qg O q q P r r _).mono ?_;rintro e wn ⟨rfl,f⟩;have a:=vv (a.o.below f);have i:=vv (i.o.below f);have l:=vv (l.o.below f);have j:=vv (j.o.below f);have b:=vn b f;clear f;go_wp2_with fail;refine hK.out _ _ ⟨⟨i.o.c0,i.o.c1,i.o.c2⟩,a.o.c0,a.o.c1,a.o.c2⟩ (fun F=>?_);clear hK;refine q03 rfl (by rfl) (fun K hK=>?_);go_simp;refine(seen qg X q c Y r d _).mono ?_;rintro e wn ⟨rfl,f⟩;have a:=vv (a.o.below f);have i:=vv (i.o.below f);have l:=vv (l.o.below f);have j:=vv (j.o.below f);have b:=vn b f;clear f;go_wp2_with fail;refine hK.out _ _ ⟨⟨i.o.c0,i.o.c1,i.o.c2⟩,a.o.c0,a.o.c1,a.o.c2⟩ (fun F=>?_);clear hK
 iterate 5
  refine q01 (v:=?_) rfl (by rfl) ?_ ?_;rotate_left
  ·intro w a7;go_simp;with_reducible rfl
  simp only[Act.put,sa,sb,sc]
 refine q03 rfl (by rfl) (fun K hK=>?_);go_simp;refine(b5.o _ g l.o).mono ?_;rintro e wn ⟨g9,rfl,e6,d6,f⟩;have a:=vv (a.o.below f);have i:=vv (i.o.below f);have l:=vv (l.o.below f);have j:=vv (j.o.below f);have b:=vn b f;have e7:=vv d6;clear f e6 d6;go_wp2_with fail;refine hK.out _ _ ⟨⟨i.o.c0,i.o.c1,i.o.c2⟩,a.o.c0,a.o.c1,a.o.c2⟩ (fun F=>?_);clear hK;refine q03 rfl (by rfl) (fun K hK=>?_);go_simp;refine(b7.o _ g9 g2 e7.o j.o).mono ?_;rintro e wn ⟨rfl,f⟩;have a:=vv (a.o.below f);have i:=vv (i.o.below f);have l:=vv (l.o.below f);have j:=vv (j.o.below f);have b:=vn b f;clear f;go_wp2_with fail;refine hK.out _ _ ⟨⟨i.o.c0,i.o.c1,i.o.c2⟩,a.o.c0,a.o.c1,a.o.c2⟩ (fun F=>?_);clear hK
 iterate 2
  refine q01 (v:=?_) rfl (by rfl) ?_ ?_;rotate_left
  ·intro w a7;go_simp;with_reducible rfl
  simp only[Act.put,sa,sb,sc]
 refine q0K rfl ?_;go_wp2;go_ret2;exact⟨g,rfl,by have:=c7.o;omega,l.o,b.o⟩
theorem q5Y(X:Option qm)(n c:Nat)(Y:Option qm)(m d N D:Nat)(w:qk)(hX:Rd w X n c (toL N))(hY:Rd w Y m d (toL D))(hn:n<=16384)(hm:m<=16384)(hD:0<D)(hg:Nat.gcd N D=1)(hN:0<N)(hst:Std w):qn qj 109 #[q0i ql X n c Y m d] w fun e w'=>∃g,e=.returned (.tuple #[.pointer (qe ⟨g,0,qb⟩),.int .i64 0])/\w.heap.size<=g/\RatAt w' g (-(N:Int)) D/\qd w.heap.size w w':=by
 obtain⟨p,q⟩:∃p:Int,p = -(N:Int):=⟨_,rfl⟩;have F:p.natAbs=N:=by omega
 obtain⟨a2,a3⟩:=qcQ F hg;have wn:=hX.words;have wm:=hY.words;have bN:bl N<=524288:=by have:=A.bl_words N;omega
 have bD:bl D<=524288:=by have:=A.bl_words D;omega
 have d8:0<m:=by
  rcases k01 m with h|h
  ·rw[h,q06] at wm;omega
  ·exact h
 obtain⟨w0,R⟩:=yx (w.alloc (.cells #[.bool ql,.slice X n c,.slice Y m d] 39));have b0:qd w.heap.size w w0:=by rw[R];exact(qa _ w).alloc lr _
 have z:RatioBox w0 w.heap.size ql X n c Y m d:=by rw[R];exact RatioBox.made w _ _ _ _ _ _ _ _
 have d9:=vv R;have b:=vv b0;have a:=vv z;have e0:=vv hst;have a0:=vv fun w' (h:qd w.heap.size w w')=>Nat_.Check X n c (toL N) w' (hX.below h rfl)
 rw[Nat_.natErr_ok (q1D hX hn)] at a0;have a1:=vv fun w' (h:qd w.heap.size w w')=>Nat_.Check Y m d (toL D) w' (hY.below h rfl)
 rw[Nat_.natErr_ok (q1D hY hm)] at a1;have b3:=vv fun w' (h:qd w.heap.size w w')=>q3v X n c N w' (hX.below h rfl) (by omega)
 have b4:=vv fun w' (h:qd w.heap.size w w')=>q3v Y m d D w' (hY.below h rfl) (by omega)
 have e1:=vv fun w' g (h:IntAt w' g 0 (N:Int))=>A.Neg g 0 g 0 (N:Int) (N:Int) w' h h
 have e2:=vv fun w' g gx y (h:RatSh w' g) (hx:IntAt w' gx 0 p) (hy:IntAt w' y 0 (D:Int)) (hs:Std w')=>A.SetFrac g gx y p D w' h hx hy hD hs (by rw[F];unfold Sz;omega) (by unfold Sz;omega)
 have a4:=vv fun w' g (h:RatAt w' g p D)=>qb2 g p D w' h (by rw[a2,F];exact bN) (by rw[a3];exact bD)
 have b5:=vv fun w' g (h:RatAt w' g p D)=>A.Denom g p D w' h
 simp only[a2,a3,F] at a4 b5;have b7:=vv fun w' g gx (h:IntAt w' g 0 (D:Int)) (h':IntAt w' gx 0 (D:Int))=>A.Cmp g 0 gx 0 (D:Int) (D:Int) w' h h'
 simp only[q3q] at b7;have b8:qc (p<0)=ql:=by rw[k0C];omega
 simp only[b8] at a4;have e3:=vv wn;have e4:=vv wm;have f5:((m:Int)==0)=qg:=by rw[k09];omega
 have f6:(n:Int)<=16384:=by omega
 have f4:(m:Int)<=16384:=by omega
 have C:=z.c0;have Z:=z.c1;have f2:=z.c2;have fl:=z.lt;rw[<- q];have HP:=vv q;clear hX hY hn hm hD hg hst q F a2 a3 wn wm bN bD d8 R b0 z b8 hN;go_enter func109,ntmps109;go_wp2_with fail;rw[<- d9.o];refine(a0.o _ b.o).mono ?_;rintro e w1 ⟨rfl,a5⟩;have a:=vv (a.o.below a5);have b:=vn b a5;obtain⟨C,Z,f2,fl⟩:=a.o;clear a5;go_wp2_with fail;refine(a1.o _ b.o).mono ?_;rintro e w2 ⟨rfl,a6⟩;have a:=vv (a.o.below a6);have b:=vn b a6;obtain⟨C,Z,f2,fl⟩:=a.o;clear a6;go_wp2_with fail;refine q02 (fun w'=>w'.cell? ⟨w.heap.size,1,qb⟩=qe (.slice X n c)/\w'.cell? ⟨w.heap.size,2,qb⟩=qe (.slice Y m d)) 6
  (.still 0 (.still 1 (.still 3 (.still 4 (.one 2 (.one 5 .done)))))) (by kernel_rfl) (by kernel_rfl) (fun _ _ d _ _ h=>by cases d<;>exact h) ⟨Z,f2⟩ (fun hS0=>?_)
 have a:qf (RatioBox w2.drew w.heap.size ql X n c Y m d):=vv a.o.drew;have b:qf (qd w.heap.size w w2.drew):=vv (q05 b.o);obtain⟨wc,G⟩:=yx (w2.drew);rw[<- G] at a b hS0 ⊢;clear G C Z f2 fl
 iterate 4
  refine q01 (v:=?_) rfl (by rfl) ?_ ?_;rotate_left
  ·intro w a7;go_simp;with_reducible rfl
  simp only[Act.put,sa,sb,sc]
 refine q03 rfl (by rfl) (fun K hK=>?_);go_simp;refine(b3.o _ b.o).mono ?_;rintro e w3 ⟨u,rfl,e5,c3,S⟩;have t:=vv c3;have a:=vv (a.o.below S);have b:=vn b S;have c4:qf (w.heap.size<u):=vv (by have:=a.o.lt;have:=S.size;have:w.heap.size<wc.heap.size:=by {show _;exact(by assumption:RatioBox wc w.heap.size ql X n c Y m d).lt};omega);clear c3 S e5;go_wp2_with fail;refine hK.out _ _ ⟨a.o.c1,a.o.c2⟩ (fun H=>?_);clear hK;refine q03 rfl (by rfl) (fun K hK=>?_);go_simp;refine(b4.o _ b.o).mono ?_;rintro e w4 ⟨g2,rfl,e6,c5,T⟩;have j:=vv c5;have c6:u<g2:=by have:=t.o.lt;omega
 have e7:=vv c6;have t:=vv (t.o.below T);have a:=vv (a.o.below T);have b:=vn b T;clear c5 T e6 c6;go_wp2_with fail;refine hK.out _ _ ⟨a.o.c1,a.o.c2⟩ (fun H=>?_);clear hK;refine q07 ?_;have C:=a.o.c0;have fl:=a.o.lt;go_wp2_with fail;refine(e1.o _ u t.o).mono ?_;rintro e E ⟨rfl,hi,hf⟩;have hF:=hf.fs t.o hi;have j:=vv (j.o.fs hF (by intro p q k;simp at q;rw[q] at k;have:=e7.o;exact absurd k (by show u≠_;omega)));have a:=vv (a.o.fs hF (by intro p q;simp at q;rw[q];have:=c4.o;show u≠_;omega));have b:=vv (hF.below b.o b.o.size (by intro p q;simp at q;rw[q];have:=c4.o;show w.heap.size<=u;omega));have c7:IntAt E u 0 p:=by rw[HP.o];exact hi
 have t:=vv c7;have C:=a.o.c0;have fl:=a.o.lt;clear hi hf hF c7;obtain⟨w6,U⟩:=yx (E.alloc (.cells #[.bool qg,.slice qb 0 0,.slice qb 0 0] 175));have J:qd E.heap.size E w6:=by rw[U];exact(qa _ _).alloc lr _
 have z6:RatAt w6 E.heap.size 0 1:=by rw[U];exact RatAt.zero _ _
 obtain⟨g,a8⟩:=yx (E.heap.size);have a9:=t.o.lt;have b1:=j.o.lt;have V:=a.o.lt;rw[<- a8] at z6 a9 b1 V;have e8:=vv z6;have t:=vv (t.o.below J);have j:=vv (j.o.below J);have a:=vv (a.o.below J);have c8:qf (w.heap.size<g):=vv V;have b:=vn b J;have c9:=vv (And.intro a9 (And.intro b1 V));have d0:=vv U;have d1:=vv a8;clear U J z6 a8 a9 b1 V;go_wp2_with fail;clear C fl;rw[<- d0.o,<- d1.o];clear d0 d1;refine(e2.o _ g u g2 e8.o.sh t.o j.o (e0.o.fs (Fs.of_nil b.o))).mono ?_;rintro e w7 L;have d2:=L.below b.o b.o.size (by have:=c8.o;omega);have l:=vv L.2.1;have a:=vv (a.o.fs L.2.2 (by intro p q;simp at q;rw[q];have:=c9.o.2.2;show g≠_;omega));have j:=vv (j.o.fs L.2.2 (by intro p q k;simp at q;rw[q] at k;have:=c9.o.2.1;exact absurd k (by show g≠_;omega)));have b:=vv d2;obtain⟨rfl,-,-⟩:=L;clear d2;go_wp2_with fail;refine(a4.o _ g l.o).mono ?_;rintro e M ⟨O,r,P,s,rfl,d3,d4,I⟩;obtain rfl:r=n:=by rw[<- d3.words];exact e3.o
 obtain rfl:s=m:=by rw[<- d4.words];exact e4.o
 have l:=vv (l.o.below I);have a:=vv (a.o.below I);have j:=vv (j.o.below I);have b:=vn b I;clear d3 d4 I;obtain⟨x,W⟩:=yx (M.alloc (.cells #[.bool ql,.slice O r r,.slice P s s] 39));have Q:qd M.heap.size M x:=by rw[W];exact(qa _ _).alloc lr _
 have x9:RatioBox x M.heap.size ql O r r P s s:=by rw[W];exact RatioBox.made _ _ _ _ _ _ _ _ _
 obtain⟨y,b2⟩:=yx (M.heap.size);rw[<- b2] at x9;have l:=vv (l.o.below Q);have a:=vv (a.o.below Q);have i:=vv x9;have j:=vv (j.o.below Q);have b:=vn b Q;have d5:=vv W;have d6:=vv b2;clear W Q x9 b2;go_wp2_with fail;rw[<- d5.o,<- d6.o];clear d5 d6;refine q02 (fun w'=>(w'.cell? ⟨y,0,qb⟩=qe (.bool ql)/\w'.cell? ⟨y,1,qb⟩=qe (.slice O r r)/\w'.cell? ⟨y,2,qb⟩=qe (.slice P s s))/\w'.cell? ⟨w.heap.size,0,qb⟩=qe (.bool ql)/\w'.cell? ⟨w.heap.size,1,qb⟩=qe (.slice X r c)/\w'.cell? ⟨w.heap.size,2,qb⟩=qe (.slice Y s d)) 16
  (.still 0 (.still 1 (.still 2 (.still 3 (.still 5 (.one 4 (.one 6 (.still 7 (.still 8 (.still 9 (.still 10 (.still 12 (.one 11 (.one 13 (.still 14 (.still 15 .done)))))))))))))))) (by kernel_rfl) (by kernel_rfl) (fun _ _ d _ _ h=>by cases d<;>exact h) ⟨⟨i.o.c0,i.o.c1,i.o.c2⟩,a.o.c0,a.o.c1,a.o.c2⟩ (fun hS0=>?_)
 have a:qf (RatioBox x.drew w.heap.size ql X r c Y s d):=vv a.o.drew;have i:qf (RatioBox x.drew y ql O r r P s s):=vv i.o.drew;have l:qf (RatAt x.drew g p D):=vv (l.o.like rfl);have j:qf (IntAt x.drew g2 0 (D:Int)):=vv j.o.drew;have b:qf (qd w.heap.size w x.drew):=vv (q05 b.o);obtain⟨wc,G⟩:=yx (x.drew);rw[<- G] at a i l j b hS0 ⊢;clear G;have yl:=i.o.lt;have xl:=a.o.lt
 iterate 5
  refine q01 (v:=?_) rfl (by rfl) ?_ ?_;rotate_left
  ·intro w a7;go_simp;with_reducible rfl
  simp only[Act.put,sa,sb,sc]
 refine q03 rfl (by rfl) (fun K hK=>?_);go_simp;refine(seen ql O r r P s s _).mono ?_;rintro e wn ⟨rfl,f⟩;have a:=vv (a.o.below f);have i:=vv (i.o.below f);have l:=vv (l.o.below f);have j:=vv (j.o.below f);have b:=vn b f;clear f;go_wp2_with fail;refine hK.out _ _ ⟨⟨i.o.c0,i.o.c1,i.o.c2⟩,a.o.c0,a.o.c1,a.o.c2⟩ (fun H=>?_);clear hK;refine q03 rfl (by rfl) (fun K hK=>?_);go_simp;refine(seen ql X r c Y s d _).mono ?_;rintro e wn ⟨rfl,f⟩;have a:=vv (a.o.below f);have i:=vv (i.o.below f);have l:=vv (l.o.below f);have j:=vv (j.o.below f);have b:=vn b f;clear f;go_wp2_with fail;refine hK.out _ _ ⟨⟨i.o.c0,i.o.c1,i.o.c2⟩,a.o.c0,a.o.c1,a.o.c2⟩ (fun H=>?_);clear hK
 iterate 5
  refine q01 (v:=?_) rfl (by rfl) ?_ ?_;rotate_left
  ·intro w a7;go_simp;with_reducible rfl
  simp only[Act.put,sa,sb,sc]
 refine q03 rfl (by rfl) (fun K hK=>?_);go_simp;refine(b5.o _ g l.o).mono ?_;rintro e wn ⟨g9,rfl,e9,d7,f⟩;have a:=vv (a.o.below f);have i:=vv (i.o.below f);have l:=vv (l.o.below f);have j:=vv (j.o.below f);have b:=vn b f;have f3:=vv d7;clear f e9 d7;go_wp2_with fail;refine hK.out _ _ ⟨⟨i.o.c0,i.o.c1,i.o.c2⟩,a.o.c0,a.o.c1,a.o.c2⟩ (fun H=>?_);clear hK;refine q03 rfl (by rfl) (fun K hK=>?_);go_simp;refine(b7.o _ g9 g2 f3.o j.o).mono ?_;rintro e wn ⟨rfl,f⟩;have a:=vv (a.o.below f);have i:=vv (i.o.below f);have l:=vv (l.o.below f);have j:=vv (j.o.below f);have b:=vn b f;clear f;go_wp2_with fail;refine hK.out _ _ ⟨⟨i.o.c0,i.o.c1,i.o.c2⟩,a.o.c0,a.o.c1,a.o.c2⟩ (fun H=>?_);clear hK
 iterate 2
  refine q01 (v:=?_) rfl (by rfl) ?_ ?_;rotate_left
  ·intro w a7;go_simp;with_reducible rfl
  simp only[Act.put,sa,sb,sc]
 refine q0K rfl ?_;go_wp2;go_ret2;exact⟨g,rfl,by have:=c8.o;omega,l.o,b.o⟩
theorem q9L(neg:Bool)(X:Option qm)(n c:Nat)(Y:Option qm)(m d N D:Nat)(w:qk)(hX:Rd w X n c (toL N))(hY:Rd w Y m d (toL D))(hn:n<=16384)(hm:m<=16384)(hD:0<D)(hg:Nat.gcd N D=1)(h0:neg=ql->0<N)(hst:Std w):qn qj 109 #[q0i neg X n c Y m d] w fun e w'=>∃g,e=.returned (.tuple #[.pointer (qe ⟨g,0,qb⟩),.int .i64 0])/\w.heap.size<=g/\RatAt w' g (sg neg N) D/\qd w.heap.size w w':=by
 cases neg
 ·exact q4T X n c Y m d N D w hX hY hn hm hD hg hst
 ·exact q5Y X n c Y m d N D w hX hY hn hm hD hg (h0 rfl) hst
theorem Check(neg:Bool)(X:Option qm)(n c:Nat)(Y:Option qm)(m d N D:Nat)(w:qk)(hX:Rd w X n c (toL N))(hY:Rd w Y m d (toL D))(hn:n<=16384)(hm:m<=16384)(hD:0<D)(hg:Nat.gcd N D=1)(h0:neg=ql->0<N)(hst:Std w):qn qj 43 #[q0i neg X n c Y m d] w fun e w'=>e=.returned (.int .i64 0)/\qd w.heap.size w w':=by
 obtain⟨h,f⟩:=yx (w.alloc (.cells #[.bool neg,.slice X n c,.slice Y m d] 39));have a:qd w.heap.size w h:=by rw[f];exact(qa _ w).alloc lr _
 have b:RatioBox h w.heap.size neg X n c Y m d:=by rw[f];exact RatioBox.made w _ _ _ _ _ _ _ _
 have l:=vv (q9L neg X n c Y m d N D h (hX.below a rfl) (hY.below a rfl) hn hm hD hg h0 (hst.fs (Fs.of_nil a)));have k:=vv f;have i:=vv a;have p:=b.c0;have q:=b.c1;have r:=b.c2;have fl:=b.lt;clear hX hY hn hm hD hg h0 hst f a b;go_enter func43,ntmps43;go_wp2_with fail;rw[<- k.o];refine l.o.mono ?_;rintro e s ⟨g,rfl,-,-,j⟩;have i:=vn i j;clear j;go_wp2;go_ret;exact⟨rfl,i.o⟩
end Go.Proofs.YtabcgemembkkcaaGreatDoor.Rtp
namespace Go.Proofs.YtabcgemembkkcaaGreatDoor.R5
open Go Go.RowKit
theorem RatioBox.belowLt{B:Nat}{w w':qk}{g:Nat}{neg:Bool}{X:Option qm}{n c:Nat}{Y:Option qm}{m d:Nat}(h:RatioBox w g neg X n c Y m d)(hb:qd B w w')(hl:g<B):RatioBox w' g neg X n c Y m d:=⟨(hb.cell (p:=⟨g,0,qb⟩) hl).trans h.c0,(hb.cell (p:=⟨g,1,qb⟩) hl).trans h.c1,(hb.cell (p:=⟨g,2,qb⟩) hl).trans h.c2,k02 h.lt hb.size⟩
theorem FmAt.fs{l:List Ob}{w w':qk}{g:Nat}{E F:Int}(h:FmAt w g E F)(hf:Fs l w w')(hne:∀p∈l,p.1≠g):FmAt w' g E F:=⟨Rnd.Fs.cell0 hf h.c0 h.lt hne,Rnd.Fs.cell0 hf h.c1 h.lt hne,k02 h.lt hf.size⟩
end Go.Proofs.YtabcgemembkkcaaGreatDoor.R5
namespace Go.Proofs.YtabcgemembkkcaaGreatDoor.Rnd
open Go Go.RowKit R5
structure NbZero(w:qk)(g:Nat):Prop where
 c0:w.cell? ⟨g,0,qb⟩=qe (.pointer qb)
 c1:w.cell? ⟨g,1,qb⟩=qe (.pointer qb)
 fz:∀j,w.frozen? ⟨g,j,qb⟩=qg
 lt:g<w.heap.size
theorem NbZero.made(w:qk)(t:TypeId):NbZero (w.alloc (.cells #[.pointer qb,.pointer qb] t)) w.heap.size:=by constructor<;>first|(simp only[World.cell?];rw[qp];rfl)|(intro j;simp only[World.frozen?];rw[qp];simp)|simp
theorem NbZero.below{w w':qk}{g:Nat}(h:NbZero w g)(hb:qd w.heap.size w w'):NbZero w' g:=⟨(hb.cell (p:=⟨g,0,qb⟩) h.lt).trans h.c0,(hb.cell (p:=⟨g,1,qb⟩) h.lt).trans h.c1,fun j=>(hb.frozen (p:=⟨g,j,qb⟩) h.lt).trans (h.fz j),k02 h.lt hb.size⟩
theorem q3S(g gx gy y:Nat)(w:qk)(h:IntAt w g 0 0)(hx:IntAt w gx 0 10)(hy:IntAt w gy 0 (y:Int))(hb:y<=20000000):qn qj 92 #[.pointer (qe ⟨g,0,qb⟩),.pointer (qe ⟨gx,0,qb⟩),.pointer (qe ⟨gy,0,qb⟩),.pointer qb] w (q6m g 0 ((10^y:Nat):Int) w):=by
 rcases k01 y with e|e
 ·subst e;exact A.Exp0 g 0 gx 0 gy 0 0 10 w h hx hy
 ·exact A.Exp g 0 gx 0 gy 0 0 10 y w h hx hy (by decide) e (by have:=q6I y;unfold Sz;omega) (by unfold Sz;have:bl y<=y:=q0A Nat.lt_two_pow_self;omega)
theorem Scaled(G F:Nat)(below neg:Bool)(mode:Nat)(Ad:Option qm)(n c:Nat)(Bd:Option qm)(m d N:Nat)(x:Int)(w:qk)(g1:1<=G)(g2:G<=10)(h3:1<=F)(h4:F<=52)(hm:mode<=4)
  (ha:Rd w Ad n c (toL N)) (hb:Rd w Bd m d (toL 1)) (hn:n<=16384) (h0:below=ql->0<N) (hx1:-4611686018427387904<=x) (hx2:x<=4611686018427387904) (hst:Std w) :
  qn qj 34 #[fm ((G:Int)+1) F,q0i below Ad n c Bd m d,.int .i64 x,.bool neg,.int .u8 (mode:Int)] w (q2K (q0h (G+1) F below neg mode (N*t10 x) (t10 (-x))) w):=by
 have b9:bl N<=524288:=by have k1:=q0f N;rw[ha.words,q1q] at k1;have:=q0A k1;omega
 have eG:(((G+1:Nat):Int))=(G:Int)+1:=by omega
 have d4:=R3.chk_ok (Fms.formOk_in (E:=G+1) (F:=F) (by omega) (by omega) h3 h4);rw[eG] at d4;have i3:m=1:=hb.words.symm;obtain⟨W,a7⟩:=yx (w.alloc (.cells #[.int .i64 ((G:Int)+1),.int .i64 (F:Int)] 23));obtain⟨w1,c3⟩:=yx (W.alloc (.cells #[.bool below,.slice Ad n c,.slice Bd m d] 39));have d5:qd w.heap.size w W:=by rw[a7];exact(qa _ w).alloc lr _
 have d6:qd W.heap.size W w1:=by rw[c3];exact(qa _ W).alloc lr _
 have f6:W.heap.size=w.heap.size+1:=by rw[a7];simp
 have a8:FmAt w1 w.heap.size ((G:Int)+1) F:=(show FmAt W w.heap.size ((G:Int)+1) F by rw[a7];exact FmAt.made w _ _ _).below d6;have a4:RatioBox w1 (w.heap.size+1) below Ad n c Bd m d:=by rw[<- f6,c3];exact RatioBox.made W _ _ _ _ _ _ _ _
 have hB:qd w.heap.size w w1:=d5.trans (d6.mono d5.size);have r:=vv a8;have a:=vv a4;have l:=vv hB;have i4:qf (w1=(w.alloc (.cells #[.int .i64 ((G:Int)+1),.int .i64 (F:Int)] 23)).alloc (.cells #[.bool below,.slice Ad n c,.slice Bd m d] 39)):=vv (by rw[c3,a7]);have f7:=vv fun w=>Fms.Check ((G:Int)+1) F w
 rw[d4] at f7;have i5:=vv fun i (h:qd w.heap.size w i)=>Rtp.Check below Ad n c Bd m d N 1 i (ha.below h rfl) (hb.below h rfl) hn (by omega) (by decide) (k2n N) h0 (hst.fs (Fs.of_nil h))
 have f8:=vv fun i (h:qd w.heap.size w i)=>q8O Ad n c N i (ha.below h rfl) (by unfold Sz;omega)
 have d7:=vv fun i (h:qd w.heap.size w i)=>q8O Bd m d 1 i (hb.below h rfl) (by unfold Sz;decide)
 obtain⟨Q,q⟩:=yx (q3u x (bl N+1+1200));have d8:-16778717<=Q/\Q<=16778717:=by rw[q];unfold q3u;omega
 have d9:=vv fun w=>qbp x (bl N+1) w hx1 hx2 (by omega)
 have eK:q3u x (((bl N+1:Nat):Int)+1200)=Q:=by rw[q];congr 1
 rw[eK] at d9;obtain⟨y,hy⟩:=yx (Q.natAbs);have i6:y<=16778717:=by omega
 have a0:max Q (-Q)=(y:Int):=by omega
 have f9:=q6I y;have i7:=q0H N (10^y);obtain⟨X,hX⟩:=yx (N*t10 Q);obtain⟨Y,hY⟩:=yx (t10 (-Q));have g0:0<Y:=by rw[hY];exact q1w _
 have a9:0<=Q->(N:Int)*((10^y:Nat):Int)=(X:Int)/\Y=1:=by
  intro h;have L:Q.toNat=y:=by omega
  have U:(-Q).toNat=0:=by omega
  rw[hX,hY];unfold t10;rw[L,U];exact⟨(k08 _ _).symm,rfl⟩
 have c4:Q<0->(1:Int)*((10^y:Nat):Int)=(Y:Int)/\X=N:=by
  intro h;have L:(-Q).toNat=y:=by omega
  have U:Q.toNat=0:=by omega
  rw[hX,hY];unfold t10;rw[L,U];exact⟨Int.one_mul _,k0A _⟩
 have sX:Sm X:=by
  rcases k1l Q 0 with h|h
  ·rw[(c4 h).2];unfold Sm;omega
  ·have:=(a9 h).1;have e:X=N*10^y:=by
    have L:Q.toNat=y:=by omega
    rw[hX];unfold t10;rw[L]
   rw[e];unfold Sm;omega
 have sY:Sm Y:=by
  rcases k1l Q 0 with h|h
  ·have L:(-Q).toNat=y:=by omega
   rw[hY];unfold t10 Sm;rw[L];omega
  ·rw[(a9 h).2];unfold Sm;decide
 have hN:=q4U (E:=G+1) (F:=F) (N:=N) (below:=below) (neg:=neg) (mode:=mode) 1200 x (by omega) (by omega) h3 h4 (by omega);rw[<- q,<- hX,<- hY] at hN;rw[<- hN];have e0:=vv fun i g o g' o' (h:IntAt i g o (X:Int)) (h':IntAt i g' o' (Y:Int))=>q9g g o g' o' X Y G F below neg mode i h h' g0 sX sY g1 g2 h3 h4 hm
 obtain⟨S,hS⟩:=yx (q0h (G+1) F below neg mode X Y);rw[<- hS] at e0 ⊢;obtain⟨T,hT⟩:=yx (10^y);have g3:=vv fun i g gx gy (h:IntAt i g 0 0) (hx:IntAt i gx 0 10) (hy:IntAt i gy 0 (y:Int))=>q3S g gx gy y i h hx hy (by omega)
 rw[<- hT] at g3 a9 c4 f9;have i8:=vv fun i g gp (h:IntAt i g 0 (N:Int)) (t:IntAt i gp 0 (T:Int))=>A.Mul g 0 g 0 gp 0 (N:Int) (N:Int) (T:Int) i h h t (by rw[k05];unfold Sz;omega) (by rw[k05];unfold Sz;omega)
 have i9:=vv fun i g gp (h:IntAt i g 0 1) (t:IntAt i gp 0 (T:Int))=>A.Mul g 0 g 0 gp 0 1 1 (T:Int) i h h t (by unfold Sz;decide) (by rw[k05];unfold Sz;omega)
 have j0:=vv a9;have j1:=vv c4;have j8:(mode:Int)<=4:=by omega
 have dm:qc ((4:Int)<(mode:Int))=qg:=k00 (by omega);have e3:=vv fun i g (h:IntAt i g 0 (N:Int))=>A.BitLen g 0 (N:Int) i h
 simp only[k05] at e3;have f5:qf (∀i g,IntAt i g 0 1->qn qj 91 #[.pointer (qe ⟨g,0,qb⟩)] i fun e w''=>e=.returned (.int .i64 1)/\i=w''):=vv fun i g h=>(A.BitLen g 0 1 i h).mono (fun e w'' h=>⟨by rw[h.1];rfl,h.2⟩)
 obtain⟨b,g4⟩:=yx (bl N);rw[<- g4] at e3 d9;have j2:qf (IntKind.i64.wrap ((b:Int)+1)=((b+1:Nat):Int)):=vv (by rw[qo];omega);have j3:=vv fun i=>A.NewInt 10 i (by decide) (by decide)
 have j4:=vv fun i=>A.NewInt (y:Int) i (by omega) (by omega)
 have j9:Q<=16778717:=d8.2;have k0:-16778717<=Q:=d8.1;have f0:=a8.c0;have f1:=a8.c1;have r0:=a4.c0;have r1:=a4.c1;have r2:=a4.c2;have l0:=a8.lt;have l1:=a4.lt;have j5:=vv a0;have k2:(y:Int)<=16778717:=by omega
 clear ha hb hn h0 hx1 hx2 hst b9 a7 c3 d5 d6 f6 a8 a4 hB q d8 eK f9 i7 hm d4 hX hY g0 sX sY hN hS g4 eG i3 a9 c4 hT hy i6 a0;go_enter func34,ntmps34;go_wp2_with fail;rw[<- i4.o];refine(f7.o _).mono ?_;rintro e w2 ⟨rfl,c5⟩;have r:=vv (r.o.below c5);have a:=vv (a.o.below c5);have l:=vn l c5;obtain⟨r0,r1,r2,l1⟩:=a.o;clear c5 f0 f1 l0;go_wp2_with fail;refine(i5.o _ l.o).mono ?_;rintro e w3 ⟨rfl,c6⟩;have r:=vv (r.o.below c6);have a:=vv (a.o.below c6);have l:=vn l c6;clear c6 r0 r1 r2 l1;go_wp2_with fail;refine q02 (fun i=>i.cell? ⟨w.heap.size+1,1,qb⟩=qe (.slice Ad n c)/\i.cell? ⟨w.heap.size+1,2,qb⟩=qe (.slice Bd m d)) 8
  (.still 0 (.still 1 (.still 3 (.still 4 (.two 2 (.two 5 (.still 6 (.one 7 .done)) 7 (.one 5 (.still 6 .done))) 7 (.one 2 (.one 5 (.still 6 .done))))))))
  (by kernel_rfl) (by kernel_rfl) (fun _ _ d _ _ h=>by cases d<;>exact h) ⟨a.o.c1,a.o.c2⟩ (fun hS0=>?_)
 have r:qf (FmAt w3.drew w.heap.size ((G:Int)+1) F):=vv (r.o.below (q05 (qa _ _)));have a:qf (RatioBox w3.drew (w.heap.size+1) below Ad n c Bd m d):=vv a.o.drew;have l:qf (qd w.heap.size w w3.drew):=vv (q05 l.o);obtain⟨wc,g5⟩:=yx (w3.drew);rw[<- g5] at r a l hS0 ⊢;clear g5
 iterate 4
  refine q01 (v:=?_) rfl (by rfl) ?_ ?_;rotate_left
  ·intro w b0;go_simp;with_reducible rfl
  simp only[Act.put,sa,sb,sc]
 refine q0C rfl (by rfl) rfl (by rfl) (fun K q=>?_) (fun K q=>?_)
 focus
  go_simp;refine(f8.o _ l.o).mono ?_;rintro e wn ⟨C,rfl,e4,J,f⟩;have c7:qf (w.heap.size+1<C):=vv (by have:=a.o.lt;omega)
  try have b1:qf (g≠C):=vv (by have:=D.o.lt;omega)
  try have D:=vv (D.o.below f)
  try have s:=vv (s.o.below f)
  try have u:=vv (u.o.below f)
  have r:=vv (r.o.below f);have a:=vv (a.o.below f);have l:=vn l f;clear f;have s:=vv J;clear J e4;obtain⟨wc,rfl⟩:=yx wn;go_wp2_with fail;refine q.out _ _ ⟨a.o.c1,a.o.c2⟩ (fun R=>?_);clear q;refine q0C rfl (by rfl) rfl (by rfl) (fun K q=>?_) (fun K q=>?_)
  focus
   go_simp;refine(d7.o _ l.o).mono ?_;rintro e wn ⟨z,rfl,b2,J,f⟩;have b3:qf (w.heap.size+1<z):=vv (by have:=a.o.lt;omega);have c8:qf (C≠z):=vv (by have:=s.o.lt;omega)
   try have a5:qf (g≠z):=vv (by have:=D.o.lt;omega)
   try have D:=vv (D.o.below f)
   try have s:=vv (s.o.below f)
   try have u:=vv (u.o.below f)
   have r:=vv (r.o.below f);have a:=vv (a.o.below f);have l:=vn l f;clear f;have u:=vv (show IntAt wn z 0 1 from J);clear J b2;obtain⟨wc,rfl⟩:=yx wn;go_wp2_with fail;refine q.out _ _ ⟨a.o.c1,a.o.c2⟩ (fun R=>?_);clear q
   iterate 1
    refine q01 (v:=?_) rfl (by rfl) ?_ ?_;rotate_left
    ·intro w b0;go_simp;with_reducible rfl
    simp only[Act.put,sa,sb,sc]
   refine q03 rfl (by rfl) (fun K q=>?_);go_simp;obtain⟨g,O⟩:=yx (wc.heap.size);obtain⟨wn,I⟩:=yx (wc.alloc (.cells #[.pointer qb,.pointer qb] 140));have f:qd wc.heap.size wc wn:=by rw[I];exact(qa _ _).alloc lr _
   have Z:NbZero wn g:=by rw[I,O];exact NbZero.made _ _
   have b4:qf (w.heap.size+1<g):=vv (by have:=a.o.lt;omega)
   try have b1:qf (g≠C):=vv (by have:=s.o.lt;omega)
   try have a5:qf (g≠z):=vv (by have:=u.o.lt;omega)
   rw[<- I,<- O]
   try have D:=vv (D.o.below f)
   try have s:=vv (s.o.below f)
   try have u:=vv (u.o.below f)
   have r:=vv (r.o.below f);have a:=vv (a.o.below f);have l:=vn l f;clear f;have D:=vv Z;clear Z I O;obtain⟨wc,rfl⟩:=yx wn;go_wp2_with fail;refine q.out _ _ ⟨a.o.c1,a.o.c2⟩ (fun R=>?_);clear q
  rotate_left 1
  focus
   go_simp;obtain⟨g,O⟩:=yx (wc.heap.size);obtain⟨wn,I⟩:=yx (wc.alloc (.cells #[.pointer qb,.pointer qb] 140));have f:qd wc.heap.size wc wn:=by rw[I];exact(qa _ _).alloc lr _
   have Z:NbZero wn g:=by rw[I,O];exact NbZero.made _ _
   have b4:qf (w.heap.size+1<g):=vv (by have:=a.o.lt;omega)
   try have b1:qf (g≠C):=vv (by have:=s.o.lt;omega)
   try have a5:qf (g≠z):=vv (by have:=u.o.lt;omega)
   rw[<- I,<- O]
   try have D:=vv (D.o.below f)
   try have s:=vv (s.o.below f)
   try have u:=vv (u.o.below f)
   have r:=vv (r.o.below f);have a:=vv (a.o.below f);have l:=vn l f;clear f;have D:=vv Z;clear Z I O;obtain⟨wc,rfl⟩:=yx wn;go_wp2_with fail;refine q.out _ _ ⟨a.o.c1,a.o.c2⟩ (fun R=>?_);clear q;refine q03 rfl (by rfl) (fun K q=>?_);go_simp;refine(d7.o _ l.o).mono ?_;rintro e wn ⟨z,rfl,b2,J,f⟩;have b3:qf (w.heap.size+1<z):=vv (by have:=a.o.lt;omega);have c8:qf (C≠z):=vv (by have:=s.o.lt;omega)
   try have a5:qf (g≠z):=vv (by have:=D.o.lt;omega)
   try have D:=vv (D.o.below f)
   try have s:=vv (s.o.below f)
   try have u:=vv (u.o.below f)
   have r:=vv (r.o.below f);have a:=vv (a.o.below f);have l:=vn l f;clear f;have u:=vv (show IntAt wn z 0 1 from J);clear J b2;obtain⟨wc,rfl⟩:=yx wn;go_wp2_with fail;refine q.out _ _ ⟨a.o.c1,a.o.c2⟩ (fun R=>?_);clear q
   iterate 1
    refine q01 (v:=?_) rfl (by rfl) ?_ ?_;rotate_left
    ·intro w b0;go_simp;with_reducible rfl
    simp only[Act.put,sa,sb,sc]
 rotate_left 2
 focus
  go_simp;obtain⟨g,O⟩:=yx (wc.heap.size);obtain⟨wn,I⟩:=yx (wc.alloc (.cells #[.pointer qb,.pointer qb] 140));have f:qd wc.heap.size wc wn:=by rw[I];exact(qa _ _).alloc lr _
  have Z:NbZero wn g:=by rw[I,O];exact NbZero.made _ _
  have b4:qf (w.heap.size+1<g):=vv (by have:=a.o.lt;omega)
  try have b1:qf (g≠C):=vv (by have:=s.o.lt;omega)
  try have a5:qf (g≠z):=vv (by have:=u.o.lt;omega)
  rw[<- I,<- O]
  try have D:=vv (D.o.below f)
  try have s:=vv (s.o.below f)
  try have u:=vv (u.o.below f)
  have r:=vv (r.o.below f);have a:=vv (a.o.below f);have l:=vn l f;clear f;have D:=vv Z;clear Z I O;obtain⟨wc,rfl⟩:=yx wn;go_wp2_with fail;refine q.out _ _ ⟨a.o.c1,a.o.c2⟩ (fun R=>?_);clear q;refine q03 rfl (by rfl) (fun K q=>?_);go_simp;refine(f8.o _ l.o).mono ?_;rintro e wn ⟨C,rfl,e4,J,f⟩;have c7:qf (w.heap.size+1<C):=vv (by have:=a.o.lt;omega)
  try have b1:qf (g≠C):=vv (by have:=D.o.lt;omega)
  try have D:=vv (D.o.below f)
  try have s:=vv (s.o.below f)
  try have u:=vv (u.o.below f)
  have r:=vv (r.o.below f);have a:=vv (a.o.below f);have l:=vn l f;clear f;have s:=vv J;clear J e4;obtain⟨wc,rfl⟩:=yx wn;go_wp2_with fail;refine q.out _ _ ⟨a.o.c1,a.o.c2⟩ (fun R=>?_);clear q;refine q03 rfl (by rfl) (fun K q=>?_);go_simp;refine(d7.o _ l.o).mono ?_;rintro e wn ⟨z,rfl,b2,J,f⟩;have b3:qf (w.heap.size+1<z):=vv (by have:=a.o.lt;omega);have c8:qf (C≠z):=vv (by have:=s.o.lt;omega)
  try have a5:qf (g≠z):=vv (by have:=D.o.lt;omega)
  try have D:=vv (D.o.below f)
  try have s:=vv (s.o.below f)
  try have u:=vv (u.o.below f)
  have r:=vv (r.o.below f);have a:=vv (a.o.below f);have l:=vn l f;clear f;have u:=vv (show IntAt wn z 0 1 from J);clear J b2;obtain⟨wc,rfl⟩:=yx wn;go_wp2_with fail;refine q.out _ _ ⟨a.o.c1,a.o.c2⟩ (fun R=>?_);clear q
  iterate 1
   refine q01 (v:=?_) rfl (by rfl) ?_ ?_;rotate_left
   ·intro w b0;go_simp;with_reducible rfl
   simp only[Act.put,sa,sb,sc]
 all_goals
  refine q07 ?_;have z0:=D.o.c0;have z1:=D.o.c1;have fz:=D.o.fz;have zl:=D.o.lt;obtain⟨P,a6⟩:=yx ((wc.setCell ⟨g,0,qb⟩ (.pointer (qe ⟨C,0,qb⟩))).setCell ⟨g,1,qb⟩ (.pointer (qe ⟨z,0,qb⟩)));have c9:(wc.setCell ⟨g,0,qb⟩ (.pointer (qe ⟨C,0,qb⟩))).cell? ⟨g,0,qb⟩=qe (.pointer (qe ⟨C,0,qb⟩)):=q0p z0;have a3:(⟨g,0,qb⟩:qm)≠⟨g,1,qb⟩:=fun e=>by injection e with _ e;exact absurd e (by decide)
  have b7:IntAt P C 0 (N:Int):=by rw[a6];exact(s.o.setPtr (j:=0) z0 _).setPtr (j:=1) c9 _
  have b8:IntAt P z 0 1:=by rw[a6];exact(u.o.setPtr (j:=0) z0 _).setPtr (j:=1) c9 _
  have d0:qd g wc P:=by rw[a6];exact((qa g wc).setCell (p:=⟨g,0,qb⟩) lr _).setCell (p:=⟨g,1,qb⟩) lr _
  have b9:NbBox P g C 0 z 0:=by rw[a6];exact⟨(q0o a3.symm).trans c9,q0p ((q0o a3).trans z1),by simpa [World.setCell] using zl⟩
  have r:=vv (r.o.belowLt d0 (by have:=b4.o;omega));have a:=vv (a.o.belowLt d0 (by have:=b4.o;omega));have l:=vv (l.o.trans (d0.mono (by have:=b4.o;omega)));have s:=vv b7;have u:=vv b8;have H:=vv b9;have g6:=vv a6;clear c9 a3 b7 b8 d0 b9 a6;go_wp2_with fail;rw[<- g6.o];clear g6 z0 z1 fz zl;refine q02 (fun i=>i.cell? ⟨g,0,qb⟩=qe (.pointer (qe ⟨C,0,qb⟩))/\i.cell? ⟨g,1,qb⟩=qe (.pointer (qe ⟨z,0,qb⟩))) 9
   (.still 0 (.still 1 (.still 2 (.still 4 (.still 5 (.one 3 (.one 6 (.still 7 (.one 8 .done))))))))) (by kernel_rfl) (by kernel_rfl) (fun _ _ d _ _ h=>by cases d<;>exact h) ⟨H.o.c0,H.o.c1⟩ (fun hS0=>?_)
  have r:qf (FmAt P.drew w.heap.size ((G:Int)+1) F):=vv (r.o.below (q05 (qa _ _)));have a:qf (RatioBox P.drew (w.heap.size+1) below Ad n c Bd m d):=vv a.o.drew;have l:qf (qd w.heap.size w P.drew):=vv (q05 l.o);have s:qf (IntAt P.drew C 0 (N:Int)):=vv s.o.drew;have u:qf (IntAt P.drew z 0 1):=vv u.o.drew;have H:qf (NbBox P.drew g C 0 z 0):=vv H.o.drew;obtain⟨wd,g7⟩:=yx (P.drew);rw[<- g7] at r a l s u H hS0 ⊢;clear g7;have xl:=H.o.lt
  iterate 5
   refine q01 (v:=?_) rfl (by rfl) ?_ ?_;rotate_left
   ·intro w b0;go_simp;with_reducible rfl
   simp only[Act.put,sa,sb,sc]
  refine q03 rfl (by rfl) (fun K q=>?_);go_simp;refine(e3.o _ C s.o).mono ?_;rintro e i ⟨rfl,rfl⟩;go_wp2_with fail;refine q.out _ _ ⟨H.o.c0,H.o.c1⟩ (fun R=>?_);clear q;refine q03 rfl (by rfl) (fun K q=>?_);go_simp;refine(f5.o _ z u.o).mono ?_;rintro e i ⟨rfl,rfl⟩;go_wp2_with fail;refine q.out _ _ ⟨H.o.c0,H.o.c1⟩ (fun R=>?_);clear q
  iterate 1
   refine q01 (v:=?_) rfl (by rfl) ?_ ?_;rotate_left
   ·intro w b0;go_simp;with_reducible rfl
   simp only[Act.put,sa,sb,sc]
  rw[j2.o];refine q03 rfl (by rfl) (fun K q=>?_);go_simp;refine(d9.o _).mono ?_;rintro e i ⟨rfl,rfl⟩;go_wp2_with fail;refine q.out _ _ ⟨H.o.c0,H.o.c1⟩ (fun R=>?_);clear q xl;refine q07 ?_;obtain⟨gz,e5⟩:=yx (wd.heap.size);obtain⟨wz,d1⟩:=yx (wd.alloc (.cells #[.bool qg,.slice qb 0 0] 142));have g8:qd wd.heap.size wd wz:=by rw[d1];exact(qa _ _).alloc lr _
  have b5:IntAt wz gz 0 0:=by rw[d1,e5];exact IntAt.zero _ _
  have a1:=vv g8;have V:=vv b5;have g9:=vv d1;have e6:=vv e5;clear e5 d1 g8 b5;go_wp2_with fail;rw[<- g9.o,<- e6.o];refine(j3.o _).mono ?_;rintro e wt ⟨gT,rfl,j6,i0,e7⟩;have V:=vv (V.o.below e7);have a1:=vn a1 e7;have d2:=vv i0;clear i0 e7 j6 g9;have a0:=j5.o;go_wp2_with fail;clear a0;refine(j4.o _).mono ?_;rintro e wy ⟨gY,rfl,j7,i1,d3⟩;have V:=vv (V.o.below d3);have a1:=vn a1 d3;have d2:=vv (d2.o.below d3);have i2:=vv i1;clear i1 d3 j7;go_wp2_with fail;refine(g3.o _ gz gT gY V.o d2.o i2.o).mono ?_;rintro e we hP;have a2:=hP.below a1.o a1.o.size (by have:=e6.o;omega);obtain⟨rfl,b5,-⟩:=hP;have V:=vv b5;have r:=vv (r.o.below a2);have a:=vv (a.o.below a2);have l:=vn l a2;have s:=vv (s.o.below a2);have u:=vv (u.o.below a2);have H:=vv (H.o.below a2);obtain⟨x0,x1,xl⟩:=H.o;clear a2 b5 a1 d2 i2 e6;by_cases hneg:Q<0
  ·obtain⟨L,U⟩:=j1.o hneg;have dK:qc (Q<0)=ql:=k03 hneg;have e8:=vv L;have e9:=vv U;clear L U hneg;go_wp2_with fail;refine(i9.o _ z gz u.o V.o).mono ?_;rintro e wm ⟨rfl,hi,hf⟩;rw[e8.o] at hi;have M:=hf.fs u.o hi;have f2:=vv hi;have f3:qf (IntAt wm C 0 (X:Int)):=vv (by rw[e9.o];exact s.o.fs M (by intro p t k;simp at t;rw[t] at k;exact absurd k.symm c8.o));have a:=vv (a.o.fs M (by intro p t;simp at t;rw[t];have:=b3.o;show z≠_;omega));have r:=vv (r.o.fs M (by intro p t;simp at t;rw[t];have:=b3.o;show z≠_;omega));have H:=vv (H.o.fs M (by intro p t;simp at t;rw[t];exact Ne.symm a5.o));have l:=vv (M.below l.o l.o.size (by intro p t;simp at t;rw[t];have:=b3.o;show w.heap.size<=z;omega));clear hi hf M;obtain⟨x0,x1,xl⟩:=H.o;obtain⟨f0,f1,l0⟩:=r.o;have r0:=a.o.c0;have l1:=a.o.lt;go_wp2_with fail;refine(e0.o _ C 0 z 0 f3.o f2.o).mono ?_;rintro e w8 ⟨rfl,b6⟩;have f4:=vn l b6;clear b6 x0 x1 xl f0 f1 l0 r0 l1;go_wp2;go_ret3;exact⟨rfl,f4.o⟩
  ·obtain⟨L,U⟩:=j0.o (by omega);have dK:qc (Q<0)=qg:=k00 hneg;have e8:=vv L;have e9:=vv U;clear L U hneg;go_wp2_with fail;refine(i8.o _ C gz s.o V.o).mono ?_;rintro e wm ⟨rfl,hi,hf⟩;rw[e8.o] at hi;have M:=hf.fs s.o hi;have f3:=vv hi;have f2:qf (IntAt wm z 0 (Y:Int)):=vv (by rw[e9.o];exact u.o.fs M (by intro p t k;simp at t;rw[t] at k;exact absurd k c8.o));have a:=vv (a.o.fs M (by intro p t;simp at t;rw[t];have:=c7.o;show C≠_;omega));have r:=vv (r.o.fs M (by intro p t;simp at t;rw[t];have:=c7.o;show C≠_;omega));have H:=vv (H.o.fs M (by intro p t;simp at t;rw[t];exact Ne.symm b1.o));have l:=vv (M.below l.o l.o.size (by intro p t;simp at t;rw[t];have:=c7.o;show w.heap.size<=C;omega));clear hi hf M;obtain⟨x0,x1,xl⟩:=H.o;obtain⟨f0,f1,l0⟩:=r.o;have r0:=a.o.c0;have l1:=a.o.lt;go_wp2_with fail;refine(e0.o _ C 0 z 0 f3.o f2.o).mono ?_;rintro e w8 ⟨rfl,b6⟩;have f4:=vn l b6;clear b6 x0 x1 xl f0 f1 l0 r0 l1;go_wp2;go_ret3;exact⟨rfl,f4.o⟩
end Go.Proofs.YtabcgemembkkcaaGreatDoor.Rnd
namespace Go.Proofs.YtabcgemembkkcaaGreatDoor.R5
open Go Go.RowKit
theorem q4p{E F N D:Nat}(hD:0<D){below neg:Bool}{mode:Nat}(c n:Int)(h1:2<=E)(h2:E<=11)(h3:1<=F)(h4:F<=52)(hc:1200<=c):q0h E F below neg mode (N*t10 (q3u n (bl N+bl D+c))) (D*t10 (-q3u n (bl N+bl D+c)))=q0h E F below neg mode (N*t10 n) (D*t10 (-n)):=by
 rcases k01 N with d|d
 ·subst d;simp [q0h]
 ·have k:=q4x (E:=E) (F:=F) (neg:=below) (mode:=mode) (a:=N) (b:=D) c n h1 h2 h3 h4 d hD hc;have e:=k0l d (q1w (q3u n (bl N+bl D+c)));have p2:=k0l d (q1w n);unfold q0h;rw[k0o (by omega),k0o (by omega),k]
end Go.Proofs.YtabcgemembkkcaaGreatDoor.R5
namespace Go.Proofs.YtabcgemembkkcaaGreatDoor.Rnd
open Go Go.RowKit R5
theorem qaE(G F:Nat)(below neg:Bool)(mode:Nat)(Ad:Option qm)(n c:Nat)(Bd:Option qm)(m d N D:Nat)(x:Int)(w:qk)(g1:1<=G)(g2:G<=10)(h3:1<=F)(h4:F<=52)(hm:mode<=4)
  (ha:Rd w Ad n c (toL N)) (hb:Rd w Bd m d (toL D)) (hn:n<=16384) (hmm:m<=16384) (hD:0<D) (hg:Nat.gcd N D=1) (h0:below=ql->0<N) (hx1:-4611686018427387904<=x) (hx2:x<=4611686018427387904) (hst:Std w) :
  qn qj 34 #[fm ((G:Int)+1) F,q0i below Ad n c Bd m d,.int .i64 x,.bool neg,.int .u8 (mode:Int)] w (q2K (q0h (G+1) F below neg mode (N*t10 x) (D*t10 (-x))) w):=by
 have c5:bl N<=524288:=by have k1:=q0f N;rw[ha.words,q1q] at k1;have:=q0A k1;omega
 have i5:bl D<=524288:=by have k1:=q0f D;rw[hb.words,q1q] at k1;have:=q0A k1;omega
 have eG:(((G+1:Nat):Int))=(G:Int)+1:=by omega
 have d8:=R3.chk_ok (Fms.formOk_in (E:=G+1) (F:=F) (by omega) (by omega) h3 h4);rw[eG] at d8;obtain⟨W,a8⟩:=yx (w.alloc (.cells #[.int .i64 ((G:Int)+1),.int .i64 (F:Int)] 23));obtain⟨w1,c6⟩:=yx (W.alloc (.cells #[.bool below,.slice Ad n c,.slice Bd m d] 39));have d9:qd w.heap.size w W:=by rw[a8];exact(qa _ w).alloc lr _
 have e0:qd W.heap.size W w1:=by rw[c6];exact(qa _ W).alloc lr _
 have f8:W.heap.size=w.heap.size+1:=by rw[a8];simp
 have a9:FmAt w1 w.heap.size ((G:Int)+1) F:=(show FmAt W w.heap.size ((G:Int)+1) F by rw[a8];exact FmAt.made w _ _ _).below e0;have a5:RatioBox w1 (w.heap.size+1) below Ad n c Bd m d:=by rw[<- f8,c6];exact RatioBox.made W _ _ _ _ _ _ _ _
 have hB:qd w.heap.size w w1:=d9.trans (e0.mono d9.size);have r:=vv a9;have a:=vv a5;have i:=vv hB;have i6:qf (w1=(w.alloc (.cells #[.int .i64 ((G:Int)+1),.int .i64 (F:Int)] 23)).alloc (.cells #[.bool below,.slice Ad n c,.slice Bd m d] 39)):=vv (by rw[c6,a8]);have f9:=vv fun w=>Fms.Check ((G:Int)+1) F w
 rw[d8] at f9;have i7:=vv fun l (h:qd w.heap.size w l)=>Rtp.Check below Ad n c Bd m d N D l (ha.below h rfl) (hb.below h rfl) hn hmm hD hg h0 (hst.fs (Fs.of_nil h))
 have g0:=vv fun l (h:qd w.heap.size w l)=>q8O Ad n c N l (ha.below h rfl) (by unfold Sz;omega)
 have e3:=vv fun l (h:qd w.heap.size w l)=>q8O Bd m d D l (hb.below h rfl) (by unfold Sz;omega)
 obtain⟨Q,q⟩:=yx (q3u x (bl N+bl D+1200));have e4:-16778717<=Q/\Q<=16778717:=by rw[q];unfold q3u;omega
 have c7:=vv fun w=>qbp x (bl N+bl D) w hx1 hx2 (by omega)
 have eK:q3u x (((bl N+bl D:Nat):Int)+1200)=Q:=by rw[q];congr 1
 rw[eK] at c7;obtain⟨y,hy⟩:=yx (Q.natAbs);have i8:y<=16778717:=by omega
 have a0:max Q (-Q)=(y:Int):=by omega
 have g3:=q6I y;have i9:=q0H N (10^y);have j0:=q0H D (10^y);obtain⟨X,hX⟩:=yx (N*t10 Q);obtain⟨Y,hY⟩:=yx (D*t10 (-Q));have g4:0<Y:=by rw[hY];exact k0l hD (q1w _)
 have b0:0<=Q->(N:Int)*((10^y:Nat):Int)=(X:Int)/\Y=D:=by
  intro h;have M:Q.toNat=y:=by omega
  have U:(-Q).toNat=0:=by omega
  rw[hX,hY];unfold t10;rw[M,U];exact⟨(k08 _ _).symm,k0A _⟩
 have c8:Q<0->(D:Int)*((10^y:Nat):Int)=(Y:Int)/\X=N:=by
  intro h;have M:(-Q).toNat=y:=by omega
  have U:Q.toNat=0:=by omega
  rw[hX,hY];unfold t10;rw[M,U];exact⟨(k08 _ _).symm,k0A _⟩
 have sX:Sm X:=by
  rcases k1l Q 0 with h|h
  ·rw[(c8 h).2];unfold Sm;omega
  ·have:=(b0 h).1;have e:X=N*10^y:=by
    have M:Q.toNat=y:=by omega
    rw[hX];unfold t10;rw[M]
   rw[e];unfold Sm;omega
 have sY:Sm Y:=by
  rcases k1l Q 0 with h|h
  ·have M:(-Q).toNat=y:=by omega
   rw[hY];unfold t10 Sm;rw[M];omega
  ·rw[(b0 h).2];unfold Sm;omega
 have hN:=q4p (E:=G+1) (F:=F) (N:=N) (D:=D) hD (below:=below) (neg:=neg) (mode:=mode) 1200 x (by omega) (by omega) h3 h4 (by omega);rw[<- q,<- hX,<- hY] at hN;rw[<- hN];have e5:=vv fun l g o g' o' (h:IntAt l g o (X:Int)) (h':IntAt l g' o' (Y:Int))=>q9g g o g' o' X Y G F below neg mode l h h' g4 sX sY g1 g2 h3 h4 hm
 obtain⟨S,hS⟩:=yx (q0h (G+1) F below neg mode X Y);rw[<- hS] at e5 ⊢;obtain⟨T,hT⟩:=yx (10^y);have g5:=vv fun l g gx gy (h:IntAt l g 0 0) (hx:IntAt l gx 0 10) (hy:IntAt l gy 0 (y:Int))=>q3S g gx gy y l h hx hy (by omega)
 rw[<- hT] at g5 b0 c8 g3;have j1:=vv fun l g gp (h:IntAt l g 0 (N:Int)) (t:IntAt l gp 0 (T:Int))=>A.Mul g 0 g 0 gp 0 (N:Int) (N:Int) (T:Int) l h h t (by rw[k05];unfold Sz;omega) (by rw[k05];unfold Sz;omega)
 have j2:=vv fun l g gp (h:IntAt l g 0 (D:Int)) (t:IntAt l gp 0 (T:Int))=>A.Mul g 0 g 0 gp 0 (D:Int) (D:Int) (T:Int) l h h t (by rw[k05];unfold Sz;omega) (by rw[k05];unfold Sz;omega)
 have j3:=vv b0;have j4:=vv c8;have k2:(mode:Int)<=4:=by omega
 have dm:qc ((4:Int)<(mode:Int))=qg:=k00 (by omega);have e6:=vv fun l g (h:IntAt l g 0 (N:Int))=>A.BitLen g 0 (N:Int) l h
 simp only[k05] at e6;have a3:=vv fun l g (h:IntAt l g 0 (D:Int))=>A.BitLen g 0 (D:Int) l h
 simp only[k05] at a3;obtain⟨b,g6⟩:=yx (bl N);obtain⟨b2,b9⟩:=yx (bl D);rw[<- g6] at e6 c7;rw[<- b9] at a3 c7;have j5:qf (IntKind.i64.wrap ((b:Int)+(b2:Int))=((b+b2:Nat):Int)):=vv (by rw[qo];omega);have j6:=vv fun l=>A.NewInt 10 l (by decide) (by decide)
 have j7:=vv fun l=>A.NewInt (y:Int) l (by omega) (by omega)
 have k3:Q<=16778717:=e4.2;have k4:-16778717<=Q:=e4.1;have f0:=a9.c0;have f1:=a9.c1;have r0:=a5.c0;have r1:=a5.c1;have r2:=a5.c2;have l0:=a9.lt;have l1:=a5.lt;have j8:=vv a0;have k5:(y:Int)<=16778717:=by omega
 clear ha hb hn hmm hD hg i5 j0 b9 h0 hx1 hx2 hst c5 a8 c6 d9 e0 f8 a9 a5 hB q e4 eK g3 i9 hm d8 hX hY g4 sX sY hN hS g6 eG b0 c8 hT hy i8 a0;go_enter func34,ntmps34;go_wp2_with fail;rw[<- i6.o];refine(f9.o _).mono ?_;rintro e w2 ⟨rfl,c9⟩;have r:=vv (r.o.below c9);have a:=vv (a.o.below c9);have i:=vn i c9;obtain⟨r0,r1,r2,l1⟩:=a.o;clear c9 f0 f1 l0;go_wp2_with fail;refine(i7.o _ i.o).mono ?_;rintro e w3 ⟨rfl,d0⟩;have r:=vv (r.o.below d0);have a:=vv (a.o.below d0);have i:=vn i d0;clear d0 r0 r1 r2 l1;go_wp2_with fail;refine q02 (fun l=>l.cell? ⟨w.heap.size+1,1,qb⟩=qe (.slice Ad n c)/\l.cell? ⟨w.heap.size+1,2,qb⟩=qe (.slice Bd m d)) 8
  (.still 0 (.still 1 (.still 3 (.still 4 (.two 2 (.two 5 (.still 6 (.one 7 .done)) 7 (.one 5 (.still 6 .done))) 7 (.one 2 (.one 5 (.still 6 .done))))))))
  (by kernel_rfl) (by kernel_rfl) (fun _ _ d _ _ h=>by cases d<;>exact h) ⟨a.o.c1,a.o.c2⟩ (fun hS0=>?_)
 have r:qf (FmAt w3.drew w.heap.size ((G:Int)+1) F):=vv (r.o.below (q05 (qa _ _)));have a:qf (RatioBox w3.drew (w.heap.size+1) below Ad n c Bd m d):=vv a.o.drew;have i:qf (qd w.heap.size w w3.drew):=vv (q05 i.o);obtain⟨wc,g7⟩:=yx (w3.drew);rw[<- g7] at r a i hS0 ⊢;clear g7
 iterate 4
  refine q01 (v:=?_) rfl (by rfl) ?_ ?_;rotate_left
  ·intro w b1;go_simp;with_reducible rfl
  simp only[Act.put,sa,sb,sc]
 refine q0C rfl (by rfl) rfl (by rfl) (fun K q=>?_) (fun K q=>?_)
 focus
  go_simp;refine(g0.o _ i.o).mono ?_;rintro e wn ⟨C,rfl,e7,L,f⟩;have d1:qf (w.heap.size+1<C):=vv (by have:=a.o.lt;omega)
  try have b3:qf (g≠C):=vv (by have:=H.o.lt;omega)
  try have H:=vv (H.o.below f)
  try have s:=vv (s.o.below f)
  try have u:=vv (u.o.below f)
  have r:=vv (r.o.below f);have a:=vv (a.o.below f);have i:=vn i f;clear f;have s:=vv L;clear L e7;obtain⟨wc,rfl⟩:=yx wn;go_wp2_with fail;refine q.out _ _ ⟨a.o.c1,a.o.c2⟩ (fun R=>?_);clear q;refine q0C rfl (by rfl) rfl (by rfl) (fun K q=>?_) (fun K q=>?_)
  focus
   go_simp;refine(e3.o _ i.o).mono ?_;rintro e wn ⟨z,rfl,b4,L,f⟩;have b5:qf (w.heap.size+1<z):=vv (by have:=a.o.lt;omega);have d2:qf (C≠z):=vv (by have:=s.o.lt;omega)
   try have a6:qf (g≠z):=vv (by have:=H.o.lt;omega)
   try have H:=vv (H.o.below f)
   try have s:=vv (s.o.below f)
   try have u:=vv (u.o.below f)
   have r:=vv (r.o.below f);have a:=vv (a.o.below f);have i:=vn i f;clear f;have u:=vv (show IntAt wn z 0 (D:Int) from L);clear L b4;obtain⟨wc,rfl⟩:=yx wn;go_wp2_with fail;refine q.out _ _ ⟨a.o.c1,a.o.c2⟩ (fun R=>?_);clear q
   iterate 1
    refine q01 (v:=?_) rfl (by rfl) ?_ ?_;rotate_left
    ·intro w b1;go_simp;with_reducible rfl
    simp only[Act.put,sa,sb,sc]
   refine q03 rfl (by rfl) (fun K q=>?_);go_simp;obtain⟨g,hg⟩:=yx (wc.heap.size);obtain⟨wn,J⟩:=yx (wc.alloc (.cells #[.pointer qb,.pointer qb] 140));have f:qd wc.heap.size wc wn:=by rw[J];exact(qa _ _).alloc lr _
   have Z:NbZero wn g:=by rw[J,hg];exact NbZero.made _ _
   have b6:qf (w.heap.size+1<g):=vv (by have:=a.o.lt;omega)
   try have b3:qf (g≠C):=vv (by have:=s.o.lt;omega)
   try have a6:qf (g≠z):=vv (by have:=u.o.lt;omega)
   rw[<- J,<- hg]
   try have H:=vv (H.o.below f)
   try have s:=vv (s.o.below f)
   try have u:=vv (u.o.below f)
   have r:=vv (r.o.below f);have a:=vv (a.o.below f);have i:=vn i f;clear f;have H:=vv Z;clear Z J hg;obtain⟨wc,rfl⟩:=yx wn;go_wp2_with fail;refine q.out _ _ ⟨a.o.c1,a.o.c2⟩ (fun R=>?_);clear q
  rotate_left 1
  focus
   go_simp;obtain⟨g,hg⟩:=yx (wc.heap.size);obtain⟨wn,J⟩:=yx (wc.alloc (.cells #[.pointer qb,.pointer qb] 140));have f:qd wc.heap.size wc wn:=by rw[J];exact(qa _ _).alloc lr _
   have Z:NbZero wn g:=by rw[J,hg];exact NbZero.made _ _
   have b6:qf (w.heap.size+1<g):=vv (by have:=a.o.lt;omega)
   try have b3:qf (g≠C):=vv (by have:=s.o.lt;omega)
   try have a6:qf (g≠z):=vv (by have:=u.o.lt;omega)
   rw[<- J,<- hg]
   try have H:=vv (H.o.below f)
   try have s:=vv (s.o.below f)
   try have u:=vv (u.o.below f)
   have r:=vv (r.o.below f);have a:=vv (a.o.below f);have i:=vn i f;clear f;have H:=vv Z;clear Z J hg;obtain⟨wc,rfl⟩:=yx wn;go_wp2_with fail;refine q.out _ _ ⟨a.o.c1,a.o.c2⟩ (fun R=>?_);clear q;refine q03 rfl (by rfl) (fun K q=>?_);go_simp;refine(e3.o _ i.o).mono ?_;rintro e wn ⟨z,rfl,b4,L,f⟩;have b5:qf (w.heap.size+1<z):=vv (by have:=a.o.lt;omega);have d2:qf (C≠z):=vv (by have:=s.o.lt;omega)
   try have a6:qf (g≠z):=vv (by have:=H.o.lt;omega)
   try have H:=vv (H.o.below f)
   try have s:=vv (s.o.below f)
   try have u:=vv (u.o.below f)
   have r:=vv (r.o.below f);have a:=vv (a.o.below f);have i:=vn i f;clear f;have u:=vv (show IntAt wn z 0 (D:Int) from L);clear L b4;obtain⟨wc,rfl⟩:=yx wn;go_wp2_with fail;refine q.out _ _ ⟨a.o.c1,a.o.c2⟩ (fun R=>?_);clear q
   iterate 1
    refine q01 (v:=?_) rfl (by rfl) ?_ ?_;rotate_left
    ·intro w b1;go_simp;with_reducible rfl
    simp only[Act.put,sa,sb,sc]
 rotate_left 2
 focus
  go_simp;obtain⟨g,hg⟩:=yx (wc.heap.size);obtain⟨wn,J⟩:=yx (wc.alloc (.cells #[.pointer qb,.pointer qb] 140));have f:qd wc.heap.size wc wn:=by rw[J];exact(qa _ _).alloc lr _
  have Z:NbZero wn g:=by rw[J,hg];exact NbZero.made _ _
  have b6:qf (w.heap.size+1<g):=vv (by have:=a.o.lt;omega)
  try have b3:qf (g≠C):=vv (by have:=s.o.lt;omega)
  try have a6:qf (g≠z):=vv (by have:=u.o.lt;omega)
  rw[<- J,<- hg]
  try have H:=vv (H.o.below f)
  try have s:=vv (s.o.below f)
  try have u:=vv (u.o.below f)
  have r:=vv (r.o.below f);have a:=vv (a.o.below f);have i:=vn i f;clear f;have H:=vv Z;clear Z J hg;obtain⟨wc,rfl⟩:=yx wn;go_wp2_with fail;refine q.out _ _ ⟨a.o.c1,a.o.c2⟩ (fun R=>?_);clear q;refine q03 rfl (by rfl) (fun K q=>?_);go_simp;refine(g0.o _ i.o).mono ?_;rintro e wn ⟨C,rfl,e7,L,f⟩;have d1:qf (w.heap.size+1<C):=vv (by have:=a.o.lt;omega)
  try have b3:qf (g≠C):=vv (by have:=H.o.lt;omega)
  try have H:=vv (H.o.below f)
  try have s:=vv (s.o.below f)
  try have u:=vv (u.o.below f)
  have r:=vv (r.o.below f);have a:=vv (a.o.below f);have i:=vn i f;clear f;have s:=vv L;clear L e7;obtain⟨wc,rfl⟩:=yx wn;go_wp2_with fail;refine q.out _ _ ⟨a.o.c1,a.o.c2⟩ (fun R=>?_);clear q;refine q03 rfl (by rfl) (fun K q=>?_);go_simp;refine(e3.o _ i.o).mono ?_;rintro e wn ⟨z,rfl,b4,L,f⟩;have b5:qf (w.heap.size+1<z):=vv (by have:=a.o.lt;omega);have d2:qf (C≠z):=vv (by have:=s.o.lt;omega)
  try have a6:qf (g≠z):=vv (by have:=H.o.lt;omega)
  try have H:=vv (H.o.below f)
  try have s:=vv (s.o.below f)
  try have u:=vv (u.o.below f)
  have r:=vv (r.o.below f);have a:=vv (a.o.below f);have i:=vn i f;clear f;have u:=vv (show IntAt wn z 0 (D:Int) from L);clear L b4;obtain⟨wc,rfl⟩:=yx wn;go_wp2_with fail;refine q.out _ _ ⟨a.o.c1,a.o.c2⟩ (fun R=>?_);clear q
  iterate 1
   refine q01 (v:=?_) rfl (by rfl) ?_ ?_;rotate_left
   ·intro w b1;go_simp;with_reducible rfl
   simp only[Act.put,sa,sb,sc]
 all_goals
  refine q07 ?_;have z0:=H.o.c0;have z1:=H.o.c1;have fz:=H.o.fz;have zl:=H.o.lt;obtain⟨P,a7⟩:=yx ((wc.setCell ⟨g,0,qb⟩ (.pointer (qe ⟨C,0,qb⟩))).setCell ⟨g,1,qb⟩ (.pointer (qe ⟨z,0,qb⟩)));have d3:(wc.setCell ⟨g,0,qb⟩ (.pointer (qe ⟨C,0,qb⟩))).cell? ⟨g,0,qb⟩=qe (.pointer (qe ⟨C,0,qb⟩)):=q0p z0;have a4:(⟨g,0,qb⟩:qm)≠⟨g,1,qb⟩:=fun e=>by injection e with _ e;exact absurd e (by decide)
  have c3:IntAt P C 0 (N:Int):=by rw[a7];exact(s.o.setPtr (j:=0) z0 _).setPtr (j:=1) d3 _
  have c4:IntAt P z 0 (D:Int):=by rw[a7];exact(u.o.setPtr (j:=0) z0 _).setPtr (j:=1) d3 _
  have d4:qd g wc P:=by rw[a7];exact((qa g wc).setCell (p:=⟨g,0,qb⟩) lr _).setCell (p:=⟨g,1,qb⟩) lr _
  have c5:NbBox P g C 0 z 0:=by rw[a7];exact⟨(q0o a4.symm).trans d3,q0p ((q0o a4).trans z1),by simpa [World.setCell] using zl⟩
  have r:=vv (r.o.belowLt d4 (by have:=b6.o;omega));have a:=vv (a.o.belowLt d4 (by have:=b6.o;omega));have i:=vv (i.o.trans (d4.mono (by have:=b6.o;omega)));have s:=vv c3;have u:=vv c4;have I:=vv c5;have g8:=vv a7;clear d3 a4 c3 c4 d4 c5 a7;go_wp2_with fail;rw[<- g8.o];clear g8 z0 z1 fz zl;refine q02 (fun l=>l.cell? ⟨g,0,qb⟩=qe (.pointer (qe ⟨C,0,qb⟩))/\l.cell? ⟨g,1,qb⟩=qe (.pointer (qe ⟨z,0,qb⟩))) 9
   (.still 0 (.still 1 (.still 2 (.still 4 (.still 5 (.one 3 (.one 6 (.still 7 (.one 8 .done))))))))) (by kernel_rfl) (by kernel_rfl) (fun _ _ d _ _ h=>by cases d<;>exact h) ⟨I.o.c0,I.o.c1⟩ (fun hS0=>?_)
  have r:qf (FmAt P.drew w.heap.size ((G:Int)+1) F):=vv (r.o.below (q05 (qa _ _)));have a:qf (RatioBox P.drew (w.heap.size+1) below Ad n c Bd m d):=vv a.o.drew;have i:qf (qd w.heap.size w P.drew):=vv (q05 i.o);have s:qf (IntAt P.drew C 0 (N:Int)):=vv s.o.drew;have u:qf (IntAt P.drew z 0 (D:Int)):=vv u.o.drew;have I:qf (NbBox P.drew g C 0 z 0):=vv I.o.drew;obtain⟨wd,g9⟩:=yx (P.drew);rw[<- g9] at r a i s u I hS0 ⊢;clear g9;have xl:=I.o.lt
  iterate 5
   refine q01 (v:=?_) rfl (by rfl) ?_ ?_;rotate_left
   ·intro w b1;go_simp;with_reducible rfl
   simp only[Act.put,sa,sb,sc]
  refine q03 rfl (by rfl) (fun K q=>?_);go_simp;refine(e6.o _ C s.o).mono ?_;rintro e l ⟨rfl,rfl⟩;go_wp2_with fail;refine q.out _ _ ⟨I.o.c0,I.o.c1⟩ (fun R=>?_);clear q;refine q03 rfl (by rfl) (fun K q=>?_);go_simp;refine(a3.o _ z u.o).mono ?_;rintro e l ⟨rfl,rfl⟩;go_wp2_with fail;refine q.out _ _ ⟨I.o.c0,I.o.c1⟩ (fun R=>?_);clear q
  iterate 1
   refine q01 (v:=?_) rfl (by rfl) ?_ ?_;rotate_left
   ·intro w b1;go_simp;with_reducible rfl
   simp only[Act.put,sa,sb,sc]
  rw[j5.o];refine q03 rfl (by rfl) (fun K q=>?_);go_simp;refine(c7.o _).mono ?_;rintro e l ⟨rfl,rfl⟩;go_wp2_with fail;refine q.out _ _ ⟨I.o.c0,I.o.c1⟩ (fun R=>?_);clear q xl;refine q07 ?_;obtain⟨gz,e8⟩:=yx (wd.heap.size);obtain⟨wz,d5⟩:=yx (wd.alloc (.cells #[.bool qg,.slice qb 0 0] 142));have i0:qd wd.heap.size wd wz:=by rw[d5];exact(qa _ _).alloc lr _
  have b7:IntAt wz gz 0 0:=by rw[d5,e8];exact IntAt.zero _ _
  have a1:=vv i0;have V:=vv b7;have i1:=vv d5;have e9:=vv e8;clear e8 d5 i0 b7;go_wp2_with fail;rw[<- i1.o,<- e9.o];refine(j6.o _).mono ?_;rintro e wt ⟨gT,rfl,j9,i2,f2⟩;have V:=vv (V.o.below f2);have a1:=vn a1 f2;have d6:=vv i2;clear i2 f2 j9 i1;have a0:=j8.o;go_wp2_with fail;clear a0;refine(j7.o _).mono ?_;rintro e wy ⟨gY,rfl,k0,i3,d7⟩;have V:=vv (V.o.below d7);have a1:=vn a1 d7;have d6:=vv (d6.o.below d7);have i4:=vv i3;clear i3 d7 k0;go_wp2_with fail;refine(g5.o _ gz gT gY V.o d6.o i4.o).mono ?_;rintro e we hP;have a2:=hP.below a1.o a1.o.size (by have:=e9.o;omega);obtain⟨rfl,b7,-⟩:=hP;have V:=vv b7;have r:=vv (r.o.below a2);have a:=vv (a.o.below a2);have i:=vn i a2;have s:=vv (s.o.below a2);have u:=vv (u.o.below a2);have I:=vv (I.o.below a2);obtain⟨x0,x1,xl⟩:=I.o;clear a2 b7 a1 d6 i4 e9;by_cases hneg:Q<0
  ·obtain⟨M,U⟩:=j4.o hneg;have dK:qc (Q<0)=ql:=k03 hneg;have f3:=vv M;have f4:=vv U;clear M U hneg;go_wp2_with fail;refine(j2.o _ z gz u.o V.o).mono ?_;rintro e wm ⟨rfl,hi,hf⟩;rw[f3.o] at hi;have O:=hf.fs u.o hi;have f5:=vv hi;have f6:qf (IntAt wm C 0 (X:Int)):=vv (by rw[f4.o];exact s.o.fs O (by intro p t k;simp at t;rw[t] at k;exact absurd k.symm d2.o));have a:=vv (a.o.fs O (by intro p t;simp at t;rw[t];have:=b5.o;show z≠_;omega));have r:=vv (r.o.fs O (by intro p t;simp at t;rw[t];have:=b5.o;show z≠_;omega));have I:=vv (I.o.fs O (by intro p t;simp at t;rw[t];exact Ne.symm a6.o));have i:=vv (O.below i.o i.o.size (by intro p t;simp at t;rw[t];have:=b5.o;show w.heap.size<=z;omega));clear hi hf O;obtain⟨x0,x1,xl⟩:=I.o;obtain⟨f0,f1,l0⟩:=r.o;have r0:=a.o.c0;have l1:=a.o.lt;go_wp2_with fail;refine(e5.o _ C 0 z 0 f6.o f5.o).mono ?_;rintro e w8 ⟨rfl,b8⟩;have f7:=vn i b8;clear b8 x0 x1 xl f0 f1 l0 r0 l1;go_wp2;go_ret3;exact⟨rfl,f7.o⟩
  ·obtain⟨M,U⟩:=j3.o (by omega);have dK:qc (Q<0)=qg:=k00 hneg;have f3:=vv M;have f4:=vv U;clear M U hneg;go_wp2_with fail;refine(j1.o _ C gz s.o V.o).mono ?_;rintro e wm ⟨rfl,hi,hf⟩;rw[f3.o] at hi;have O:=hf.fs s.o hi;have f6:=vv hi;have f5:qf (IntAt wm z 0 (Y:Int)):=vv (by rw[f4.o];exact u.o.fs O (by intro p t k;simp at t;rw[t] at k;exact absurd k d2.o));have a:=vv (a.o.fs O (by intro p t;simp at t;rw[t];have:=d1.o;show C≠_;omega));have r:=vv (r.o.fs O (by intro p t;simp at t;rw[t];have:=d1.o;show C≠_;omega));have I:=vv (I.o.fs O (by intro p t;simp at t;rw[t];exact Ne.symm b3.o));have i:=vv (O.below i.o i.o.size (by intro p t;simp at t;rw[t];have:=d1.o;show w.heap.size<=C;omega));clear hi hf O;obtain⟨x0,x1,xl⟩:=I.o;obtain⟨f0,f1,l0⟩:=r.o;have r0:=a.o.c0;have l1:=a.o.lt;go_wp2_with fail;refine(e5.o _ C 0 z 0 f6.o f5.o).mono ?_;rintro e w8 ⟨rfl,b8⟩;have f7:=vn i b8;clear b8 x0 x1 xl f0 f1 l0 r0 l1;go_wp2;go_ret3;exact⟨rfl,f7.o⟩
theorem RatioG(G F:Nat)(below neg:Bool)(mode:Nat)(Ad:Option qm)(n c:Nat)(Bd:Option qm)(m d N D:Nat)(w:qk)(g1:1<=G)(g2:G<=10)(h3:1<=F)(h4:F<=52)(hm:mode<=4)
  (ha:Rd w Ad n c (toL N)) (hb:Rd w Bd m d (toL D)) (hn:n<=16384) (hmm:m<=16384) (hD:0<D) (hg:Nat.gcd N D=1) (h0:below=ql->0<N) (hst:Std w) :
  qn qj 20 #[fm ((G:Int)+1) F,q0i below Ad n c Bd m d,.bool neg,.int .u8 (mode:Int)] w (q2K (q0h (G+1) F below neg mode N D) w):=by
 obtain⟨a,g⟩:=yx (w.alloc (.cells #[.int .i64 ((G:Int)+1),.int .i64 (F:Int)] 23));obtain⟨f,j⟩:=yx (a.alloc (.cells #[.bool below,.slice Ad n c,.slice Bd m d] 39));have k:qd w.heap.size w a:=by rw[g];exact(qa _ w).alloc lr _
 have l:qd a.heap.size a f:=by rw[j];exact(qa _ a).alloc lr _
 have q:a.heap.size=w.heap.size+1:=by rw[g];simp
 have h:FmAt f w.heap.size ((G:Int)+1) F:=(show FmAt a w.heap.size ((G:Int)+1) F by rw[g];exact FmAt.made w _ _ _).below l;have b:RatioBox f (w.heap.size+1) below Ad n c Bd m d:=by rw[<- q,j];exact RatioBox.made a _ _ _ _ _ _ _ _
 have i:qd w.heap.size w f:=k.trans (l.mono k.size);have t:qf (f=(w.alloc (.cells #[.int .i64 ((G:Int)+1),.int .i64 (F:Int)] 23)).alloc (.cells #[.bool below,.slice Ad n c,.slice Bd m d] 39)):=vv (by rw[j,g]);have p:=vv (qaE G F below neg mode Ad n c Bd m d N D 0 f g1 g2 h3 h4 hm (ha.below i rfl) (hb.below i rfl) hn hmm hD hg h0 (by decide) (by decide) (hst.fs (Fs.of_nil i)));rw[show t10 0=1 from rfl,show t10 (-0)=1 from rfl,k0A,k0A] at p;obtain⟨o,s⟩:=yx (q0h (G+1) F below neg mode N D);rw[<- s] at p ⊢;obtain⟨J,K⟩:=o;have v:=vv i;have L:=vv h;have M:=vv b;have x:=h.c0;have y:=h.c1;have z:=b.c0;have C:=b.c1;have E:=b.c2;have H:=h.lt;have I:=b.lt;clear ha hb hn hmm hD hg h0 hst g j k l q h b i s hm;go_enter func20,ntmps20;go_wp2_with fail;rw[<- t.o];refine p.o.mono ?_;rintro e O ⟨rfl,r⟩;have u:=vn v r;clear r x y z C E H I;go_wp2;go_ret3;exact⟨rfl,u.o⟩
end Go.Proofs.YtabcgemembkkcaaGreatDoor.Rnd
