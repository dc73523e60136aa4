/- Lemmas. -/
import Derived.Test.YthopehoklmgphaaGreatDoorPartBH
set_option linter.all false
set_option maxHeartbeats 8000000
set_option maxRecDepth 100000
open Go.Proofs.Tryz
open Option renaming none->qa,some->qd
open Go renaming RowKit.Below.refl->qb,World.frozen?_setCell->qi,World->qj,IntWalk.i64_in->qk,IntKind.wrap_u64->ql,heap_alloc_new->qn,Addr->qo,Calls->qp
open Go.RowKit renaming Below->qc,Hid->qg
open Decidable renaming decide->qe
open Bool renaming false->qf,true->qm
open Go.Proofs.Tryz renaming prog->qh
namespace Go.Proofs.YthopehoklmgphaaGreatDoor.Rnd
open Go Go.RowKit R5
theorem q7Y(a b:Nat):(bl a:Int)-bl b-1<=q0V a b/\q0V a b<=(bl a:Int)-bl b:=by unfold q0V;split<;>omega
theorem q4s(a:Nat)(s:Int):bl (a*p2 s)<=bl a+s.toNat+1:=by have b:=q0D a (p2 s);have c:bl (p2 s)<=s.toNat+1:=q1g (by unfold p2;exact Nat.pow_lt_pow_right (by omega) (by omega));omega
theorem qag{a:Nat}{s:Int}(h:Sm a)(hs:s<=100000000000):Sz (a*p2 s):=by have:=q4s a s;unfold Sm at h;unfold Sz;omega
theorem qd9(gn on gd od a b G F:Nat)(neg:Bool)(mode:Nat)(w:qj)(hn:IntAt w gn on (a:Int))(hd:IntAt w gd od (b:Int))(ha:0<a)(hb0:0<b)(sa:Sm a)(sb:Sm b)(g1:1<=G)(g2:G<=10)(h3:1<=F)(h4:F<=52)(hm:mode<=4):qp qh 131 #[q7N gn on gd od,fm ((G:Int)+1) F,.bool neg,.int .u8 (mode:Int)] w (q6d 0 (out (G+1) F neg mode a b) w):=by
 have a8:Sz a:=by unfold Sm at sa;unfold Sz;omega
 have a9:Sz b:=by unfold Sm at sb;unfold Sz;omega
 obtain⟨B,T⟩:∃B:Int,B=q0d (G+1):=⟨_,rfl⟩;obtain⟨e,J⟩:∃e:Int,e=q0V a b:=⟨_,rfl⟩;have f4:=vv fun g (h:IntAt g gn on (a:Int)) (h':IntAt g gd od (b:Int))=>log gn on gd od a b g h h' a8 a9
 rw[<- J] at f4;have hr:=q7Y a b;rw[<- J] at hr;have i6:bl a<=4294967296:=sa;have i7:bl b<=4294967296:=sb;have e1:e<=4294967296:=by omega
 have e2:-4294967297<=e:=by omega
 have i8:=q1c (E:=G+1) (by omega);have i9:=q2l (E:=G+1) (by omega);rw[<- T] at i8 i9;have z:(2:Int)^G=B+1:=by rw[T];unfold q0d;rw[k1a];omega
 have n2:IntKind.i64.wrap ((2:Int)^G)=B+1:=by rw[z];exact qk _ (by omega)
 have o0:=(qb w.heap.size w).alloc (o:=.cells #[.pointer (qd ⟨gn,on,qa⟩),.pointer (qd ⟨gd,od,qa⟩)] 159) lr;have U:=NbBox.made w gn on gd od 159;obtain⟨w0,c9⟩:=yx (w.alloc (.cells #[.pointer (qd ⟨gn,on,qa⟩),.pointer (qd ⟨gd,od,qa⟩)] 159));rw[<- c9] at o0 U;have s0:w0.heap.size=w.heap.size+1:=by rw[c9];simp
 have r:=(qb w0.heap.size w0).alloc (o:=.cells #[.int .i64 ((G:Int)+1),.int .i64 (F:Int)] 23) lr;have L:=FmAt.made w0 ((G:Int)+1) (F:Int) 23;obtain⟨w1,d4⟩:=yx (w0.alloc (.cells #[.int .i64 ((G:Int)+1),.int .i64 (F:Int)] 23));rw[<- d4] at r L;rw[s0] at L;have b1:qc w.heap.size w w1:=o0.trans (r.mono (by omega));have u:=vv (U.below r);have c:=vv L;have f:=vv b1;have C:=vv (hn.below b1);have D:=vv (hd.below b1);have j0:qg (w1=(w.alloc (.cells #[.pointer (qd ⟨gn,on,qa⟩),.pointer (qd ⟨gd,od,qa⟩)] 159)).alloc (.cells #[.int .i64 ((G:Int)+1),.int .i64 (F:Int)] 23)):=vv (by rw[d4,c9]);obtain⟨low,b0⟩:∃l:Int,max e (1-B)=l:=⟨_,rfl⟩;have l1:low<=4294967296:=by omega
 have l2:-1023<=low:=by omega
 have c5:qg (q0K (G+1) a b=low):=vv (by unfold q0K;rw[<- J,<- T];exact b0);obtain⟨s,hs⟩:∃s:Int,(F:Int)-low=s:=⟨_,rfl⟩;have k1:s<=1100:=by omega
 have k2:-4294967296<=s:=by omega
 have HT:=vv fun g (h:IntAt g gn on (a:Int)) (h':IntAt g gd od (b:Int))=>q4A gn on gd od a b s g h h' a8 a9 (by omega) (by omega)
 obtain⟨X,hX⟩:=yx (a*p2 s);obtain⟨Y,hY⟩:=yx (b*p2 (-s));have f5:0<Y:=by rw[hY];exact k0w hb0 (q0r _)
 have sX:Sz X:=by rw[hX];exact qag sa (by omega)
 have sY:Sz Y:=by rw[hY];exact qag sb (by omega)
 simp only[<- hX,<- hY] at HT;have f6:=vv fun g g1 r g2 V (h:IntAt g g1 r (X:Int)) (h':IntAt g g2 V (Y:Int))=>q54 g1 r g2 V X Y neg mode g h h' f5 sX sY hm
 have d0:qg (mant (G+1) F neg mode a b=rnd neg mode X Y):=vv (by
  have el:q0K (G+1) a b=low:=by unfold q0K;rw[<- J,<- T];exact b0
  unfold mant;rw[el,hs,hX,hY,show low-(F:Int) = -s by omega])
 have j1:qg (q5g (G+1) F a b=X%Y):=vv (by
  have el:q0K (G+1) a b=low:=by unfold q0K;rw[<- J,<- T];exact b0
  unfold q5g;rw[el,hs,hX,hY,show low-(F:Int) = -s by omega])
 obtain⟨m,d5⟩:=yx (rnd neg mode X Y);obtain⟨same,e0⟩:=yx (qe (X%Y=0));simp only[<- d5,<- e0] at f6;rw[<- d5] at d0;have f7:=vv e0;obtain⟨s2,e3⟩:∃s:Int,(F:Int)-e=s:=⟨_,rfl⟩;have k3:s2<=4294967400:=by omega
 have k4:-4294967296<=s2:=by omega
 have f8:=vv fun g (h:IntAt g gn on (a:Int)) (h':IntAt g gd od (b:Int))=>q4A gn on gd od a b s2 g h h' a8 a9 (by omega) (by omega)
 obtain⟨X2,d1⟩:=yx (a*p2 s2);obtain⟨Y2,b7⟩:=yx (b*p2 (-s2));have c6:0<Y2:=by rw[b7];exact k0w hb0 (q0r _)
 have f9:Sz X2:=by rw[d1];exact qag sa (by omega)
 have g0:Sz Y2:=by rw[b7];exact qag sb (by omega)
 simp only[<- d1,<- b7] at f8;have c7:=vv fun g g1 r g2 V (h:IntAt g g1 r (X2:Int)) (h':IntAt g g2 V (Y2:Int))=>q54 g1 r g2 V X2 Y2 neg mode g h h' c6 f9 g0 hm
 have g5:qg (q2t F neg mode a b=rnd neg mode X2 Y2):=vv (by unfold q2t;rw[<- J,e3,d1,b7,show e-(F:Int) = -s2 by omega]);obtain⟨fk,e4⟩:=yx (rnd neg mode X2 Y2);simp only[<- e4] at c7;rw[<- e4] at g5;have j2:=vv e3;have n3:(G:Int)<=10:=by omega
 have n4:(F:Int)<=52:=by omega
 have g6:=vv J;have d3:=vv T;have j3:=vv z;clear o0 U c9 s0 r L d4 b1 hn hd J T z e3 d1 b7 c6 f9 g0 e4 hX hY f5 sX sY d5 e0 i6 i7 hr a8 a9 sa sb;go_enter func131,ntmps131;go_wp2_with fail;rw[<- j0.o];refine(f4.o _ C.o D.o).mono ?_;rintro e' w2 ⟨rfl,z⟩;have u:=vv (u.o.below z);have c:=vv (c.o.below z);have C:=vv (C.o.below z);have D:=vv (D.o.below z);have f:=vn f z;obtain⟨U,x1,xl⟩:=u.o;obtain⟨f0,L,y⟩:=c.o;clear z;go_wp2_with fail;refine(HT.o _ C.o D.o).mono ?_;rintro e' w3 ⟨g1,r,g2,V,rfl,i1,i2,b4⟩;have j4:=vv i1;have j5:=vv i2;have u:=vv (u.o.below b4);have c:=vv (c.o.below b4);have C:=vv (C.o.below b4);have D:=vv (D.o.below b4);have f:=vn f b4;clear b4 i1 i2 U x1 xl f0 L y;go_wp2_with fail;refine(f6.o _ g1 r g2 V j4.o j5.o).mono ?_;rintro e' w4 ⟨gm,rfl,j6,im,b5⟩;have p:=vv im;have u:=vv (u.o.below b5);have c:=vv (c.o.below b5);have C:=vv (C.o.below b5);have D:=vv (D.o.below b5);have f:=vn f b5;clear b5 im j6;obtain⟨y,g7⟩:=yx (q1u (G+1) F neg mode a b);have g8:=vv g7;clear g7;go_upto_if 51 with fail;go_cut [13,14,17,18,19] from 52 (fun s13 s14 s17 s18 s19 wx=>s17=.int .u8 (y:Int)/\IntAt wx gm 0 (m:Int)/\FmAt wx (w.heap.size+1) ((G:Int)+1) F/\qc w.heap.size w wx)
 case first =>
  have N:qg (y=if X%Y=0 then 0 else if q1Y (G+1) F neg mode a b then 5 else 1):=vv (by rw[g8.o];unfold q1u;rw[j1.o]);cases same
  ·have b8:X%Y≠0:=of_decide_eq_false f7.o.symm;have N:qg (y=if q1Y (G+1) F neg mode a b then 5 else 1):=vv (by rw[N.o,if_neg b8]);clear b8;by_cases hlt:e<1-B
   ·have j7:qe (e<1-B)=qm:=k03 hlt;obtain⟨U,x1,xl⟩:=u.o;have L:=c.o.c1;have j8:=c.o.lt;have q1:=j2.o;have j9:=vv hlt;clear hlt;go_wp2_with fail;refine(f8.o _ C.o D.o).mono ?_;rintro e' w5 ⟨g3,o3,g4,o4,rfl,i3,i4,b9⟩;have k0:=vv i3;have k5:=vv i4;have p:=vv (p.o.below b9);have u:=vv (u.o.below b9);have c:=vv (c.o.below b9);have f:=vn f b9;clear b9 i3 i4 U x1 xl L j8;go_wp2_with fail;refine(c7.o _ g3 o3 g4 o4 k0.o k5.o).mono ?_;rintro e' w6 ⟨gk,rfl,k6,ik,c2⟩;have e5:=vv ik;have p:=vv (p.o.below c2);have u:=vv (u.o.below c2);have c:=vv (c.o.below c2);have f:=vn f c2;clear c2 ik k6;go_wp2_with fail;have Z:q1Y (G+1) F neg mode a b=(qe (e < -B) || decide (bl fk<=F+1)):=by unfold q1Y;rw[<- g6.o,<- d3.o,k03 j9.o,g5.o];rfl
    have n5:bits BinOp.or IntKind.u8 1 4=5:=by decide
    by_cases hl2:e < -B
    ·have c3:qg (y=5):=vv (by rw[N.o,Z,k03 hl2];rfl);have d2:qe (e < -B)=qm:=k03 hl2;have k7:IntKind.i64.wrap (-B) = -B:=qk _ (by omega);clear hl2 Z;go_quiet (fail);go_wp2;go_meet
     case rel=>exact⟨by rw[c3.o];rfl,p.o.like rfl,⟨c.o.c0,c.o.c1,c.o.lt⟩,q0g f.o _⟩
    ·have d2:qe (e < -B)=qf:=k00 hl2;have HU:qg (q1Y (G+1) F neg mode a b=qe (bl fk<=F+1)):=vv (by rw[Z,k00 hl2];rfl);have k7:IntKind.i64.wrap (-B) = -B:=qk _ (by omega);clear hl2 Z;refine q02 (fun g=>g.cell? ⟨w.heap.size+1,1,qa⟩=qd (.int .i64 (F:Int))) 12
      (.still 0 (.still 1 (.still 2 (.still 3 (.still 4 (.still 5 (.still 7 (.still 8 (.still 9 (.one 6 (.still 10 (.still 11 .done)))))))))))) (by kernel_rfl) (by kernel_rfl) (fun _ _ d _ _ h=>by cases d<;>exact h) c.o.c1 (fun hS0=>?_)
     obtain⟨wc,b6⟩:=yx (w6.drew);have e5:qg (IntAt wc gk 0 (fk:Int)):=vv (by rw[b6];exact e5.o.drew);have p:qg (IntAt wc gm 0 (m:Int)):=vv (by rw[b6];exact p.o.drew);have c:qg (FmAt wc (w.heap.size+1) ((G:Int)+1) F):=vv (by rw[b6];exact⟨c.o.c0,c.o.c1,c.o.lt⟩);have f:qg (qc w.heap.size w wc):=vv (by rw[b6];exact q07 f.o);rw[<- b6] at hS0 ⊢;clear b6;have e6:=vv (A.BitLen gk 0 (fk:Int) wc e5.o);rw[k0b] at e6;obtain⟨lk,g9⟩:=yx (bl fk);rw[<- g9] at e6 HU;have k8:qg (IntKind.i64.wrap ((F:Int)+1)=(F:Int)+1):=vv (qk _ (by omega));clear g9
     iterate 9
      refine q01 (v:=?_) rfl (by rfl) ?_ ?_;rotate_left
      ·intro w x;go_simp;with_reducible rfl
      simp only[Act.put,sa,sb,sc]
     refine q04 rfl (by rfl) (fun K hK=>?_);go_simp;refine e6.o.mono ?_;rintro e' g ⟨rfl,rfl⟩;go_wp2_with fail;refine hK.out _ _ c.o.c1 (fun a0=>?_);clear hK
     try rw[k8.o]
     by_cases hb6:lk<=F+1
     ·have c3:qg (y=5):=vv (by rw[N.o,HU.o,k03 hb6];rfl);have d6:qe ((lk:Int)<=(F:Int)+1)=qm:=k03 (by omega);have d7:qe (lk<=F+1)=qm:=k03 hb6;clear hb6
      iterate 2
       refine q01 (v:=?_) rfl (by rfl) ?_ ?_;rotate_left
       ·intro w x;go_simp;with_reducible rfl
       simp only[Act.put,sa,sb,sc]
      refine q0Z rfl ?_;clear a0 hS0;go_wp2;go_meet
      case rel=>exact⟨by rw[c3.o];rfl,p.o,c.o,f.o⟩
     ·have c3:qg (y=1):=vv (by rw[N.o,HU.o,k00 hb6];rfl);have d6:qe ((lk:Int)<=(F:Int)+1)=qf:=k00 (by omega);have d7:qe (lk<=F+1)=qf:=k00 hb6;clear hb6
      iterate 2
       refine q01 (v:=?_) rfl (by rfl) ?_ ?_;rotate_left
       ·intro w x;go_simp;with_reducible rfl
       simp only[Act.put,sa,sb,sc]
      refine q0Z rfl ?_;clear a0 hS0;go_wp2;go_meet
      case rel=>exact⟨by rw[c3.o];rfl,p.o,c.o,f.o⟩
   ·have Z:q1Y (G+1) F neg mode a b=qf:=by unfold q1Y;rw[<- g6.o,<- d3.o,k00 hlt];rfl
    have e7:qg (y=1):=vv (by rw[N.o,Z];rfl);have j7:qe (e<1-B)=qf:=k00 hlt;clear hlt Z;go_wp2;go_meet
    case rel=>exact⟨by rw[e7.o];rfl,p.o,c.o,f.o⟩
  ·have b8:X%Y=0:=k22 f7.o.symm;have e7:qg (y=0):=vv (by rw[N.o,if_pos b8]);clear b8;go_wp2;go_meet
   case rel=>exact⟨by rw[e7.o];rfl,p.o,c.o,f.o⟩
 case rest =>
  obtain⟨rfl,im,hf,hb⟩:=hcut;have p:=vv im;have c:=vv hf;have f:=vv hb;clear im hf hb;go_wp2_with fail;obtain⟨LB,n6⟩:∃l:Int,low+B=l:=⟨_,rfl⟩;obtain⟨q,n7⟩:∃t:Nat,LB-1=(t:Int):=⟨(LB-1).toNat,by omega⟩;have f2:qg (IntKind.i64.wrap LB=LB):=vv (qk _ (by omega));have k9:qg (IntKind.i64.wrap (q:Int)=(q:Int)):=vv (qk _ (by omega));have l0:qg (IntKind.u64.wrap (q:Int)=(q:Int)):=vv (by rw[ql];omega);obtain⟨W,hW⟩:∃W:Int,IntKind.u64.wrap ((q:Int)*2^F)=W:=⟨_,rfl⟩;obtain⟨S,hS⟩:∃S:Int,IntKind.u64.wrap ((m:Int)+W)=S:=⟨_,rfl⟩;have l3:=vv hW;have l4:=vv hS;have b2:m<18446744073709551616:=by have h1:=q49 (E:=G+1) (F:=F) (neg:=neg) (mode:=mode) ha hb0;rw[d0.o] at h1;have h2:2^(F+1)<=2^53:=k05 (by omega) (by omega);omega
  have l5:=vv fun g (h:IntAt g gm 0 (m:Int))=>A.Uint64 gm 0 (m:Int) g h (by rw[k0b];exact b2)
  have m7:=vv b2;clear b2;refine q02 (fun g=>g.cell? ⟨w.heap.size+1,1,qa⟩=qd (.int .i64 (F:Int))) 11
   (.still 0 (.still 2 (.still 3 (.still 4 (.still 5 (.still 6 (.still 7 (.still 8 (.still 9 (.one 1 (.still 10 .done))))))))))) (by kernel_rfl) (by kernel_rfl) (fun _ _ d _ _ h=>by cases d<;>exact h) c.o.c1 (fun hS0=>?_)
  iterate 4
   refine q01 (v:=?_) rfl (by rfl) ?_ ?_;rotate_left
   ·intro w x;go_simp;with_reducible rfl
   simp only[Act.put,sa,sb,sc]
  rw[f2.o]
  iterate 1
   refine q01 (v:=?_) rfl (by rfl) ?_ ?_;rotate_left
   ·intro w x;go_simp;with_reducible rfl
   simp only[Act.put,sa,sb,sc]
  rw[k9.o]
  iterate 1
   refine q01 (v:=?_) rfl (by rfl) ?_ ?_;rotate_left
   ·intro w x;go_simp;with_reducible rfl
   simp only[Act.put,sa,sb,sc]
  rw[l0.o]
  iterate 3
   refine q01 (v:=?_) rfl (by rfl) ?_ ?_;rotate_left
   ·intro w x;go_simp;with_reducible rfl
   simp only[Act.put,sa,sb,sc]
  obtain⟨wd,c4⟩:=yx (wc.drew);have p:qg (IntAt wd gm 0 (m:Int)):=vv (by rw[c4];exact p.o.drew);have c:qg (FmAt wd (w.heap.size+1) ((G:Int)+1) F):=vv (by rw[c4];exact⟨c.o.c0,c.o.c1,c.o.lt⟩);have f:qg (qc w.heap.size w wd):=vv (by rw[c4];exact q07 f.o);rw[<- c4];clear c4 hS0;refine q04 rfl (by rfl) (fun K hK=>?_);go_simp;refine(l5.o _ p.o).mono ?_;rintro e' g ⟨rfl,rfl⟩;rw[k0b];go_wp2_with fail;refine hK.out _ _ c.o.c1 (fun a0=>?_);clear hK
  iterate 1
   refine q01 (v:=?_) rfl (by rfl) ?_ ?_;rotate_left
   ·intro w x;go_simp;with_reducible rfl
   simp only[Act.put,sa,sb,sc]
  refine q0a ?_;clear a0;go_wp2_with fail;obtain⟨M,c8⟩:∃n:Nat,n=G+1+F:=⟨_,rfl⟩;have n8:(G:Int)+1+(F:Int)=(M:Int):=by omega
  have f3:qg (IntKind.i64.wrap (M:Int)=(M:Int)):=vv (qk _ (by omega));have m8:(M:Int)<=63:=by omega
  obtain⟨P,hP⟩:∃P:Nat,P=R3.tw M:=⟨_,rfl⟩;obtain⟨Q,hQ⟩:∃Q:Nat,Q=R3.tw F:=⟨_,rfl⟩;have l6:P<=9223372036854775808:=by rw[hP];exact k06 (R3.tw_le (j:=M) (k:=63) (by omega)) (by decide)
  have l7:Q<=P:=by rw[hP,hQ];exact R3.tw_le (by omega)
  have l8:qg (IntKind.u64.wrap ((2:Int)^M)=(P:Int)):=vv (by
   have e:((2:Int)^M)=(P:Int):=by rw[hP];unfold R3.tw;rw[k0v];rfl
   rw[e,ql];omega)
  have l9:qg (IntKind.u64.wrap ((2:Int)^F)=(Q:Int)):=vv (by
   have e:((2:Int)^F)=(Q:Int):=by rw[hQ];unfold R3.tw;rw[k0v];rfl
   rw[e,ql];omega)
  obtain⟨I,hI⟩:∃I:Nat,I=P-Q:=⟨_,rfl⟩;have m0:qg (IntKind.u64.wrap ((P:Int)-(Q:Int))=(I:Int)):=vv (by rw[ql];omega);have b3:qg (q2i (G+1) F=I):=vv (by rw[hI,hP,hQ,c8];rfl);have O:=vv (show 1<=I by
   have:Q*2<=P:=by rw[hP,hQ,<- R3.tw_succ];exact R3.tw_le (by omega)
   have:=R3.tw_pos F;omega)
  have n9:=vv hQ;have m1:=vv (show I<=9223372036854775808 by omega);clear c8 hP hQ l6 l7 hI;refine q02 (fun g=>g.cell? ⟨w.heap.size+1,0,qa⟩=qd (.int .i64 ((G:Int)+1))/\g.cell? ⟨w.heap.size+1,1,qa⟩=qd (.int .i64 (F:Int))) 10
   (.still 0 (.still 1 (.still 2 (.still 3 (.still 4 (.still 5 (.still 6 (.still 7 (.still 8 (.still 9 .done)))))))))) (by kernel_rfl) (by kernel_rfl) (fun _ _ d _ _ h=>by cases d<;>exact h) ⟨c.o.c0,c.o.c1⟩ (fun hS0=>?_)
  iterate 5
   refine q01 (v:=?_) rfl (by rfl) ?_ ?_;rotate_left
   ·intro w x;go_simp;with_reducible rfl
   simp only[Act.put,sa,sb,sc]
  rw[f3.o]
  iterate 1
   refine q01 (v:=?_) rfl (by rfl) ?_ ?_;rotate_left
   ·intro w x;go_simp;with_reducible rfl
   simp only[Act.put,sa,sb,sc]
  rw[l8.o]
  iterate 3
   refine q01 (v:=?_) rfl (by rfl) ?_ ?_;rotate_left
   ·intro w x;go_simp;with_reducible rfl
   simp only[Act.put,sa,sb,sc]
  rw[l9.o]
  iterate 1
   refine q01 (v:=?_) rfl (by rfl) ?_ ?_;rotate_left
   ·intro w x;go_simp;with_reducible rfl
   simp only[Act.put,sa,sb,sc]
  rw[m0.o];refine q0a ?_;clear hS0;have R:over (G+1) F neg mode a b=(qe (B<low) || decide (I<=q1Z (G+1) F neg mode a b)):=by unfold over;rw[b3.o,<- d3.o,c5.o]
  have i0:qg ((I:Int)<=9223372036854775808/\(1:Int)<=(I:Int)):=vv (by have:=m1.o;have:=O.o;omega);have m9:=i0.o.1;have n0:=i0.o.2;by_cases hlow2:B<low
  ·have H:over (G+1) F neg mode a b=qm:=by rw[R,k03 hlow2];rfl
   have d8:qe (B<low)=qm:=k03 hlow2;clear R hlow2;have i:qg (out (G+1) F neg mode a b=(if q19 neg mode then I-1 else I,3)):=vv (by unfold out;rw[H,if_pos rfl,b3.o]);clear H;rcases(by omega:mode=0\/mode=1\/mode=2\/mode=3\/mode=4) with rfl|rfl|rfl|rfl|rfl
   ·go_wp2;go_ret2;rw[i.o];exact⟨q4C (by simp [q19]) rfl,q07 f.o⟩
   ·go_wp2;go_ret2;rw[i.o];exact⟨q4C (by simp [q19]) rfl,q07 f.o⟩
   ·go_wp2;go_ret2;rw[i.o];exact⟨q4C (by have:=O.o;simp [q19];omega) rfl,q07 f.o⟩
   ·cases neg
    ·go_wp2;go_ret2;rw[i.o];exact⟨q4C (by simp [q19]) rfl,q07 f.o⟩
    ·go_wp2;go_ret2;rw[i.o];exact⟨q4C (by have:=O.o;simp [q19];omega) rfl,q07 f.o⟩
   ·cases neg
    ·go_wp2;go_ret2;rw[i.o];exact⟨q4C (by have:=O.o;simp [q19];omega) rfl,q07 f.o⟩
    ·go_wp2;go_ret2;rw[i.o];exact⟨q4C (by simp [q19]) rfl,q07 f.o⟩
  ·have d8:qe (B<low)=qf:=k00 hlow2;obtain⟨bt,e8⟩:∃n:Nat,n=m+q*2^F:=⟨_,rfl⟩;have e9:q1Z (G+1) F neg mode a b=bt:=by unfold q1Z;rw[d0.o,c5.o,<- d3.o,e8,show low+B-1=(q:Int) by omega,k20]
   have m2:q*2^F<=9223372036854775808:=by
    have a1:(q:Int)+1<=2*B:=by omega
    have a2:(2:Int)^G=((2^G:Nat):Int):=by rw[k0v];rfl
    have a3:=j3.o;rw[a2] at a3;have a4:q<=2^G*2:=by omega
    have a5:q*2^F<=2^G*2*2^F:=k0r _ a4;have a6:2^G*2*2^F=2^(G+1+F):=by rw[k0q,k0f]
    have a7:2^(G+1+F)<=2^63:=k05 (by omega) (by omega);omega
   have m3:m<=9007199254740992:=by have h1:=q49 (E:=G+1) (F:=F) (neg:=neg) (mode:=mode) ha hb0;rw[d0.o] at h1;have h2:2^(F+1)<=2^53:=k05 (by omega) (by omega);omega
   have i5:W=((q*2^F:Nat):Int):=by rw[<- l3.o];exact q30 q F (by omega)
   have m4:S=(bt:Int):=by rw[<- l4.o,i5,e8,ql];omega
   have n1:(bt:Int)<=9232379236109516800:=by omega
   rw[e9] at R;have m5:=vv e9;clear hW hS i5 e9 e8 m2 m3 hlow2;subst m4;by_cases hge:I<=bt
   ·have H:over (G+1) F neg mode a b=qm:=by rw[R,k03 hge];simp
    have d9:qe ((I:Int)<=(bt:Int))=qm:=k03 (by omega);have m6:qe (I<=bt)=qm:=k03 hge;clear R hge;have i:qg (out (G+1) F neg mode a b=(if q19 neg mode then I-1 else I,3)):=vv (by unfold out;rw[H,if_pos rfl,b3.o]);clear H;rcases(by omega:mode=0\/mode=1\/mode=2\/mode=3\/mode=4) with rfl|rfl|rfl|rfl|rfl
    ·go_wp2;go_ret2;rw[i.o];exact⟨q4C (by simp [q19]) rfl,q07 f.o⟩
    ·go_wp2;go_ret2;rw[i.o];exact⟨q4C (by simp [q19]) rfl,q07 f.o⟩
    ·go_wp2;go_ret2;rw[i.o];exact⟨q4C (by have:=O.o;simp [q19];omega) rfl,q07 f.o⟩
    ·cases neg
     ·go_wp2;go_ret2;rw[i.o];exact⟨q4C (by simp [q19]) rfl,q07 f.o⟩
     ·go_wp2;go_ret2;rw[i.o];exact⟨q4C (by have:=O.o;simp [q19];omega) rfl,q07 f.o⟩
    ·cases neg
     ·go_wp2;go_ret2;rw[i.o];exact⟨q4C (by have:=O.o;simp [q19];omega) rfl,q07 f.o⟩
     ·go_wp2;go_ret2;rw[i.o];exact⟨q4C (by simp [q19]) rfl,q07 f.o⟩
   ·have H:over (G+1) F neg mode a b=qf:=by rw[R,d8,k00 hge];rfl
    have d9:qe ((I:Int)<=(bt:Int))=qf:=k00 (by omega);have m6:qe (I<=bt)=qf:=k00 hge;have i:qg (out (G+1) F neg mode a b=(bt,y)):=vv (by unfold out;rw[H,m5.o,<- g8.o];rfl);clear R hge H;go_wp2;go_ret2;rw[i.o];exact⟨q4C (by simp) rfl,q07 f.o⟩
theorem qdv(E F:Nat)(neg:Bool)(mode a b:Nat):(out E F neg mode a b).1<=q2i E F:=by
 unfold out;cases h:over E F neg mode a b
 ·rw[if_neg (by decide)];unfold over at h;simp only[Bool.or_eq_false_iff,k0A] at h;show q1Z E F neg mode a b<=q2i E F;omega
 ·rw[if_pos rfl];show(if q19 neg mode then q2i E F-1 else q2i E F)<=q2i E F;split<;>omega
theorem qbk(gn on gd od a b G F:Nat)(below neg:Bool)(mode:Nat)(w:qj)(hn:IntAt w gn on (a:Int))(hd:IntAt w gd od (b:Int))(hb0:0<b)(sa:Sm a)(sb:Sm b)(g1:1<=G)(g2:G<=10)(h3:1<=F)(h4:F<=52)(hm:mode<=4):qp qh 78 #[fm ((G:Int)+1) F,q7N gn on gd od,.bool below,.bool neg,.int .u8 (mode:Int)] w (q1B (q0i (G+1) F below neg mode a b) w):=by
 obtain⟨c,x⟩:∃n:Nat,n=G+1+F:=⟨_,rfl⟩;have a2:(G:Int)+1+(F:Int)=(c:Int):=by omega
 have a0:(c:Int)<=63:=by omega
 obtain⟨P,d⟩:∃P:Nat,P=R3.tw c:=⟨_,rfl⟩;have H:P<=9223372036854775808:=by rw[d];exact k06 (R3.tw_le (j:=c) (k:=63) (by omega)) (by decide)
 have a3:IntKind.u64.wrap ((2:Int)^c)=(P:Int):=by
  have e:((2:Int)^c)=(P:Int):=by rw[d];unfold R3.tw;rw[k0v];rfl
  rw[e,ql];omega
 have r:∀n,sgb (G+1) F n=if n then P else 0:=fun n=>by unfold sgb;rw[d,x];rfl
 have a4:=vv r;have D:=(qb w.heap.size w).alloc (o:=.cells #[.int .i64 ((G:Int)+1),.int .i64 (F:Int)] 23) lr;have E:=FmAt.made w ((G:Int)+1) (F:Int) 23;obtain⟨t,s⟩:=yx (w.alloc (.cells #[.int .i64 ((G:Int)+1),.int .i64 (F:Int)] 23));rw[<- s] at D E;have L:t.heap.size=w.heap.size+1:=by rw[s];simp
 have u:=(qb t.heap.size t).alloc (o:=.cells #[.pointer (qd ⟨gn,on,qa⟩),.pointer (qd ⟨gd,od,qa⟩)] 159) lr;have f:=NbBox.made t gn on gd od 159;obtain⟨M,y⟩:=yx (t.alloc (.cells #[.pointer (qd ⟨gn,on,qa⟩),.pointer (qd ⟨gd,od,qa⟩)] 159));rw[<- y] at u f;rw[L] at f;have v:qc w.heap.size w M:=D.trans (u.mono (by omega));have g:=E.below u;have HX:=vv f;have HF:=vv g;have l:=vv v;have z:=hn.below v;have I:=hd.below v;have X:=vv z;have Y:=vv I;have J:=vv (A.Sign gn on (a:Int) M z);have K:qg (M=(w.alloc (.cells #[.int .i64 ((G:Int)+1),.int .i64 (F:Int)] 23)).alloc (.cells #[.pointer (qd ⟨gn,on,qa⟩),.pointer (qd ⟨gd,od,qa⟩)] 159)):=vv (by rw[y,s]);have k0:=g.c0;have k1:=g.c1;have kl:=g.lt;have k2:=f.c0;have k3:=f.c1;have a5:=f.lt;have a6:(G:Int)<=10:=by omega
 have a7:(F:Int)<=52:=by omega
 have a1:=vv H;rcases k04 a with m|m
 ·have p:qg (q0i (G+1) F below neg mode a b=(if neg then P else 0,0)):=vv (by unfold q0i;rw[if_pos m,r]);have Z:((a:Int).sign==0)=qm:=by rw[m];rfl
  clear D E s L u f y v g hn hd z I r x d H m sa sb;cases neg
  ·go_enter func78,ntmps78;go_wp2_with fail;rw[<- K.o];refine J.o.mono ?_;rintro N q ⟨rfl,rfl⟩;go_wp2;go_ret3;rw[p.o];exact⟨rfl,l.o⟩
  ·go_enter func78,ntmps78;go_wp2_with fail;rw[<- K.o];refine J.o.mono ?_;rintro N q ⟨rfl,rfl⟩;go_wp2;go_ret3;rw[p.o];exact⟨rfl,l.o⟩
 ·have p:qg (q0i (G+1) F below neg mode a b=((if below then P else 0)+(out (G+1) F below mode a b).1,(out (G+1) F below mode a b).2)):=vv (by unfold q0i;rw[if_neg (by omega),r]);have Z:((a:Int).sign==0)=qf:=by rw[k0G (by omega)];rfl
  have C:=qdv (G+1) F below mode a b;have Q:q2i (G+1) F<P:=by unfold q2i;rw[d,x];have e1:=k0m (G+1+F);have e2:=k0m F;show 2^(G+1+F)-2^F<2^(G+1+F);omega
  have R:=vv fun q (h:IntAt q gn on (a:Int)) (h':IntAt q gd od (b:Int))=>qd9 gn on gd od a b G F below mode q h h' m hb0 sa sb g1 g2 h3 h4 hm
  obtain⟨O,T⟩:=yx (out (G+1) F below mode a b);rw[<- T] at R p C;obtain⟨o1v,o2v⟩:=O;have U:qg (bits .or .u64 (o1v:Int) (P:Int)=((P+o1v:Nat):Int)):=vv (by
   have V:o1v<2^c:=by have:P=2^c:=d;rw[<- this];exact k0T C Q
   have W:P=2^c:=d;have a8:o1v<P:=by omega
   rw[u64_or_nat _ _ (by omega) (by omega),Nat.or_comm];have h:=k17 (i:=c) (b:=o1v) V 1;rw[k0H,<- W] at h;rw[<- h])
  have a9:(o1v:Int)<=9223372036854775808:=by have h9:o1v<=q2i (G+1) F:=C;omega
  clear D E s L u f y v g hn hd z I r x d H m sa sb C Q T;go_enter func78,ntmps78;go_wp2_with fail;rw[<- K.o];refine J.o.mono ?_;rintro N q ⟨rfl,rfl⟩;go_wp2_with fail;refine(R.o _ X.o Y.o).mono ?_;rintro N w2 ⟨rfl,S⟩;have l:=vn l S;clear S;cases below
  ·go_wp2;go_ret3;rw[p.o];exact⟨by simp,l.o⟩
  ·go_wp2;go_ret3;rw[p.o];exact⟨by simp [U.o],l.o⟩
end Go.Proofs.YthopehoklmgphaaGreatDoor.Rnd
namespace Go.Proofs.YthopehoklmgphaaGreatDoor
open Go Go.RowKit
theorem IntAt.setPtr{w:qj}{g o gb j:Nat}{v:Int}{p:Option qo}(h:IntAt w g o v)(hp:w.cell? ⟨gb,0,qa⟩=qd (.pointer p))(u:Value):IntAt (w.setCell ⟨gb,j,qa⟩ u) g o v:=by
 have f:gb≠g:=by intro e;subst e;obtain⟨x,hx⟩:=h.head;rw[hp] at hx;cases hx
 have d:∀i,(w.setCell ⟨gb,j,qa⟩ u).cell? ⟨g,i,qa⟩=w.cell? ⟨g,i,qa⟩:=fun i=>q0j (fun e=>by injection e with e1;exact f e1)
 obtain⟨A,n,c,q,r,a,l⟩:=h.ex;refine⟨by simpa [World.setCell] using h.lt,?_,fun i=>?_,A,n,c,(d _).trans q,(d _).trans r,⟨a.len,a.le,a.sm,a.lim,fun hn=>?_⟩,l⟩
 ·obtain⟨x,hx⟩:=h.head;exact⟨x,(d _).trans hx⟩
 ·rw[<- h.fz i];exact q0Y (p:=⟨g,i,qa⟩) (Below.heap_setCell w ⟨gb,j,qa⟩ u g (fun e=>f e.symm))
 ·obtain⟨b,off,e,s,k⟩:=a.cell hn;have m:off=0:=l _ e;subst m;have t:gb≠b:=by intro y;subst y;have:=k 0 hn;rw[hp] at this;cases this
  exact⟨b,0,e,by simpa [World.setCell] using s,fun i hi=>(q0j (fun e=>by injection e with e1;exact t e1)).trans (k i hi)⟩
namespace R5
theorem FmAt.belowLt{B:Nat}{w w':qj}{g:Nat}{E F:Int}(h:FmAt w g E F)(hb:qc B w w')(hl:g<B):FmAt w' g E F:=⟨(hb.cell (p:=⟨g,0,qa⟩) hl).trans h.c0,(hb.cell (p:=⟨g,1,qa⟩) hl).trans h.c1,k01 h.lt hb.size⟩
theorem DyadBox.belowLt{B:Nat}{w w':qj}{g:Nat}{neg:Bool}{A:Option qo}{n c:Nat}{e:Int}(h:DyadBox w g neg A n c e)(hb:qc B w w')(hl:g<B):DyadBox w' g neg A n c e:=⟨(hb.cell (p:=⟨g,0,qa⟩) hl).trans h.c0,(hb.cell (p:=⟨g,1,qa⟩) hl).trans h.c1,(hb.cell (p:=⟨g,2,qa⟩) hl).trans h.c2,k01 h.lt hb.size⟩
end R5
namespace Rnd
open Go.Proofs.YthopehoklmgphaaGreatDoor.R5
theorem NbBox.set0{w:qj}{g gn on gd od:Nat}(h:NbBox w g gn on gd od)(ga oa:Nat):NbBox (w.setCell ⟨g,0,qa⟩ (.pointer (qd ⟨ga,oa,qa⟩))) g ga oa gd od:=⟨q0t h.c0,(q0j (fun e=>by injection e with _ e;omega)).trans h.c1,by simpa [World.setCell] using h.lt⟩
theorem NbBox.set1{w:qj}{g gn on gd od:Nat}(h:NbBox w g gn on gd od)(ga oa:Nat):NbBox (w.setCell ⟨g,1,qa⟩ (.pointer (qd ⟨ga,oa,qa⟩))) g gn on ga oa:=⟨(q0j (fun e=>by injection e with _ e;omega)).trans h.c0,q0t h.c1,by simpa [World.setCell] using h.lt⟩
theorem Dyadic(G F:Nat)(below neg:Bool)(mode:Nat)(Ad:Option qo)(n c N:Nat)(x:Int)(w:qj)(g1:1<=G)(g2:G<=10)(h3:1<=F)(h4:F<=52)(hm:mode<=4)
  (ha:Rd w Ad n c (toL N)) (hn:n<=16384) (hok:twoOk below n (toL N) x=qm) (hx1:-4611686018427387904<=x) (hx2:x<=4611686018427387904) :
  qp qh 53 #[fm ((G:Int)+1) F,q5s below Ad n c x,.bool neg,.int .u8 (mode:Int)] w (q1B (q0i (G+1) F below neg mode (N*p2 x) (p2 (-x))) w):=by
 have d2:bl N<=524288:=by have k1:=q0l N;rw[ha.words,q2T] at k1;have:=q1g k1;omega
 have eG:(((G+1:Nat):Int))=(G:Int)+1:=by omega
 have b3:=R3.chk_ok (Fms.formOk_in (E:=G+1) (F:=F) (by omega) (by omega) h3 h4);rw[eG] at b3;obtain⟨w0,a5⟩:=yx (w.alloc (.cells #[.int .i64 ((G:Int)+1),.int .i64 (F:Int)] 23));obtain⟨w1,a9⟩:=yx (w0.alloc (.cells #[.bool below,.slice Ad n c,.int .i64 x] 90));have b4:qc w.heap.size w w0:=by rw[a5];exact(qb _ w).alloc lr _
 have b5:qc w0.heap.size w0 w1:=by rw[a9];exact(qb _ w0).alloc lr _
 have b8:w0.heap.size=w.heap.size+1:=by rw[a5];simp
 have a6:FmAt w1 w.heap.size ((G:Int)+1) F:=(show FmAt w0 w.heap.size ((G:Int)+1) F by rw[a5];exact FmAt.made w _ _ _).below b5;have a3:DyadBox w1 (w.heap.size+1) below Ad n c x:=by rw[<- b8,a9];exact DyadBox.made w0 _ _ _ _ _ _
 have hB:qc w.heap.size w w1:=b4.trans (b5.mono b4.size);have k:=vv a6;have f:=vv a3;have l:=vv hB;have d3:qg (w1=(w.alloc (.cells #[.int .i64 ((G:Int)+1),.int .i64 (F:Int)] 23)).alloc (.cells #[.bool below,.slice Ad n c,.int .i64 x] 90)):=vv (by rw[a9,a5]);have b9:=vv fun w=>Fms.Check ((G:Int)+1) F w
 rw[b3] at b9;obtain⟨er,b6⟩:=yx (Exa.exaErr below n (toL N) x);have c3:=vv fun z (h:qc w.heap.size w z)=>Exa.Check below Ad n c (toL N) x z (ha.below h rfl)
 rw[<- b6] at c3;have e1:(er==0)=qm:=by rw[b6,Exa.exaErr_zero];exact hok
 have d4:=vv fun z (h:qc w.heap.size w z)=>qck Ad n c N z (ha.below h rfl) (by unfold Sz;omega)
 obtain⟨K,a⟩:=yx (q2Z x (bl N+1200));have d5:-16778717<=K/\K<=16778717:=by rw[a];unfold q2Z;omega
 have a4:=vv fun w=>qdA x (bl N) w hx1 hx2 (by omega)
 rw[<- a] at a4;have d6:bl (p2 K)<=16778718:=by unfold Go.Proofs.YthopehoklmgphaaGreatDoor.p2;rw[q1F];omega
 have d7:bl (p2 (-K))<=16778718:=by unfold Go.Proofs.YthopehoklmgphaaGreatDoor.p2;rw[q1F];omega
 have d8:=q0D N (p2 K);have HT:=vv fun z g g' (h:IntAt z g 0 (N:Int)) (h':IntAt z g' 0 1)=>q4A g 0 g' 0 N 1 K z h h' (by unfold Sz;omega) (by unfold Sz;decide) (by omega) (by omega)
 rw[k0N] at HT;obtain⟨X,hX⟩:=yx (N*p2 K);obtain⟨Y,hY⟩:=yx (p2 (-K));have c4:0<Y:=by rw[hY];exact q0r _
 have sX:Sm X:=by rw[hX];unfold Sm;omega
 have sY:Sm Y:=by rw[hY];unfold Sm;omega
 have hN:=q3p (E:=G+1) (F:=F) (N:=N) (below:=below) (neg:=neg) (mode:=mode) 1200 x (by omega) (by omega) h3 h4 (by omega);rw[<- a,<- hX,<- hY] at hN;rw[<- hN];simp only[<- hX,<- hY] at HT;have c5:=vv fun z g o g' o' (h:IntAt z g o (X:Int)) (h':IntAt z g' o' (Y:Int))=>qbk g o g' o' X Y G F below neg mode z h h' c4 sX sY g1 g2 h3 h4 hm
 obtain⟨S,hS⟩:=yx (q0i (G+1) F below neg mode X Y);rw[<- hS] at c5 ⊢;have e2:(mode:Int)<=4:=by omega
 have dm:qe ((4:Int)<(mode:Int))=qf:=k00 (by omega);have a7:=vv fun z g (h:IntAt z g 0 (N:Int))=>A.BitLen g 0 (N:Int) z h
 simp only[k0b] at a7;obtain⟨b,hb⟩:=yx (bl N);rw[<- hb] at a7 a4;have f0:=a6.c0;have f1:=a6.c1;have r0:=a3.c0;have r1:=a3.c1;have r2:=a3.c2;have l0:=a6.lt;have l1:=a3.lt;clear ha hn hok hx1 hx2 d2 a5 a9 b4 b5 b8 a6 a3 hB a d5 d6 d7 d8 hm b3 b6 hX hY c4 sX sY hN hS hb eG;go_enter func53,ntmps53;go_wp2_with fail;rw[<- d3.o];refine(b9.o _).mono ?_;rintro e w2 ⟨rfl,b0⟩;have k:=vv (k.o.below b0);have f:=vv (f.o.below b0);have l:=vn l b0;obtain⟨f0,f1,l0⟩:=k.o;obtain⟨r0,r1,r2,l1⟩:=f.o;clear b0;go_wp2_with fail;refine(c3.o _ l.o).mono ?_;rintro e w3 ⟨rfl,b1⟩;have k:=vv (k.o.below b1);have f:=vv (f.o.below b1);have l:=vn l b1;obtain⟨f0,f1,l0⟩:=k.o;obtain⟨r0,r1,r2,l1⟩:=f.o;clear b1;go_wp2_with fail;refine(d4.o _ l.o).mono ?_;rintro e w4 ⟨O,rfl,e3,c6,b2⟩;have k:=vv (k.o.below b2);have f:=vv (f.o.below b2);have l:=vn l b2;have L:=vv c6;clear b2 c6 f0 f1 l0 r0 r1 r2 l1;go_wp2_with fail;refine(A.NewInt 1 _ (by decide) (by decide)).mono ?_;rintro e w5 ⟨Z,rfl,e4,c7,a8⟩;have k:=vv (k.o.below a8);have f:=vv (f.o.below a8);have l:=vn l a8;have L:=vv (L.o.below a8);have M:=vv c7;have d9:=f.o.lt;have o5:=(qb w5.heap.size w5).alloc (o:=.cells #[.pointer (qd ⟨O,0,qa⟩),.pointer (qd ⟨Z,0,qa⟩)] 159) lr;have x5:=NbBox.made w5 O 0 Z 0 159;have z5:∀j,(w5.alloc (.cells #[.pointer (qd ⟨O,0,qa⟩),.pointer (qd ⟨Z,0,qa⟩)] 159)).frozen? ⟨w5.heap.size,j,qa⟩=qf:=fun j=>by simp only[World.frozen?];rw[qn];simp
 obtain⟨w6,b7⟩:=yx (w5.alloc (.cells #[.pointer (qd ⟨O,0,qa⟩),.pointer (qd ⟨Z,0,qa⟩)] 159));rw[<- b7] at o5 x5 z5;have c8:=vv b7;have k:=vv (k.o.below o5);have f:=vv (f.o.below o5);have L:=vv (L.o.below o5);have M:=vv (M.o.below o5);obtain⟨g,hg⟩:=yx (w5.heap.size);have c9:w.heap.size+1<g:=by omega
 rw[<- hg] at x5 z5;have q:=vv z5;have HG:=vv hg;have C:=vv c9;have i:=vv x5;have l:=vn l o5;clear b7 o5 x5 z5 a8 c7 hg c9 d9;go_wp2_with fail;rw[<- c8.o,<- HG.o];clear c8;refine q02 (fun z=>z.cell? ⟨w.heap.size+1,2,qa⟩=qd (.int .i64 x)) 15
  (.still 1 (.still 2 (.still 3 (.two 0 (.one 4 (.one 5 (.one 6 (.one 7 (.still 8 (.still 9 (.still 10 (.still 11 (.one 12 (.still 13 (.one 14 .done))))))))))) 4 (.two 0 (.one 5 (.one 6 (.one 7 (.still 8 (.still 9 (.still 10 (.still 11 (.one 12 (.still 13 (.one 14 .done)))))))))) 5 (.two 0 (.one 6 (.one 7 (.still 8 (.still 9 (.still 10 (.still 11 (.one 12 (.still 13 (.one 14 .done))))))))) 6 (.one 0 (.one 7 (.still 8 (.still 9 (.still 10 (.still 11 (.one 12 (.still 13 (.one 14 .done)))))))))))))))
  (by kernel_rfl) (by kernel_rfl) (fun _ _ d _ _ h=>by cases d<;>exact h) f.o.c2 (fun hS0=>?_)
 have k:qg (FmAt w6.drew w.heap.size ((G:Int)+1) F):=vv (k.o.below (q07 (qb _ _)));have f:qg (DyadBox w6.drew (w.heap.size+1) below Ad n c x):=vv (f.o.below (q07 (qb _ _)));have L:qg (IntAt w6.drew O 0 (N:Int)):=vv L.o.drew;have M:qg (IntAt w6.drew Z 0 1):=vv M.o.drew;have i:qg (NbBox w6.drew g O 0 Z 0):=vv i.o.drew;have q:qg (∀j,w6.drew.frozen? ⟨g,j,qa⟩=qf):=vv q.o;have l:qg (qc w.heap.size w w6.drew):=vv (q07 l.o);obtain⟨wc,d0⟩:=yx (w6.drew);rw[<- d0] at k f L M i q l hS0 ⊢;clear d0;obtain⟨U,V,W⟩:=i.o
 iterate 3
  refine q01 (v:=?_) rfl (by rfl) ?_ ?_;rotate_left
  ·intro w a0;go_simp;with_reducible rfl
  simp only[Act.put,sa,sb,sc]
 refine q13 rfl (by rfl) rfl (by rfl) (fun K a=>?_) (fun K a=>?_)
 focus
  go_simp;refine a.out _ _ f.o.c2 (fun D=>?_);clear a;refine q04 rfl (by rfl) (fun K a=>?_);go_simp;refine a.out _ _ f.o.c2 (fun D=>?_);clear a;refine q04 rfl (by rfl) (fun K a=>?_);go_simp;refine(a7.o _ O L.o).mono ?_;rintro e z ⟨rfl,rfl⟩;go_wp2_with fail;refine a.out _ _ f.o.c2 (fun D=>?_);clear a;refine q04 rfl (by rfl) (fun K a=>?_);go_simp;refine(a4.o _).mono ?_;rintro e z ⟨rfl,rfl⟩;go_wp2_with fail;refine a.out _ _ f.o.c2 (fun D=>?_);clear a;refine q04 rfl (by rfl) (fun K a=>?_);go_simp;refine(HT.o _ O Z L.o M.o).mono ?_;rintro e wn ⟨t,u,H,I,rfl,P,Q,y⟩;have k:=vv (k.o.below y);have f:=vv (f.o.below y);have q:qg (∀j,wn.frozen? ⟨g,j,qa⟩=qf):=vv (fun j=>(y.frozen (p:=⟨g,j,qa⟩) i.o.lt).trans (q.o j));have i:=vv (i.o.below y);have l:=vn l y;have r:=vv P;have s:=vv Q;obtain⟨U,V,W⟩:=i.o;clear P Q y L M;go_wp2_with fail;refine a.out _ _ f.o.c2 (fun D=>?_);clear a
  iterate 4
   refine q01 (v:=?_) rfl (by rfl) ?_ ?_;rotate_left
   ·intro w a0;go_simp;with_reducible rfl
   simp only[Act.put,sa,sb,sc]
  refine q04 rfl (by rfl) (fun K a=>?_);have a1:=q.o 0;go_simp;have q:qg (∀j,(wn.setCell ⟨g,0,qa⟩ (.pointer (qd ⟨t,u,qa⟩))).frozen? ⟨g,j,qa⟩=qf):=vv (fun j=>(qi _ _ _ _).trans (q.o j));have r:=vv (r.o.setPtr (j:=0) i.o.c0 (.pointer (qd ⟨t,u,qa⟩)));have s:=vv (s.o.setPtr (j:=0) i.o.c0 (.pointer (qd ⟨t,u,qa⟩)));have m:qc g wn (wn.setCell ⟨g,0,qa⟩ (.pointer (qd ⟨t,u,qa⟩))):=(qb g wn).setCell (p:=⟨g,0,qa⟩) lr _;have k:=vv (k.o.belowLt m (by have:=C.o;omega));have f:=vv (f.o.belowLt m (by have:=C.o;omega));have l:=vv (l.o.trans (m.mono (by have:=C.o;omega)));have i:=vv (i.o.set0 t u);obtain⟨J,R⟩:=yx (wn.setCell ⟨g,0,qa⟩ (.pointer (qd ⟨t,u,qa⟩)));rw[<- R] at q r s k f l i ⊢;clear R m a1;obtain⟨U,V,W⟩:=i.o;refine a.out _ _ f.o.c2 (fun D=>?_);clear a
  iterate 1
   refine q01 (v:=?_) rfl (by rfl) ?_ ?_;rotate_left
   ·intro w a0;go_simp;with_reducible rfl
   simp only[Act.put,sa,sb,sc]
  refine q04 rfl (by rfl) (fun K a=>?_);have a2:=q.o 1;go_simp;have r:=vv (r.o.setPtr (j:=1) i.o.c0 (.pointer (qd ⟨H,I,qa⟩)));have s:=vv (s.o.setPtr (j:=1) i.o.c0 (.pointer (qd ⟨H,I,qa⟩)));have m:qc g J (J.setCell ⟨g,1,qa⟩ (.pointer (qd ⟨H,I,qa⟩))):=(qb g J).setCell (p:=⟨g,1,qa⟩) lr _;have k:=vv (k.o.belowLt m (by have:=C.o;omega));have f:=vv (f.o.belowLt m (by have:=C.o;omega));have l:=vv (l.o.trans (m.mono (by have:=C.o;omega)));have i:=vv (i.o.set1 H I);obtain⟨wl,T⟩:=yx (J.setCell ⟨g,1,qa⟩ (.pointer (qd ⟨H,I,qa⟩)));rw[<- T] at r s k f l i ⊢;clear T m a2;refine a.out _ _ f.o.c2 (fun D=>?_);clear a
 rotate_left 1
 focus
  go_simp;refine a.out _ _ f.o.c2 (fun D=>?_);clear a;refine q13 rfl (by rfl) rfl (by rfl) (fun K a=>?_) (fun K a=>?_)
  focus
   go_simp;refine a.out _ _ f.o.c2 (fun D=>?_);clear a;refine q04 rfl (by rfl) (fun K a=>?_);go_simp;refine(a7.o _ O L.o).mono ?_;rintro e z ⟨rfl,rfl⟩;go_wp2_with fail;refine a.out _ _ f.o.c2 (fun D=>?_);clear a;refine q04 rfl (by rfl) (fun K a=>?_);go_simp;refine(a4.o _).mono ?_;rintro e z ⟨rfl,rfl⟩;go_wp2_with fail;refine a.out _ _ f.o.c2 (fun D=>?_);clear a;refine q04 rfl (by rfl) (fun K a=>?_);go_simp;refine(HT.o _ O Z L.o M.o).mono ?_;rintro e wn ⟨t,u,H,I,rfl,P,Q,y⟩;have k:=vv (k.o.below y);have f:=vv (f.o.below y);have q:qg (∀j,wn.frozen? ⟨g,j,qa⟩=qf):=vv (fun j=>(y.frozen (p:=⟨g,j,qa⟩) i.o.lt).trans (q.o j));have i:=vv (i.o.below y);have l:=vn l y;have r:=vv P;have s:=vv Q;obtain⟨U,V,W⟩:=i.o;clear P Q y L M;go_wp2_with fail;refine a.out _ _ f.o.c2 (fun D=>?_);clear a
   iterate 4
    refine q01 (v:=?_) rfl (by rfl) ?_ ?_;rotate_left
    ·intro w a0;go_simp;with_reducible rfl
    simp only[Act.put,sa,sb,sc]
   refine q04 rfl (by rfl) (fun K a=>?_);have a1:=q.o 0;go_simp;have q:qg (∀j,(wn.setCell ⟨g,0,qa⟩ (.pointer (qd ⟨t,u,qa⟩))).frozen? ⟨g,j,qa⟩=qf):=vv (fun j=>(qi _ _ _ _).trans (q.o j));have r:=vv (r.o.setPtr (j:=0) i.o.c0 (.pointer (qd ⟨t,u,qa⟩)));have s:=vv (s.o.setPtr (j:=0) i.o.c0 (.pointer (qd ⟨t,u,qa⟩)));have m:qc g wn (wn.setCell ⟨g,0,qa⟩ (.pointer (qd ⟨t,u,qa⟩))):=(qb g wn).setCell (p:=⟨g,0,qa⟩) lr _;have k:=vv (k.o.belowLt m (by have:=C.o;omega));have f:=vv (f.o.belowLt m (by have:=C.o;omega));have l:=vv (l.o.trans (m.mono (by have:=C.o;omega)));have i:=vv (i.o.set0 t u);obtain⟨J,R⟩:=yx (wn.setCell ⟨g,0,qa⟩ (.pointer (qd ⟨t,u,qa⟩)));rw[<- R] at q r s k f l i ⊢;clear R m a1;obtain⟨U,V,W⟩:=i.o;refine a.out _ _ f.o.c2 (fun D=>?_);clear a
   iterate 1
    refine q01 (v:=?_) rfl (by rfl) ?_ ?_;rotate_left
    ·intro w a0;go_simp;with_reducible rfl
    simp only[Act.put,sa,sb,sc]
   refine q04 rfl (by rfl) (fun K a=>?_);have a2:=q.o 1;go_simp;have r:=vv (r.o.setPtr (j:=1) i.o.c0 (.pointer (qd ⟨H,I,qa⟩)));have s:=vv (s.o.setPtr (j:=1) i.o.c0 (.pointer (qd ⟨H,I,qa⟩)));have m:qc g J (J.setCell ⟨g,1,qa⟩ (.pointer (qd ⟨H,I,qa⟩))):=(qb g J).setCell (p:=⟨g,1,qa⟩) lr _;have k:=vv (k.o.belowLt m (by have:=C.o;omega));have f:=vv (f.o.belowLt m (by have:=C.o;omega));have l:=vv (l.o.trans (m.mono (by have:=C.o;omega)));have i:=vv (i.o.set1 H I);obtain⟨wl,T⟩:=yx (J.setCell ⟨g,1,qa⟩ (.pointer (qd ⟨H,I,qa⟩)));rw[<- T] at r s k f l i ⊢;clear T m a2;refine a.out _ _ f.o.c2 (fun D=>?_);clear a
  rotate_left 1
  focus
   go_simp;refine(a7.o _ O L.o).mono ?_;rintro e z ⟨rfl,rfl⟩;go_wp2_with fail;refine a.out _ _ f.o.c2 (fun D=>?_);clear a;refine q13 rfl (by rfl) rfl (by rfl) (fun K a=>?_) (fun K a=>?_)
   focus
    go_simp;refine a.out _ _ f.o.c2 (fun D=>?_);clear a;refine q04 rfl (by rfl) (fun K a=>?_);go_simp;refine(a4.o _).mono ?_;rintro e z ⟨rfl,rfl⟩;go_wp2_with fail;refine a.out _ _ f.o.c2 (fun D=>?_);clear a;refine q04 rfl (by rfl) (fun K a=>?_);go_simp;refine(HT.o _ O Z L.o M.o).mono ?_;rintro e wn ⟨t,u,H,I,rfl,P,Q,y⟩;have k:=vv (k.o.below y);have f:=vv (f.o.below y);have q:qg (∀j,wn.frozen? ⟨g,j,qa⟩=qf):=vv (fun j=>(y.frozen (p:=⟨g,j,qa⟩) i.o.lt).trans (q.o j));have i:=vv (i.o.below y);have l:=vn l y;have r:=vv P;have s:=vv Q;obtain⟨U,V,W⟩:=i.o;clear P Q y L M;go_wp2_with fail;refine a.out _ _ f.o.c2 (fun D=>?_);clear a
    iterate 4
     refine q01 (v:=?_) rfl (by rfl) ?_ ?_;rotate_left
     ·intro w a0;go_simp;with_reducible rfl
     simp only[Act.put,sa,sb,sc]
    refine q04 rfl (by rfl) (fun K a=>?_);have a1:=q.o 0;go_simp;have q:qg (∀j,(wn.setCell ⟨g,0,qa⟩ (.pointer (qd ⟨t,u,qa⟩))).frozen? ⟨g,j,qa⟩=qf):=vv (fun j=>(qi _ _ _ _).trans (q.o j));have r:=vv (r.o.setPtr (j:=0) i.o.c0 (.pointer (qd ⟨t,u,qa⟩)));have s:=vv (s.o.setPtr (j:=0) i.o.c0 (.pointer (qd ⟨t,u,qa⟩)));have m:qc g wn (wn.setCell ⟨g,0,qa⟩ (.pointer (qd ⟨t,u,qa⟩))):=(qb g wn).setCell (p:=⟨g,0,qa⟩) lr _;have k:=vv (k.o.belowLt m (by have:=C.o;omega));have f:=vv (f.o.belowLt m (by have:=C.o;omega));have l:=vv (l.o.trans (m.mono (by have:=C.o;omega)));have i:=vv (i.o.set0 t u);obtain⟨J,R⟩:=yx (wn.setCell ⟨g,0,qa⟩ (.pointer (qd ⟨t,u,qa⟩)));rw[<- R] at q r s k f l i ⊢;clear R m a1;obtain⟨U,V,W⟩:=i.o;refine a.out _ _ f.o.c2 (fun D=>?_);clear a
    iterate 1
     refine q01 (v:=?_) rfl (by rfl) ?_ ?_;rotate_left
     ·intro w a0;go_simp;with_reducible rfl
     simp only[Act.put,sa,sb,sc]
    refine q04 rfl (by rfl) (fun K a=>?_);have a2:=q.o 1;go_simp;have r:=vv (r.o.setPtr (j:=1) i.o.c0 (.pointer (qd ⟨H,I,qa⟩)));have s:=vv (s.o.setPtr (j:=1) i.o.c0 (.pointer (qd ⟨H,I,qa⟩)));have m:qc g J (J.setCell ⟨g,1,qa⟩ (.pointer (qd ⟨H,I,qa⟩))):=(qb g J).setCell (p:=⟨g,1,qa⟩) lr _;have k:=vv (k.o.belowLt m (by have:=C.o;omega));have f:=vv (f.o.belowLt m (by have:=C.o;omega));have l:=vv (l.o.trans (m.mono (by have:=C.o;omega)));have i:=vv (i.o.set1 H I);obtain⟨wl,T⟩:=yx (J.setCell ⟨g,1,qa⟩ (.pointer (qd ⟨H,I,qa⟩)));rw[<- T] at r s k f l i ⊢;clear T m a2;refine a.out _ _ f.o.c2 (fun D=>?_);clear a
   rotate_left 1
   focus
    go_simp;refine(a4.o _).mono ?_;rintro e z ⟨rfl,rfl⟩;go_wp2_with fail;refine a.out _ _ f.o.c2 (fun D=>?_);clear a;refine q04 rfl (by rfl) (fun K a=>?_);go_simp;refine a.out _ _ f.o.c2 (fun D=>?_);clear a;refine q04 rfl (by rfl) (fun K a=>?_);go_simp;refine(HT.o _ O Z L.o M.o).mono ?_;rintro e wn ⟨t,u,H,I,rfl,P,Q,y⟩;have k:=vv (k.o.below y);have f:=vv (f.o.below y);have q:qg (∀j,wn.frozen? ⟨g,j,qa⟩=qf):=vv (fun j=>(y.frozen (p:=⟨g,j,qa⟩) i.o.lt).trans (q.o j));have i:=vv (i.o.below y);have l:=vn l y;have r:=vv P;have s:=vv Q;obtain⟨U,V,W⟩:=i.o;clear P Q y L M;go_wp2_with fail;refine a.out _ _ f.o.c2 (fun D=>?_);clear a
    iterate 4
     refine q01 (v:=?_) rfl (by rfl) ?_ ?_;rotate_left
     ·intro w a0;go_simp;with_reducible rfl
     simp only[Act.put,sa,sb,sc]
    refine q04 rfl (by rfl) (fun K a=>?_);have a1:=q.o 0;go_simp;have q:qg (∀j,(wn.setCell ⟨g,0,qa⟩ (.pointer (qd ⟨t,u,qa⟩))).frozen? ⟨g,j,qa⟩=qf):=vv (fun j=>(qi _ _ _ _).trans (q.o j));have r:=vv (r.o.setPtr (j:=0) i.o.c0 (.pointer (qd ⟨t,u,qa⟩)));have s:=vv (s.o.setPtr (j:=0) i.o.c0 (.pointer (qd ⟨t,u,qa⟩)));have m:qc g wn (wn.setCell ⟨g,0,qa⟩ (.pointer (qd ⟨t,u,qa⟩))):=(qb g wn).setCell (p:=⟨g,0,qa⟩) lr _;have k:=vv (k.o.belowLt m (by have:=C.o;omega));have f:=vv (f.o.belowLt m (by have:=C.o;omega));have l:=vv (l.o.trans (m.mono (by have:=C.o;omega)));have i:=vv (i.o.set0 t u);obtain⟨J,R⟩:=yx (wn.setCell ⟨g,0,qa⟩ (.pointer (qd ⟨t,u,qa⟩)));rw[<- R] at q r s k f l i ⊢;clear R m a1;obtain⟨U,V,W⟩:=i.o;refine a.out _ _ f.o.c2 (fun D=>?_);clear a
    iterate 1
     refine q01 (v:=?_) rfl (by rfl) ?_ ?_;rotate_left
     ·intro w a0;go_simp;with_reducible rfl
     simp only[Act.put,sa,sb,sc]
    refine q04 rfl (by rfl) (fun K a=>?_);have a2:=q.o 1;go_simp;have r:=vv (r.o.setPtr (j:=1) i.o.c0 (.pointer (qd ⟨H,I,qa⟩)));have s:=vv (s.o.setPtr (j:=1) i.o.c0 (.pointer (qd ⟨H,I,qa⟩)));have m:qc g J (J.setCell ⟨g,1,qa⟩ (.pointer (qd ⟨H,I,qa⟩))):=(qb g J).setCell (p:=⟨g,1,qa⟩) lr _;have k:=vv (k.o.belowLt m (by have:=C.o;omega));have f:=vv (f.o.belowLt m (by have:=C.o;omega));have l:=vv (l.o.trans (m.mono (by have:=C.o;omega)));have i:=vv (i.o.set1 H I);obtain⟨wl,T⟩:=yx (J.setCell ⟨g,1,qa⟩ (.pointer (qd ⟨H,I,qa⟩)));rw[<- T] at r s k f l i ⊢;clear T m a2;refine a.out _ _ f.o.c2 (fun D=>?_);clear a
 all_goals
  refine q0Z rfl ?_;clear U V W;obtain⟨U,V,W⟩:=i.o;obtain⟨f0,f1,l0⟩:=k.o;have r0:=f.o.c0;have l1:=f.o.lt;go_wp2_with fail;refine(c5.o _ t u H I r.o s.o).mono ?_;rintro e w8 ⟨rfl,d1⟩;have e0:=vn l d1;clear d1 U V W f0 f1 l0 r0 l1;go_wp2;go_ret3;exact⟨rfl,e0.o⟩
end Rnd
end Go.Proofs.YthopehoklmgphaaGreatDoor
namespace Go.Proofs.YthopehoklmgphaaGreatDoor.R5
open Go Go.RowKit
theorem RatioBox.fs{l:List Ob}{w w':qj}{g:Nat}{neg:Bool}{X:Option qo}{n c:Nat}{Y:Option qo}{m d:Nat}(h:RatioBox w g neg X n c Y m d)(hf:Fs l w w')(hne:∀p∈l,p.1≠g):RatioBox w' g neg X n c Y m d:=⟨Rnd.Fs.cell0 hf h.c0 h.lt hne,Rnd.Fs.cell0 hf h.c1 h.lt hne,Rnd.Fs.cell0 hf h.c2 h.lt hne,k01 h.lt hf.size⟩
theorem RatioBox.drew{w:qj}{g:Nat}{neg:Bool}{X:Option qo}{n c:Nat}{Y:Option qo}{m d:Nat}(h:RatioBox w g neg X n c Y m d):RatioBox w.drew g neg X n c Y m d:=⟨h.c0,h.c1,h.c2,h.lt⟩
end Go.Proofs.YthopehoklmgphaaGreatDoor.R5
namespace Go.Proofs.YthopehoklmgphaaGreatDoor.Rtp
open Go Go.RowKit R5
theorem qeC{p:Int}{N D:Nat}(hp:p.natAbs=N)(hg:Nat.gcd N D=1):lp p D=p/\ld p D=D:=by
 unfold lp ld;rw[hp,hg,k1H,k1H];refine⟨?_,rfl⟩;unfold sg;by_cases h:p<0
 ·rw[k03 h,if_pos rfl];omega
 ·rw[k00 h,if_neg (by decide)];omega
theorem q6j(X:Option qo)(n c:Nat)(Y:Option qo)(m d N D:Nat)(w:qj)(hX:Rd w X n c (toL N))(hY:Rd w Y m d (toL D))(hn:n<=16384)(hm:m<=16384)(hD:0<D)(hg:Nat.gcd N D=1)(hst:Std w):qp qh 187 #[q2q qf X n c Y m d] w fun e w'=>∃g,e=.returned (.tuple #[.pointer (qd ⟨g,0,qa⟩),.int .i64 0])/\w.heap.size<=g/\RatAt w' g ((N:Int)) D/\qc w.heap.size w w':=by
 obtain⟨p,t⟩:∃p:Int,p=(N:Int):=⟨_,rfl⟩;have C:p.natAbs=N:=by omega
 obtain⟨a2,a3⟩:=qeC C hg;have wn:=hX.words;have wm:=hY.words;have bN:bl N<=524288:=by have:=A.bl_words N;omega
 have bD:bl D<=524288:=by have:=A.bl_words D;omega
 have d7:0<m:=by
  rcases k04 m with h|h
  ·rw[h,q0c] at wm;omega
  ·exact h
 obtain⟨w0,S⟩:=yx (w.alloc (.cells #[.bool qf,.slice X n c,.slice Y m d] 151));have b0:qc w.heap.size w w0:=by rw[S];exact(qb _ w).alloc lr _
 have z:RatioBox w0 w.heap.size qf X n c Y m d:=by rw[S];exact RatioBox.made w _ _ _ _ _ _ _ _
 have d8:=vv S;have b:=vv b0;have a:=vv z;have d9:=vv hst;have a0:=vv fun w' (h:qc w.heap.size w w')=>Nat_.Check X n c (toL N) w' (hX.below h rfl)
 rw[Nat_.natErr_ok (q29 hX hn)] at a0;have a1:=vv fun w' (h:qc w.heap.size w w')=>Nat_.Check Y m d (toL D) w' (hY.below h rfl)
 rw[Nat_.natErr_ok (q29 hY hm)] at a1;have b3:=vv fun w' (h:qc w.heap.size w w')=>q54 X n c N w' (hX.below h rfl) (by omega)
 have b4:=vv fun w' (h:qc w.heap.size w w')=>q54 Y m d D w' (hY.below h rfl) (by omega)
 have e9:=vv fun w' g (h:IntAt w' g 0 (N:Int))=>A.Neg g 0 g 0 (N:Int) (N:Int) w' h h
 have e0:=vv fun w' g gx y (h:RatSh w' g) (hx:IntAt w' gx 0 p) (hy:IntAt w' y 0 (D:Int)) (hs:Std w')=>A.SetFrac g gx y p D w' h hx hy hD hs (by rw[C];unfold Sz;omega) (by unfold Sz;omega)
 have a4:=vv fun w' g (h:RatAt w' g p D)=>q1h g p D w' h (by rw[a2,C];exact bN) (by rw[a3];exact bD)
 have b5:=vv fun w' g (h:RatAt w' g p D)=>A.Denom g p D w' h
 simp only[a2,a3,C] at a4 b5;have b7:=vv fun w' g gx (h:IntAt w' g 0 (D:Int)) (h':IntAt w' gx 0 (D:Int))=>A.Cmp g 0 gx 0 (D:Int) (D:Int) w' h h'
 simp only[q4n] at b7;have b8:qe (p<0)=qf:=by rw[k0A];omega
 simp only[b8] at a4;have e1:=vv wn;have e2:=vv wm;have f3:((m:Int)==0)=qf:=by rw[k02];omega
 have f4:(n:Int)<=16384:=by omega
 have e8:(m:Int)<=16384:=by omega
 have H:=z.c0;have f1:=z.c1;have f2:=z.c2;have I:=z.lt;rw[<- t];have HP:=vv t;clear hX hY hn hm hD hg hst t C a2 a3 wn wm bN bD d7 S b0 z b8 ;go_enter func187,ntmps187;go_wp2_with fail;rw[<- d8.o];refine(a0.o _ b.o).mono ?_;rintro e w1 ⟨rfl,a5⟩;have a:=vv (a.o.below a5);have b:=vn b a5;obtain⟨H,f1,f2,I⟩:=a.o;clear a5;go_wp2_with fail;refine(a1.o _ b.o).mono ?_;rintro e w2 ⟨rfl,a6⟩;have a:=vv (a.o.below a6);have b:=vn b a6;obtain⟨H,f1,f2,I⟩:=a.o;clear a6;go_wp2_with fail;refine q02 (fun w'=>w'.cell? ⟨w.heap.size,1,qa⟩=qd (.slice X n c)/\w'.cell? ⟨w.heap.size,2,qa⟩=qd (.slice Y m d)) 6
  (.still 0 (.still 1 (.still 3 (.still 4 (.one 2 (.one 5 .done)))))) (by kernel_rfl) (by kernel_rfl) (fun _ _ d _ _ h=>by cases d<;>exact h) ⟨f1,f2⟩ (fun hS0=>?_)
 have a:qg (RatioBox w2.drew w.heap.size qf X n c Y m d):=vv a.o.drew;have b:qg (qc w.heap.size w w2.drew):=vv (q07 b.o);obtain⟨wc,E⟩:=yx (w2.drew);rw[<- E] at a b hS0 ⊢;clear E H f1 f2 I
 iterate 4
  refine q01 (v:=?_) rfl (by rfl) ?_ ?_;rotate_left
  ·intro w a7;go_simp;with_reducible rfl
  simp only[Act.put,sa,sb,sc]
 refine q04 rfl (by rfl) (fun K hK=>?_);go_simp;refine(b3.o _ b.o).mono ?_;rintro e w3 ⟨g1,rfl,e3,c3,T⟩;have s:=vv c3;have a:=vv (a.o.below T);have b:=vn b T;have f5:qg (w.heap.size<g1):=vv (by have:=a.o.lt;have:=T.size;have:w.heap.size<wc.heap.size:=by {show _;exact(by assumption:RatioBox wc w.heap.size qf X n c Y m d).lt};omega);clear c3 T e3;go_wp2_with fail;refine hK.out _ _ ⟨a.o.c1,a.o.c2⟩ (fun F=>?_);clear hK;refine q04 rfl (by rfl) (fun K hK=>?_);go_simp;refine(b4.o _ b.o).mono ?_;rintro e w4 ⟨g2,rfl,e4,c4,U⟩;have j:=vv c4;have c5:g1<g2:=by have:=s.o.lt;omega
 have f6:=vv c5;have s:=vv (s.o.below U);have a:=vv (a.o.below U);have b:=vn b U;clear c4 U e4 c5;go_wp2_with fail;refine hK.out _ _ ⟨a.o.c1,a.o.c2⟩ (fun F=>?_);clear hK;refine q0a ?_;have H:=a.o.c0;have I:=a.o.lt;have c6:IntAt w4 g1 0 p:=by rw[HP.o];exact s.o
 have s:=vv c6;clear c6;obtain⟨J,rfl⟩:∃x:qj,x=w4:=⟨_,rfl⟩;obtain⟨w6,V⟩:=yx (J.alloc (.cells #[.bool qf,.slice qa 0 0,.slice qa 0 0] 293));have L:qc J.heap.size J w6:=by rw[V];exact(qb _ _).alloc lr _
 have z6:RatAt w6 J.heap.size 0 1:=by rw[V];exact RatAt.zero _ _
 obtain⟨g,a8⟩:=yx (J.heap.size);have a9:=s.o.lt;have b1:=j.o.lt;have W:=a.o.lt;rw[<- a8] at z6 a9 b1 W;have e5:=vv z6;have s:=vv (s.o.below L);have j:=vv (j.o.below L);have a:=vv (a.o.below L);have c7:qg (w.heap.size<g):=vv W;have b:=vn b L;have c8:=vv (And.intro a9 (And.intro b1 W));have c9:=vv V;have d0:=vv a8;clear V L z6 a8 a9 b1 W;go_wp2_with fail;clear H I;rw[<- c9.o,<- d0.o];clear c9 d0;refine(e0.o _ g g1 g2 e5.o.sh s.o j.o (d9.o.fs (Fs.of_nil b.o))).mono ?_;rintro e w7 M;have d1:=M.below b.o b.o.size (by have:=c7.o;omega);have l:=vv M.2.1;have a:=vv (a.o.fs M.2.2 (by intro p t;simp at t;rw[t];have:=c8.o.2.2;show g≠_;omega));have j:=vv (j.o.fs M.2.2 (by intro p t k;simp at t;rw[t] at k;have:=c8.o.2.1;exact absurd k (by show g≠_;omega)));have b:=vv d1;obtain⟨rfl,-,-⟩:=M;clear d1;go_wp2_with fail;refine(a4.o _ g l.o).mono ?_;rintro e O ⟨P,q,Q,r,rfl,d2,d3,G⟩;obtain rfl:q=n:=by rw[<- d2.words];exact e1.o
 obtain rfl:r=m:=by rw[<- d3.words];exact e2.o
 have l:=vv (l.o.below G);have a:=vv (a.o.below G);have j:=vv (j.o.below G);have b:=vn b G;clear d2 d3 G;obtain⟨u,Z⟩:=yx (O.alloc (.cells #[.bool qf,.slice P q q,.slice Q r r] 151));have R:qc O.heap.size O u:=by rw[Z];exact(qb _ _).alloc lr _
 have x9:RatioBox u O.heap.size qf P q q Q r r:=by rw[Z];exact RatioBox.made _ _ _ _ _ _ _ _ _
 obtain⟨y,b2⟩:=yx (O.heap.size);rw[<- b2] at x9;have l:=vv (l.o.below R);have a:=vv (a.o.below R);have i:=vv x9;have j:=vv (j.o.below R);have b:=vn b R;have d4:=vv Z;have d5:=vv b2;clear Z R x9 b2;go_wp2_with fail;rw[<- d4.o,<- d5.o];clear d4 d5;refine q02 (fun w'=>(w'.cell? ⟨y,0,qa⟩=qd (.bool qf)/\w'.cell? ⟨y,1,qa⟩=qd (.slice P q q)/\w'.cell? ⟨y,2,qa⟩=qd (.slice Q r r))/\w'.cell? ⟨w.heap.size,0,qa⟩=qd (.bool qf)/\w'.cell? ⟨w.heap.size,1,qa⟩=qd (.slice X q c)/\w'.cell? ⟨w.heap.size,2,qa⟩=qd (.slice Y r d)) 16
  (.still 0 (.still 1 (.still 2 (.still 3 (.still 5 (.one 4 (.one 6 (.still 7 (.still 8 (.still 9 (.still 10 (.still 12 (.one 11 (.one 13 (.still 14 (.still 15 .done)))))))))))))))) (by kernel_rfl) (by kernel_rfl) (fun _ _ d _ _ h=>by cases d<;>exact h) ⟨⟨i.o.c0,i.o.c1,i.o.c2⟩,a.o.c0,a.o.c1,a.o.c2⟩ (fun hS0=>?_)
 have a:qg (RatioBox u.drew w.heap.size qf X q c Y r d):=vv a.o.drew;have i:qg (RatioBox u.drew y qf P q q Q r r):=vv i.o.drew;have l:qg (RatAt u.drew g p D):=vv (l.o.like rfl);have j:qg (IntAt u.drew g2 0 (D:Int)):=vv j.o.drew;have b:qg (qc w.heap.size w u.drew):=vv (q07 b.o);obtain⟨wc,E⟩:=yx (u.drew);rw[<- E] at a i l j b hS0 ⊢;clear E;have yl:=i.o.lt;have xl:=a.o.lt
 iterate 5
  refine q01 (v:=?_) rfl (by rfl) ?_ ?_;rotate_left
  ·intro w a7;go_simp;with_reducible rfl
  simp only[Act.put,sa,sb,sc]
 refine q04 rfl (by rfl) (fun K hK=>?_);go_simp;refine(qdY qf P q q Q r r _).mono ?_;rintro e wn ⟨rfl,f⟩;have a:=vv (a.o.below f);have i:=vv (i.o.below f);have l:=vv (l.o.below f);have j:=vv (j.o.below f);have b:=vn b f;clear f;go_wp2_with fail;refine hK.out _ _ ⟨⟨i.o.c0,i.o.c1,i.o.c2⟩,a.o.c0,a.o.c1,a.o.c2⟩ (fun F=>?_);clear hK;refine q04 rfl (by rfl) (fun K hK=>?_);go_simp;refine(qdY qf X q c Y r d _).mono ?_;rintro e wn ⟨rfl,f⟩;have a:=vv (a.o.below f);have i:=vv (i.o.below f);have l:=vv (l.o.below f);have j:=vv (j.o.below f);have b:=vn b f;clear f;go_wp2_with fail;refine hK.out _ _ ⟨⟨i.o.c0,i.o.c1,i.o.c2⟩,a.o.c0,a.o.c1,a.o.c2⟩ (fun F=>?_);clear hK
 iterate 5
  refine q01 (v:=?_) rfl (by rfl) ?_ ?_;rotate_left
  ·intro w a7;go_simp;with_reducible rfl
  simp only[Act.put,sa,sb,sc]
 refine q04 rfl (by rfl) (fun K hK=>?_);go_simp;refine(b5.o _ g l.o).mono ?_;rintro e wn ⟨g9,rfl,e6,d6,f⟩;have a:=vv (a.o.below f);have i:=vv (i.o.below f);have l:=vv (l.o.below f);have j:=vv (j.o.below f);have b:=vn b f;have e7:=vv d6;clear f e6 d6;go_wp2_with fail;refine hK.out _ _ ⟨⟨i.o.c0,i.o.c1,i.o.c2⟩,a.o.c0,a.o.c1,a.o.c2⟩ (fun F=>?_);clear hK;refine q04 rfl (by rfl) (fun K hK=>?_);go_simp;refine(b7.o _ g9 g2 e7.o j.o).mono ?_;rintro e wn ⟨rfl,f⟩;have a:=vv (a.o.below f);have i:=vv (i.o.below f);have l:=vv (l.o.below f);have j:=vv (j.o.below f);have b:=vn b f;clear f;go_wp2_with fail;refine hK.out _ _ ⟨⟨i.o.c0,i.o.c1,i.o.c2⟩,a.o.c0,a.o.c1,a.o.c2⟩ (fun F=>?_);clear hK
 iterate 2
  refine q01 (v:=?_) rfl (by rfl) ?_ ?_;rotate_left
  ·intro w a7;go_simp;with_reducible rfl
  simp only[Act.put,sa,sb,sc]
 refine q0Z rfl ?_;go_wp2;go_ret2;exact⟨g,rfl,by have:=c7.o;omega,l.o,b.o⟩
theorem q7E(X:Option qo)(n c:Nat)(Y:Option qo)(m d N D:Nat)(w:qj)(hX:Rd w X n c (toL N))(hY:Rd w Y m d (toL D))(hn:n<=16384)(hm:m<=16384)(hD:0<D)(hg:Nat.gcd N D=1)(hN:0<N)(hst:Std w):qp qh 187 #[q2q qm X n c Y m d] w fun e w'=>∃g,e=.returned (.tuple #[.pointer (qd ⟨g,0,qa⟩),.int .i64 0])/\w.heap.size<=g/\RatAt w' g (-(N:Int)) D/\qc w.heap.size w w':=by
 obtain⟨p,q⟩:∃p:Int,p = -(N:Int):=⟨_,rfl⟩;have G:p.natAbs=N:=by omega
 obtain⟨a2,a3⟩:=qeC G hg;have wn:=hX.words;have wm:=hY.words;have bN:bl N<=524288:=by have:=A.bl_words N;omega
 have bD:bl D<=524288:=by have:=A.bl_words D;omega
 have d8:0<m:=by
  rcases k04 m with h|h
  ·rw[h,q0c] at wm;omega
  ·exact h
 obtain⟨w0,S⟩:=yx (w.alloc (.cells #[.bool qm,.slice X n c,.slice Y m d] 151));have b0:qc w.heap.size w w0:=by rw[S];exact(qb _ w).alloc lr _
 have z:RatioBox w0 w.heap.size qm X n c Y m d:=by rw[S];exact RatioBox.made w _ _ _ _ _ _ _ _
 have d9:=vv S;have b:=vv b0;have a:=vv z;have e0:=vv hst;have a0:=vv fun w' (h:qc w.heap.size w w')=>Nat_.Check X n c (toL N) w' (hX.below h rfl)
 rw[Nat_.natErr_ok (q29 hX hn)] at a0;have a1:=vv fun w' (h:qc w.heap.size w w')=>Nat_.Check Y m d (toL D) w' (hY.below h rfl)
 rw[Nat_.natErr_ok (q29 hY hm)] at a1;have b3:=vv fun w' (h:qc w.heap.size w w')=>q54 X n c N w' (hX.below h rfl) (by omega)
 have b4:=vv fun w' (h:qc w.heap.size w w')=>q54 Y m d D w' (hY.below h rfl) (by omega)
 have e1:=vv fun w' g (h:IntAt w' g 0 (N:Int))=>A.Neg g 0 g 0 (N:Int) (N:Int) w' h h
 have e2:=vv fun w' g gx y (h:RatSh w' g) (hx:IntAt w' gx 0 p) (hy:IntAt w' y 0 (D:Int)) (hs:Std w')=>A.SetFrac g gx y p D w' h hx hy hD hs (by rw[G];unfold Sz;omega) (by unfold Sz;omega)
 have a4:=vv fun w' g (h:RatAt w' g p D)=>q1h g p D w' h (by rw[a2,G];exact bN) (by rw[a3];exact bD)
 have b5:=vv fun w' g (h:RatAt w' g p D)=>A.Denom g p D w' h
 simp only[a2,a3,G] at a4 b5;have b7:=vv fun w' g gx (h:IntAt w' g 0 (D:Int)) (h':IntAt w' gx 0 (D:Int))=>A.Cmp g 0 gx 0 (D:Int) (D:Int) w' h h'
 simp only[q4n] at b7;have b8:qe (p<0)=qm:=by rw[k0I];omega
 simp only[b8] at a4;have e3:=vv wn;have e4:=vv wm;have f5:((m:Int)==0)=qf:=by rw[k02];omega
 have f6:(n:Int)<=16384:=by omega
 have f4:(m:Int)<=16384:=by omega
 have C:=z.c0;have f1:=z.c1;have f2:=z.c2;have E:=z.lt;rw[<- q];have HP:=vv q;clear hX hY hn hm hD hg hst q G a2 a3 wn wm bN bD d8 S b0 z b8 hN;go_enter func187,ntmps187;go_wp2_with fail;rw[<- d9.o];refine(a0.o _ b.o).mono ?_;rintro e w1 ⟨rfl,a5⟩;have a:=vv (a.o.below a5);have b:=vn b a5;obtain⟨C,f1,f2,E⟩:=a.o;clear a5;go_wp2_with fail;refine(a1.o _ b.o).mono ?_;rintro e w2 ⟨rfl,a6⟩;have a:=vv (a.o.below a6);have b:=vn b a6;obtain⟨C,f1,f2,E⟩:=a.o;clear a6;go_wp2_with fail;refine q02 (fun w'=>w'.cell? ⟨w.heap.size,1,qa⟩=qd (.slice X n c)/\w'.cell? ⟨w.heap.size,2,qa⟩=qd (.slice Y m d)) 6
  (.still 0 (.still 1 (.still 3 (.still 4 (.one 2 (.one 5 .done)))))) (by kernel_rfl) (by kernel_rfl) (fun _ _ d _ _ h=>by cases d<;>exact h) ⟨f1,f2⟩ (fun hS0=>?_)
 have a:qg (RatioBox w2.drew w.heap.size qm X n c Y m d):=vv a.o.drew;have b:qg (qc w.heap.size w w2.drew):=vv (q07 b.o);obtain⟨wc,H⟩:=yx (w2.drew);rw[<- H] at a b hS0 ⊢;clear H C f1 f2 E
 iterate 4
  refine q01 (v:=?_) rfl (by rfl) ?_ ?_;rotate_left
  ·intro w a7;go_simp;with_reducible rfl
  simp only[Act.put,sa,sb,sc]
 refine q04 rfl (by rfl) (fun K hK=>?_);go_simp;refine(b3.o _ b.o).mono ?_;rintro e w3 ⟨u,rfl,e5,c3,T⟩;have t:=vv c3;have a:=vv (a.o.below T);have b:=vn b T;have c4:qg (w.heap.size<u):=vv (by have:=a.o.lt;have:=T.size;have:w.heap.size<wc.heap.size:=by {show _;exact(by assumption:RatioBox wc w.heap.size qm X n c Y m d).lt};omega);clear c3 T e5;go_wp2_with fail;refine hK.out _ _ ⟨a.o.c1,a.o.c2⟩ (fun I=>?_);clear hK;refine q04 rfl (by rfl) (fun K hK=>?_);go_simp;refine(b4.o _ b.o).mono ?_;rintro e w4 ⟨g2,rfl,e6,c5,U⟩;have j:=vv c5;have c6:u<g2:=by have:=t.o.lt;omega
 have e7:=vv c6;have t:=vv (t.o.below U);have a:=vv (a.o.below U);have b:=vn b U;clear c5 U e6 c6;go_wp2_with fail;refine hK.out _ _ ⟨a.o.c1,a.o.c2⟩ (fun I=>?_);clear hK;refine q0a ?_;have C:=a.o.c0;have E:=a.o.lt;go_wp2_with fail;refine(e1.o _ u t.o).mono ?_;rintro e F ⟨rfl,hi,hf⟩;have hF:=hf.fs t.o hi;have j:=vv (j.o.fs hF (by intro p q k;simp at q;rw[q] at k;have:=e7.o;exact absurd k (by show u≠_;omega)));have a:=vv (a.o.fs hF (by intro p q;simp at q;rw[q];have:=c4.o;show u≠_;omega));have b:=vv (hF.below b.o b.o.size (by intro p q;simp at q;rw[q];have:=c4.o;show w.heap.size<=u;omega));have c7:IntAt F u 0 p:=by rw[HP.o];exact hi
 have t:=vv c7;have C:=a.o.c0;have E:=a.o.lt;clear hi hf hF c7;obtain⟨w6,V⟩:=yx (F.alloc (.cells #[.bool qf,.slice qa 0 0,.slice qa 0 0] 293));have L:qc F.heap.size F w6:=by rw[V];exact(qb _ _).alloc lr _
 have z6:RatAt w6 F.heap.size 0 1:=by rw[V];exact RatAt.zero _ _
 obtain⟨g,a8⟩:=yx (F.heap.size);have a9:=t.o.lt;have b1:=j.o.lt;have W:=a.o.lt;rw[<- a8] at z6 a9 b1 W;have e8:=vv z6;have t:=vv (t.o.below L);have j:=vv (j.o.below L);have a:=vv (a.o.below L);have c8:qg (w.heap.size<g):=vv W;have b:=vn b L;have c9:=vv (And.intro a9 (And.intro b1 W));have d0:=vv V;have d1:=vv a8;clear V L z6 a8 a9 b1 W;go_wp2_with fail;clear C E;rw[<- d0.o,<- d1.o];clear d0 d1;refine(e2.o _ g u g2 e8.o.sh t.o j.o (e0.o.fs (Fs.of_nil b.o))).mono ?_;rintro e w7 M;have d2:=M.below b.o b.o.size (by have:=c8.o;omega);have l:=vv M.2.1;have a:=vv (a.o.fs M.2.2 (by intro p q;simp at q;rw[q];have:=c9.o.2.2;show g≠_;omega));have j:=vv (j.o.fs M.2.2 (by intro p q k;simp at q;rw[q] at k;have:=c9.o.2.1;exact absurd k (by show g≠_;omega)));have b:=vv d2;obtain⟨rfl,-,-⟩:=M;clear d2;go_wp2_with fail;refine(a4.o _ g l.o).mono ?_;rintro e O ⟨P,r,Q,s,rfl,d3,d4,J⟩;obtain rfl:r=n:=by rw[<- d3.words];exact e3.o
 obtain rfl:s=m:=by rw[<- d4.words];exact e4.o
 have l:=vv (l.o.below J);have a:=vv (a.o.below J);have j:=vv (j.o.below J);have b:=vn b J;clear d3 d4 J;obtain⟨x,Z⟩:=yx (O.alloc (.cells #[.bool qm,.slice P r r,.slice Q s s] 151));have R:qc O.heap.size O x:=by rw[Z];exact(qb _ _).alloc lr _
 have x9:RatioBox x O.heap.size qm P r r Q s s:=by rw[Z];exact RatioBox.made _ _ _ _ _ _ _ _ _
 obtain⟨y,b2⟩:=yx (O.heap.size);rw[<- b2] at x9;have l:=vv (l.o.below R);have a:=vv (a.o.below R);have i:=vv x9;have j:=vv (j.o.below R);have b:=vn b R;have d5:=vv Z;have d6:=vv b2;clear Z R x9 b2;go_wp2_with fail;rw[<- d5.o,<- d6.o];clear d5 d6;refine q02 (fun w'=>(w'.cell? ⟨y,0,qa⟩=qd (.bool qm)/\w'.cell? ⟨y,1,qa⟩=qd (.slice P r r)/\w'.cell? ⟨y,2,qa⟩=qd (.slice Q s s))/\w'.cell? ⟨w.heap.size,0,qa⟩=qd (.bool qm)/\w'.cell? ⟨w.heap.size,1,qa⟩=qd (.slice X r c)/\w'.cell? ⟨w.heap.size,2,qa⟩=qd (.slice Y s d)) 16
  (.still 0 (.still 1 (.still 2 (.still 3 (.still 5 (.one 4 (.one 6 (.still 7 (.still 8 (.still 9 (.still 10 (.still 12 (.one 11 (.one 13 (.still 14 (.still 15 .done)))))))))))))))) (by kernel_rfl) (by kernel_rfl) (fun _ _ d _ _ h=>by cases d<;>exact h) ⟨⟨i.o.c0,i.o.c1,i.o.c2⟩,a.o.c0,a.o.c1,a.o.c2⟩ (fun hS0=>?_)
 have a:qg (RatioBox x.drew w.heap.size qm X r c Y s d):=vv a.o.drew;have i:qg (RatioBox x.drew y qm P r r Q s s):=vv i.o.drew;have l:qg (RatAt x.drew g p D):=vv (l.o.like rfl);have j:qg (IntAt x.drew g2 0 (D:Int)):=vv j.o.drew;have b:qg (qc w.heap.size w x.drew):=vv (q07 b.o);obtain⟨wc,H⟩:=yx (x.drew);rw[<- H] at a i l j b hS0 ⊢;clear H;have yl:=i.o.lt;have xl:=a.o.lt
 iterate 5
  refine q01 (v:=?_) rfl (by rfl) ?_ ?_;rotate_left
  ·intro w a7;go_simp;with_reducible rfl
  simp only[Act.put,sa,sb,sc]
 refine q04 rfl (by rfl) (fun K hK=>?_);go_simp;refine(qdY qm P r r Q s s _).mono ?_;rintro e wn ⟨rfl,f⟩;have a:=vv (a.o.below f);have i:=vv (i.o.below f);have l:=vv (l.o.below f);have j:=vv (j.o.below f);have b:=vn b f;clear f;go_wp2_with fail;refine hK.out _ _ ⟨⟨i.o.c0,i.o.c1,i.o.c2⟩,a.o.c0,a.o.c1,a.o.c2⟩ (fun I=>?_);clear hK;refine q04 rfl (by rfl) (fun K hK=>?_);go_simp;refine(qdY qm X r c Y s d _).mono ?_;rintro e wn ⟨rfl,f⟩;have a:=vv (a.o.below f);have i:=vv (i.o.below f);have l:=vv (l.o.below f);have j:=vv (j.o.below f);have b:=vn b f;clear f;go_wp2_with fail;refine hK.out _ _ ⟨⟨i.o.c0,i.o.c1,i.o.c2⟩,a.o.c0,a.o.c1,a.o.c2⟩ (fun I=>?_);clear hK
 iterate 5
  refine q01 (v:=?_) rfl (by rfl) ?_ ?_;rotate_left
  ·intro w a7;go_simp;with_reducible rfl
  simp only[Act.put,sa,sb,sc]
 refine q04 rfl (by rfl) (fun K hK=>?_);go_simp;refine(b5.o _ g l.o).mono ?_;rintro e wn ⟨g9,rfl,e9,d7,f⟩;have a:=vv (a.o.below f);have i:=vv (i.o.below f);have l:=vv (l.o.below f);have j:=vv (j.o.below f);have b:=vn b f;have f3:=vv d7;clear f e9 d7;go_wp2_with fail;refine hK.out _ _ ⟨⟨i.o.c0,i.o.c1,i.o.c2⟩,a.o.c0,a.o.c1,a.o.c2⟩ (fun I=>?_);clear hK;refine q04 rfl (by rfl) (fun K hK=>?_);go_simp;refine(b7.o _ g9 g2 f3.o j.o).mono ?_;rintro e wn ⟨rfl,f⟩;have a:=vv (a.o.below f);have i:=vv (i.o.below f);have l:=vv (l.o.below f);have j:=vv (j.o.below f);have b:=vn b f;clear f;go_wp2_with fail;refine hK.out _ _ ⟨⟨i.o.c0,i.o.c1,i.o.c2⟩,a.o.c0,a.o.c1,a.o.c2⟩ (fun I=>?_);clear hK
 iterate 2
  refine q01 (v:=?_) rfl (by rfl) ?_ ?_;rotate_left
  ·intro w a7;go_simp;with_reducible rfl
  simp only[Act.put,sa,sb,sc]
 refine q0Z rfl ?_;go_wp2;go_ret2;exact⟨g,rfl,by have:=c8.o;omega,l.o,b.o⟩
theorem qe6(neg:Bool)(X:Option qo)(n c:Nat)(Y:Option qo)(m d N D:Nat)(w:qj)(hX:Rd w X n c (toL N))(hY:Rd w Y m d (toL D))(hn:n<=16384)(hm:m<=16384)(hD:0<D)(hg:Nat.gcd N D=1)(h0:neg=qm->0<N)(hst:Std w):qp qh 187 #[q2q neg X n c Y m d] w fun e w'=>∃g,e=.returned (.tuple #[.pointer (qd ⟨g,0,qa⟩),.int .i64 0])/\w.heap.size<=g/\RatAt w' g (sg neg N) D/\qc w.heap.size w w':=by
 cases neg
 ·exact q6j X n c Y m d N D w hX hY hn hm hD hg hst
 ·exact q7E X n c Y m d N D w hX hY hn hm hD hg (h0 rfl) hst
theorem Check(neg:Bool)(X:Option qo)(n c:Nat)(Y:Option qo)(m d N D:Nat)(w:qj)(hX:Rd w X n c (toL N))(hY:Rd w Y m d (toL D))(hn:n<=16384)(hm:m<=16384)(hD:0<D)(hg:Nat.gcd N D=1)(h0:neg=qm->0<N)(hst:Std w):qp qh 123 #[q2q neg X n c Y m d] w fun e w'=>e=.returned (.int .i64 0)/\qc w.heap.size w w':=by
 obtain⟨h,f⟩:=yx (w.alloc (.cells #[.bool neg,.slice X n c,.slice Y m d] 151));have a:qc w.heap.size w h:=by rw[f];exact(qb _ w).alloc lr _
 have b:RatioBox h w.heap.size neg X n c Y m d:=by rw[f];exact RatioBox.made w _ _ _ _ _ _ _ _
 have l:=vv (qe6 neg X n c Y m d N D h (hX.below a rfl) (hY.below a rfl) hn hm hD hg h0 (hst.fs (Fs.of_nil a)));have k:=vv f;have i:=vv a;have p:=b.c0;have q:=b.c1;have r:=b.c2;have s:=b.lt;clear hX hY hn hm hD hg h0 hst f a b;go_enter func123,ntmps123;go_wp2_with fail;rw[<- k.o];refine l.o.mono ?_;rintro e t ⟨g,rfl,-,-,j⟩;have i:=vn i j;clear j;go_wp2;go_ret;exact⟨rfl,i.o⟩
end Go.Proofs.YthopehoklmgphaaGreatDoor.Rtp
namespace Go.Proofs.YthopehoklmgphaaGreatDoor.R5
open Go Go.RowKit
theorem RatioBox.belowLt{B:Nat}{w w':qj}{g:Nat}{neg:Bool}{X:Option qo}{n c:Nat}{Y:Option qo}{m d:Nat}(h:RatioBox w g neg X n c Y m d)(hb:qc B w w')(hl:g<B):RatioBox w' g neg X n c Y m d:=⟨(hb.cell (p:=⟨g,0,qa⟩) hl).trans h.c0,(hb.cell (p:=⟨g,1,qa⟩) hl).trans h.c1,(hb.cell (p:=⟨g,2,qa⟩) hl).trans h.c2,k01 h.lt hb.size⟩
theorem FmAt.fs{l:List Ob}{w w':qj}{g:Nat}{E F:Int}(h:FmAt w g E F)(hf:Fs l w w')(hne:∀p∈l,p.1≠g):FmAt w' g E F:=⟨Rnd.Fs.cell0 hf h.c0 h.lt hne,Rnd.Fs.cell0 hf h.c1 h.lt hne,k01 h.lt hf.size⟩
end Go.Proofs.YthopehoklmgphaaGreatDoor.R5
namespace Go.Proofs.YthopehoklmgphaaGreatDoor.Rnd
open Go Go.RowKit R5
structure NbZero(w:qj)(g:Nat):Prop where
 c0:w.cell? ⟨g,0,qa⟩=qd (.pointer qa)
 c1:w.cell? ⟨g,1,qa⟩=qd (.pointer qa)
 fz:∀j,w.frozen? ⟨g,j,qa⟩=qf
 lt:g<w.heap.size
theorem NbZero.made(w:qj)(t:TypeId):NbZero (w.alloc (.cells #[.pointer qa,.pointer qa] t)) w.heap.size:=by constructor<;>first|(simp only[World.cell?];rw[qn];rfl)|(intro j;simp only[World.frozen?];rw[qn];simp)|simp
theorem NbZero.below{w w':qj}{g:Nat}(h:NbZero w g)(hb:qc w.heap.size w w'):NbZero w' g:=⟨(hb.cell (p:=⟨g,0,qa⟩) h.lt).trans h.c0,(hb.cell (p:=⟨g,1,qa⟩) h.lt).trans h.c1,fun j=>(hb.frozen (p:=⟨g,j,qa⟩) h.lt).trans (h.fz j),k01 h.lt hb.size⟩
theorem qbV(g gx gy y:Nat)(w:qj)(h:IntAt w g 0 0)(hx:IntAt w gx 0 10)(hy:IntAt w gy 0 (y:Int))(hb:y<=20000000):qp qh 124 #[.pointer (qd ⟨g,0,qa⟩),.pointer (qd ⟨gx,0,qa⟩),.pointer (qd ⟨gy,0,qa⟩),.pointer qa] w (q7o g 0 ((10^y:Nat):Int) w):=by
 rcases k04 y with e|e
 ·subst e;exact A.Exp0 g 0 gx 0 gy 0 0 10 w h hx hy
 ·exact A.Exp g 0 gx 0 gy 0 0 10 y w h hx hy (by decide) e (by have:=q5K y;unfold Sz;omega) (by unfold Sz;have:bl y<=y:=q1g Nat.lt_two_pow_self;omega)
theorem Scaled(G F:Nat)(below neg:Bool)(mode:Nat)(Ad:Option qo)(n c:Nat)(Bd:Option qo)(m d N:Nat)(x:Int)(w:qj)(g1:1<=G)(g2:G<=10)(h3:1<=F)(h4:F<=52)(hm:mode<=4)
  (ha:Rd w Ad n c (toL N)) (hb:Rd w Bd m d (toL 1)) (hn:n<=16384) (h0:below=qm->0<N) (hx1:-4611686018427387904<=x) (hx2:x<=4611686018427387904) (hst:Std w) :
  qp qh 72 #[fm ((G:Int)+1) F,q2q below Ad n c Bd m d,.int .i64 x,.bool neg,.int .u8 (mode:Int)] w (q1B (q0i (G+1) F below neg mode (N*t10 x) (t10 (-x))) w):=by
 have b9:bl N<=524288:=by have k1:=q0l N;rw[ha.words,q2T] at k1;have:=q1g k1;omega
 have eG:(((G+1:Nat):Int))=(G:Int)+1:=by omega
 have d4:=R3.chk_ok (Fms.formOk_in (E:=G+1) (F:=F) (by omega) (by omega) h3 h4);rw[eG] at d4;have i3:m=1:=hb.words.symm;obtain⟨W,a7⟩:=yx (w.alloc (.cells #[.int .i64 ((G:Int)+1),.int .i64 (F:Int)] 23));obtain⟨w1,c3⟩:=yx (W.alloc (.cells #[.bool below,.slice Ad n c,.slice Bd m d] 151));have d5:qc w.heap.size w W:=by rw[a7];exact(qb _ w).alloc lr _
 have d6:qc W.heap.size W w1:=by rw[c3];exact(qb _ W).alloc lr _
 have f6:W.heap.size=w.heap.size+1:=by rw[a7];simp
 have a8:FmAt w1 w.heap.size ((G:Int)+1) F:=(show FmAt W w.heap.size ((G:Int)+1) F by rw[a7];exact FmAt.made w _ _ _).below d6;have a4:RatioBox w1 (w.heap.size+1) below Ad n c Bd m d:=by rw[<- f6,c3];exact RatioBox.made W _ _ _ _ _ _ _ _
 have hB:qc w.heap.size w w1:=d5.trans (d6.mono d5.size);have r:=vv a8;have a:=vv a4;have l:=vv hB;have i4:qg (w1=(w.alloc (.cells #[.int .i64 ((G:Int)+1),.int .i64 (F:Int)] 23)).alloc (.cells #[.bool below,.slice Ad n c,.slice Bd m d] 151)):=vv (by rw[c3,a7]);have f7:=vv fun w=>Fms.Check ((G:Int)+1) F w
 rw[d4] at f7;have i5:=vv fun i (h:qc w.heap.size w i)=>Rtp.Check below Ad n c Bd m d N 1 i (ha.below h rfl) (hb.below h rfl) hn (by omega) (by decide) (k2o N) h0 (hst.fs (Fs.of_nil h))
 have f8:=vv fun i (h:qc w.heap.size w i)=>qck Ad n c N i (ha.below h rfl) (by unfold Sz;omega)
 have d7:=vv fun i (h:qc w.heap.size w i)=>qck Bd m d 1 i (hb.below h rfl) (by unfold Sz;decide)
 obtain⟨Q,q⟩:=yx (q2Z x (bl N+1+1200));have d8:-16778717<=Q/\Q<=16778717:=by rw[q];unfold q2Z;omega
 have d9:=vv fun w=>qdA x (bl N+1) w hx1 hx2 (by omega)
 have eK:q2Z x (((bl N+1:Nat):Int)+1200)=Q:=by rw[q];congr 1
 rw[eK] at d9;obtain⟨y,hy⟩:=yx (Q.natAbs);have i6:y<=16778717:=by omega
 have a0:max Q (-Q)=(y:Int):=by omega
 have f9:=q5K y;have i7:=q0D N (10^y);obtain⟨X,hX⟩:=yx (N*t10 Q);obtain⟨Y,hY⟩:=yx (t10 (-Q));have g0:0<Y:=by rw[hY];exact q3T _
 have a9:0<=Q->(N:Int)*((10^y:Nat):Int)=(X:Int)/\Y=1:=by
  intro h;have L:Q.toNat=y:=by omega
  have U:(-Q).toNat=0:=by omega
  rw[hX,hY];unfold t10;rw[L,U];exact⟨(k0a _ _).symm,rfl⟩
 have c4:Q<0->(1:Int)*((10^y:Nat):Int)=(Y:Int)/\X=N:=by
  intro h;have L:(-Q).toNat=y:=by omega
  have U:Q.toNat=0:=by omega
  rw[hX,hY];unfold t10;rw[L,U];exact⟨Int.one_mul _,k0H _⟩
 have sX:Sm X:=by
  rcases k1f Q 0 with h|h
  ·rw[(c4 h).2];unfold Sm;omega
  ·have:=(a9 h).1;have e:X=N*10^y:=by
    have L:Q.toNat=y:=by omega
    rw[hX];unfold t10;rw[L]
   rw[e];unfold Sm;omega
 have sY:Sm Y:=by
  rcases k1f Q 0 with h|h
  ·have L:(-Q).toNat=y:=by omega
   rw[hY];unfold t10 Sm;rw[L];omega
  ·rw[(a9 h).2];unfold Sm;decide
 have hN:=q3V (E:=G+1) (F:=F) (N:=N) (below:=below) (neg:=neg) (mode:=mode) 1200 x (by omega) (by omega) h3 h4 (by omega);rw[<- q,<- hX,<- hY] at hN;rw[<- hN];have e0:=vv fun i g o g' o' (h:IntAt i g o (X:Int)) (h':IntAt i g' o' (Y:Int))=>qbk g o g' o' X Y G F below neg mode i h h' g0 sX sY g1 g2 h3 h4 hm
 obtain⟨S,hS⟩:=yx (q0i (G+1) F below neg mode X Y);rw[<- hS] at e0 ⊢;obtain⟨T,hT⟩:=yx (10^y);have g3:=vv fun i g gx gy (h:IntAt i g 0 0) (hx:IntAt i gx 0 10) (hy:IntAt i gy 0 (y:Int))=>qbV g gx gy y i h hx hy (by omega)
 rw[<- hT] at g3 a9 c4 f9;have i8:=vv fun i g gp (h:IntAt i g 0 (N:Int)) (t:IntAt i gp 0 (T:Int))=>A.Mul g 0 g 0 gp 0 (N:Int) (N:Int) (T:Int) i h h t (by rw[k0b];unfold Sz;omega) (by rw[k0b];unfold Sz;omega)
 have i9:=vv fun i g gp (h:IntAt i g 0 1) (t:IntAt i gp 0 (T:Int))=>A.Mul g 0 g 0 gp 0 1 1 (T:Int) i h h t (by unfold Sz;decide) (by rw[k0b];unfold Sz;omega)
 have j0:=vv a9;have j1:=vv c4;have j8:(mode:Int)<=4:=by omega
 have dm:qe ((4:Int)<(mode:Int))=qf:=k00 (by omega);have e3:=vv fun i g (h:IntAt i g 0 (N:Int))=>A.BitLen g 0 (N:Int) i h
 simp only[k0b] at e3;have f5:qg (∀i g,IntAt i g 0 1->qp qh 77 #[.pointer (qd ⟨g,0,qa⟩)] i fun e w''=>e=.returned (.int .i64 1)/\i=w''):=vv fun i g h=>(A.BitLen g 0 1 i h).mono (fun e w'' h=>⟨by rw[h.1];rfl,h.2⟩)
 obtain⟨b,g4⟩:=yx (bl N);rw[<- g4] at e3 d9;have j2:qg (IntKind.i64.wrap ((b:Int)+1)=((b+1:Nat):Int)):=vv (by rw[IntKind.wrap_i64];omega);have j3:=vv fun i=>A.NewInt 10 i (by decide) (by decide)
 have j4:=vv fun i=>A.NewInt (y:Int) i (by omega) (by omega)
 have j9:Q<=16778717:=d8.2;have k0:-16778717<=Q:=d8.1;have f0:=a8.c0;have f1:=a8.c1;have r0:=a4.c0;have r1:=a4.c1;have r2:=a4.c2;have l0:=a8.lt;have l1:=a4.lt;have j5:=vv a0;have k2:(y:Int)<=16778717:=by omega
 clear ha hb hn h0 hx1 hx2 hst b9 a7 c3 d5 d6 f6 a8 a4 hB q d8 eK f9 i7 hm d4 hX hY g0 sX sY hN hS g4 eG i3 a9 c4 hT hy i6 a0;go_enter func72,ntmps72;go_wp2_with fail;rw[<- i4.o];refine(f7.o _).mono ?_;rintro e w2 ⟨rfl,c5⟩;have r:=vv (r.o.below c5);have a:=vv (a.o.below c5);have l:=vn l c5;obtain⟨r0,r1,r2,l1⟩:=a.o;clear c5 f0 f1 l0;go_wp2_with fail;refine(i5.o _ l.o).mono ?_;rintro e w3 ⟨rfl,c6⟩;have r:=vv (r.o.below c6);have a:=vv (a.o.below c6);have l:=vn l c6;clear c6 r0 r1 r2 l1;go_wp2_with fail;refine q02 (fun i=>i.cell? ⟨w.heap.size+1,1,qa⟩=qd (.slice Ad n c)/\i.cell? ⟨w.heap.size+1,2,qa⟩=qd (.slice Bd m d)) 8
  (.still 0 (.still 1 (.still 3 (.still 4 (.two 2 (.two 5 (.still 6 (.one 7 .done)) 7 (.one 5 (.still 6 .done))) 7 (.one 2 (.one 5 (.still 6 .done))))))))
  (by kernel_rfl) (by kernel_rfl) (fun _ _ d _ _ h=>by cases d<;>exact h) ⟨a.o.c1,a.o.c2⟩ (fun hS0=>?_)
 have r:qg (FmAt w3.drew w.heap.size ((G:Int)+1) F):=vv (r.o.below (q07 (qb _ _)));have a:qg (RatioBox w3.drew (w.heap.size+1) below Ad n c Bd m d):=vv a.o.drew;have l:qg (qc w.heap.size w w3.drew):=vv (q07 l.o);obtain⟨wc,g5⟩:=yx (w3.drew);rw[<- g5] at r a l hS0 ⊢;clear g5
 iterate 4
  refine q01 (v:=?_) rfl (by rfl) ?_ ?_;rotate_left
  ·intro w b0;go_simp;with_reducible rfl
  simp only[Act.put,sa,sb,sc]
 refine q13 rfl (by rfl) rfl (by rfl) (fun K q=>?_) (fun K q=>?_)
 focus
  go_simp;refine(f8.o _ l.o).mono ?_;rintro e wn ⟨C,rfl,e4,J,f⟩;have c7:qg (w.heap.size+1<C):=vv (by have:=a.o.lt;omega)
  try have b1:qg (g≠C):=vv (by have:=D.o.lt;omega)
  try have D:=vv (D.o.below f)
  try have s:=vv (s.o.below f)
  try have u:=vv (u.o.below f)
  have r:=vv (r.o.below f);have a:=vv (a.o.below f);have l:=vn l f;clear f;have s:=vv J;clear J e4;obtain⟨wc,rfl⟩:=yx wn;go_wp2_with fail;refine q.out _ _ ⟨a.o.c1,a.o.c2⟩ (fun R=>?_);clear q;refine q13 rfl (by rfl) rfl (by rfl) (fun K q=>?_) (fun K q=>?_)
  focus
   go_simp;refine(d7.o _ l.o).mono ?_;rintro e wn ⟨z,rfl,b2,J,f⟩;have b3:qg (w.heap.size+1<z):=vv (by have:=a.o.lt;omega);have c8:qg (C≠z):=vv (by have:=s.o.lt;omega)
   try have a5:qg (g≠z):=vv (by have:=D.o.lt;omega)
   try have D:=vv (D.o.below f)
   try have s:=vv (s.o.below f)
   try have u:=vv (u.o.below f)
   have r:=vv (r.o.below f);have a:=vv (a.o.below f);have l:=vn l f;clear f;have u:=vv (show IntAt wn z 0 1 from J);clear J b2;obtain⟨wc,rfl⟩:=yx wn;go_wp2_with fail;refine q.out _ _ ⟨a.o.c1,a.o.c2⟩ (fun R=>?_);clear q
   iterate 1
    refine q01 (v:=?_) rfl (by rfl) ?_ ?_;rotate_left
    ·intro w b0;go_simp;with_reducible rfl
    simp only[Act.put,sa,sb,sc]
   refine q04 rfl (by rfl) (fun K q=>?_);go_simp;obtain⟨g,O⟩:=yx (wc.heap.size);obtain⟨wn,I⟩:=yx (wc.alloc (.cells #[.pointer qa,.pointer qa] 159));have f:qc wc.heap.size wc wn:=by rw[I];exact(qb _ _).alloc lr _
   have Z:NbZero wn g:=by rw[I,O];exact NbZero.made _ _
   have b4:qg (w.heap.size+1<g):=vv (by have:=a.o.lt;omega)
   try have b1:qg (g≠C):=vv (by have:=s.o.lt;omega)
   try have a5:qg (g≠z):=vv (by have:=u.o.lt;omega)
   rw[<- I,<- O]
   try have D:=vv (D.o.below f)
   try have s:=vv (s.o.below f)
   try have u:=vv (u.o.below f)
   have r:=vv (r.o.below f);have a:=vv (a.o.below f);have l:=vn l f;clear f;have D:=vv Z;clear Z I O;obtain⟨wc,rfl⟩:=yx wn;go_wp2_with fail;refine q.out _ _ ⟨a.o.c1,a.o.c2⟩ (fun R=>?_);clear q
  rotate_left 1
  focus
   go_simp;obtain⟨g,O⟩:=yx (wc.heap.size);obtain⟨wn,I⟩:=yx (wc.alloc (.cells #[.pointer qa,.pointer qa] 159));have f:qc wc.heap.size wc wn:=by rw[I];exact(qb _ _).alloc lr _
   have Z:NbZero wn g:=by rw[I,O];exact NbZero.made _ _
   have b4:qg (w.heap.size+1<g):=vv (by have:=a.o.lt;omega)
   try have b1:qg (g≠C):=vv (by have:=s.o.lt;omega)
   try have a5:qg (g≠z):=vv (by have:=u.o.lt;omega)
   rw[<- I,<- O]
   try have D:=vv (D.o.below f)
   try have s:=vv (s.o.below f)
   try have u:=vv (u.o.below f)
   have r:=vv (r.o.below f);have a:=vv (a.o.below f);have l:=vn l f;clear f;have D:=vv Z;clear Z I O;obtain⟨wc,rfl⟩:=yx wn;go_wp2_with fail;refine q.out _ _ ⟨a.o.c1,a.o.c2⟩ (fun R=>?_);clear q;refine q04 rfl (by rfl) (fun K q=>?_);go_simp;refine(d7.o _ l.o).mono ?_;rintro e wn ⟨z,rfl,b2,J,f⟩;have b3:qg (w.heap.size+1<z):=vv (by have:=a.o.lt;omega);have c8:qg (C≠z):=vv (by have:=s.o.lt;omega)
   try have a5:qg (g≠z):=vv (by have:=D.o.lt;omega)
   try have D:=vv (D.o.below f)
   try have s:=vv (s.o.below f)
   try have u:=vv (u.o.below f)
   have r:=vv (r.o.below f);have a:=vv (a.o.below f);have l:=vn l f;clear f;have u:=vv (show IntAt wn z 0 1 from J);clear J b2;obtain⟨wc,rfl⟩:=yx wn;go_wp2_with fail;refine q.out _ _ ⟨a.o.c1,a.o.c2⟩ (fun R=>?_);clear q
   iterate 1
    refine q01 (v:=?_) rfl (by rfl) ?_ ?_;rotate_left
    ·intro w b0;go_simp;with_reducible rfl
    simp only[Act.put,sa,sb,sc]
 rotate_left 2
 focus
  go_simp;obtain⟨g,O⟩:=yx (wc.heap.size);obtain⟨wn,I⟩:=yx (wc.alloc (.cells #[.pointer qa,.pointer qa] 159));have f:qc wc.heap.size wc wn:=by rw[I];exact(qb _ _).alloc lr _
  have Z:NbZero wn g:=by rw[I,O];exact NbZero.made _ _
  have b4:qg (w.heap.size+1<g):=vv (by have:=a.o.lt;omega)
  try have b1:qg (g≠C):=vv (by have:=s.o.lt;omega)
  try have a5:qg (g≠z):=vv (by have:=u.o.lt;omega)
  rw[<- I,<- O]
  try have D:=vv (D.o.below f)
  try have s:=vv (s.o.below f)
  try have u:=vv (u.o.below f)
  have r:=vv (r.o.below f);have a:=vv (a.o.below f);have l:=vn l f;clear f;have D:=vv Z;clear Z I O;obtain⟨wc,rfl⟩:=yx wn;go_wp2_with fail;refine q.out _ _ ⟨a.o.c1,a.o.c2⟩ (fun R=>?_);clear q;refine q04 rfl (by rfl) (fun K q=>?_);go_simp;refine(f8.o _ l.o).mono ?_;rintro e wn ⟨C,rfl,e4,J,f⟩;have c7:qg (w.heap.size+1<C):=vv (by have:=a.o.lt;omega)
  try have b1:qg (g≠C):=vv (by have:=D.o.lt;omega)
  try have D:=vv (D.o.below f)
  try have s:=vv (s.o.below f)
  try have u:=vv (u.o.below f)
  have r:=vv (r.o.below f);have a:=vv (a.o.below f);have l:=vn l f;clear f;have s:=vv J;clear J e4;obtain⟨wc,rfl⟩:=yx wn;go_wp2_with fail;refine q.out _ _ ⟨a.o.c1,a.o.c2⟩ (fun R=>?_);clear q;refine q04 rfl (by rfl) (fun K q=>?_);go_simp;refine(d7.o _ l.o).mono ?_;rintro e wn ⟨z,rfl,b2,J,f⟩;have b3:qg (w.heap.size+1<z):=vv (by have:=a.o.lt;omega);have c8:qg (C≠z):=vv (by have:=s.o.lt;omega)
  try have a5:qg (g≠z):=vv (by have:=D.o.lt;omega)
  try have D:=vv (D.o.below f)
  try have s:=vv (s.o.below f)
  try have u:=vv (u.o.below f)
  have r:=vv (r.o.below f);have a:=vv (a.o.below f);have l:=vn l f;clear f;have u:=vv (show IntAt wn z 0 1 from J);clear J b2;obtain⟨wc,rfl⟩:=yx wn;go_wp2_with fail;refine q.out _ _ ⟨a.o.c1,a.o.c2⟩ (fun R=>?_);clear q
  iterate 1
   refine q01 (v:=?_) rfl (by rfl) ?_ ?_;rotate_left
   ·intro w b0;go_simp;with_reducible rfl
   simp only[Act.put,sa,sb,sc]
 all_goals
  refine q0a ?_;have z0:=D.o.c0;have z1:=D.o.c1;have fz:=D.o.fz;have zl:=D.o.lt;obtain⟨P,a6⟩:=yx ((wc.setCell ⟨g,0,qa⟩ (.pointer (qd ⟨C,0,qa⟩))).setCell ⟨g,1,qa⟩ (.pointer (qd ⟨z,0,qa⟩)));have c9:(wc.setCell ⟨g,0,qa⟩ (.pointer (qd ⟨C,0,qa⟩))).cell? ⟨g,0,qa⟩=qd (.pointer (qd ⟨C,0,qa⟩)):=q0t z0;have a3:(⟨g,0,qa⟩:qo)≠⟨g,1,qa⟩:=fun e=>by injection e with _ e;exact absurd e (by decide)
  have b7:IntAt P C 0 (N:Int):=by rw[a6];exact(s.o.setPtr (j:=0) z0 _).setPtr (j:=1) c9 _
  have b8:IntAt P z 0 1:=by rw[a6];exact(u.o.setPtr (j:=0) z0 _).setPtr (j:=1) c9 _
  have d0:qc g wc P:=by rw[a6];exact((qb g wc).setCell (p:=⟨g,0,qa⟩) lr _).setCell (p:=⟨g,1,qa⟩) lr _
  have b9:NbBox P g C 0 z 0:=by rw[a6];exact⟨(q0j a3.symm).trans c9,q0t ((q0j a3).trans z1),by simpa [World.setCell] using zl⟩
  have r:=vv (r.o.belowLt d0 (by have:=b4.o;omega));have a:=vv (a.o.belowLt d0 (by have:=b4.o;omega));have l:=vv (l.o.trans (d0.mono (by have:=b4.o;omega)));have s:=vv b7;have u:=vv b8;have H:=vv b9;have g6:=vv a6;clear c9 a3 b7 b8 d0 b9 a6;go_wp2_with fail;rw[<- g6.o];clear g6 z0 z1 fz zl;refine q02 (fun i=>i.cell? ⟨g,0,qa⟩=qd (.pointer (qd ⟨C,0,qa⟩))/\i.cell? ⟨g,1,qa⟩=qd (.pointer (qd ⟨z,0,qa⟩))) 9
   (.still 0 (.still 1 (.still 2 (.still 4 (.still 5 (.one 3 (.one 6 (.still 7 (.one 8 .done))))))))) (by kernel_rfl) (by kernel_rfl) (fun _ _ d _ _ h=>by cases d<;>exact h) ⟨H.o.c0,H.o.c1⟩ (fun hS0=>?_)
  have r:qg (FmAt P.drew w.heap.size ((G:Int)+1) F):=vv (r.o.below (q07 (qb _ _)));have a:qg (RatioBox P.drew (w.heap.size+1) below Ad n c Bd m d):=vv a.o.drew;have l:qg (qc w.heap.size w P.drew):=vv (q07 l.o);have s:qg (IntAt P.drew C 0 (N:Int)):=vv s.o.drew;have u:qg (IntAt P.drew z 0 1):=vv u.o.drew;have H:qg (NbBox P.drew g C 0 z 0):=vv H.o.drew;obtain⟨wd,g7⟩:=yx (P.drew);rw[<- g7] at r a l s u H hS0 ⊢;clear g7;have xl:=H.o.lt
  iterate 5
   refine q01 (v:=?_) rfl (by rfl) ?_ ?_;rotate_left
   ·intro w b0;go_simp;with_reducible rfl
   simp only[Act.put,sa,sb,sc]
  refine q04 rfl (by rfl) (fun K q=>?_);go_simp;refine(e3.o _ C s.o).mono ?_;rintro e i ⟨rfl,rfl⟩;go_wp2_with fail;refine q.out _ _ ⟨H.o.c0,H.o.c1⟩ (fun R=>?_);clear q;refine q04 rfl (by rfl) (fun K q=>?_);go_simp;refine(f5.o _ z u.o).mono ?_;rintro e i ⟨rfl,rfl⟩;go_wp2_with fail;refine q.out _ _ ⟨H.o.c0,H.o.c1⟩ (fun R=>?_);clear q
  iterate 1
   refine q01 (v:=?_) rfl (by rfl) ?_ ?_;rotate_left
   ·intro w b0;go_simp;with_reducible rfl
   simp only[Act.put,sa,sb,sc]
  rw[j2.o];refine q04 rfl (by rfl) (fun K q=>?_);go_simp;refine(d9.o _).mono ?_;rintro e i ⟨rfl,rfl⟩;go_wp2_with fail;refine q.out _ _ ⟨H.o.c0,H.o.c1⟩ (fun R=>?_);clear q xl;refine q0a ?_;obtain⟨gz,e5⟩:=yx (wd.heap.size);obtain⟨wz,d1⟩:=yx (wd.alloc (.cells #[.bool qf,.slice qa 0 0] 200));have g8:qc wd.heap.size wd wz:=by rw[d1];exact(qb _ _).alloc lr _
  have b5:IntAt wz gz 0 0:=by rw[d1,e5];exact IntAt.zero _ _
  have a1:=vv g8;have V:=vv b5;have g9:=vv d1;have e6:=vv e5;clear e5 d1 g8 b5;go_wp2_with fail;rw[<- g9.o,<- e6.o];refine(j3.o _).mono ?_;rintro e wt ⟨gT,rfl,j6,i0,e7⟩;have V:=vv (V.o.below e7);have a1:=vn a1 e7;have d2:=vv i0;clear i0 e7 j6 g9;have a0:=j5.o;go_wp2_with fail;clear a0;refine(j4.o _).mono ?_;rintro e wy ⟨gY,rfl,j7,i1,d3⟩;have V:=vv (V.o.below d3);have a1:=vn a1 d3;have d2:=vv (d2.o.below d3);have i2:=vv i1;clear i1 d3 j7;go_wp2_with fail;refine(g3.o _ gz gT gY V.o d2.o i2.o).mono ?_;rintro e we hP;have a2:=hP.below a1.o a1.o.size (by have:=e6.o;omega);obtain⟨rfl,b5,-⟩:=hP;have V:=vv b5;have r:=vv (r.o.below a2);have a:=vv (a.o.below a2);have l:=vn l a2;have s:=vv (s.o.below a2);have u:=vv (u.o.below a2);have H:=vv (H.o.below a2);obtain⟨x0,x1,xl⟩:=H.o;clear a2 b5 a1 d2 i2 e6;by_cases hneg:Q<0
  ·obtain⟨L,U⟩:=j1.o hneg;have dK:qe (Q<0)=qm:=k03 hneg;have e8:=vv L;have e9:=vv U;clear L U hneg;go_wp2_with fail;refine(i9.o _ z gz u.o V.o).mono ?_;rintro e wm ⟨rfl,hi,hf⟩;rw[e8.o] at hi;have M:=hf.fs u.o hi;have f2:=vv hi;have f3:qg (IntAt wm C 0 (X:Int)):=vv (by rw[e9.o];exact s.o.fs M (by intro p t k;simp at t;rw[t] at k;exact absurd k.symm c8.o));have a:=vv (a.o.fs M (by intro p t;simp at t;rw[t];have:=b3.o;show z≠_;omega));have r:=vv (r.o.fs M (by intro p t;simp at t;rw[t];have:=b3.o;show z≠_;omega));have H:=vv (H.o.fs M (by intro p t;simp at t;rw[t];exact Ne.symm a5.o));have l:=vv (M.below l.o l.o.size (by intro p t;simp at t;rw[t];have:=b3.o;show w.heap.size<=z;omega));clear hi hf M;obtain⟨x0,x1,xl⟩:=H.o;obtain⟨f0,f1,l0⟩:=r.o;have r0:=a.o.c0;have l1:=a.o.lt;go_wp2_with fail;refine(e0.o _ C 0 z 0 f3.o f2.o).mono ?_;rintro e w8 ⟨rfl,b6⟩;have f4:=vn l b6;clear b6 x0 x1 xl f0 f1 l0 r0 l1;go_wp2;go_ret3;exact⟨rfl,f4.o⟩
  ·obtain⟨L,U⟩:=j0.o (by omega);have dK:qe (Q<0)=qf:=k00 hneg;have e8:=vv L;have e9:=vv U;clear L U hneg;go_wp2_with fail;refine(i8.o _ C gz s.o V.o).mono ?_;rintro e wm ⟨rfl,hi,hf⟩;rw[e8.o] at hi;have M:=hf.fs s.o hi;have f3:=vv hi;have f2:qg (IntAt wm z 0 (Y:Int)):=vv (by rw[e9.o];exact u.o.fs M (by intro p t k;simp at t;rw[t] at k;exact absurd k c8.o));have a:=vv (a.o.fs M (by intro p t;simp at t;rw[t];have:=c7.o;show C≠_;omega));have r:=vv (r.o.fs M (by intro p t;simp at t;rw[t];have:=c7.o;show C≠_;omega));have H:=vv (H.o.fs M (by intro p t;simp at t;rw[t];exact Ne.symm b1.o));have l:=vv (M.below l.o l.o.size (by intro p t;simp at t;rw[t];have:=c7.o;show w.heap.size<=C;omega));clear hi hf M;obtain⟨x0,x1,xl⟩:=H.o;obtain⟨f0,f1,l0⟩:=r.o;have r0:=a.o.c0;have l1:=a.o.lt;go_wp2_with fail;refine(e0.o _ C 0 z 0 f3.o f2.o).mono ?_;rintro e w8 ⟨rfl,b6⟩;have f4:=vn l b6;clear b6 x0 x1 xl f0 f1 l0 r0 l1;go_wp2;go_ret3;exact⟨rfl,f4.o⟩
end Go.Proofs.YthopehoklmgphaaGreatDoor.Rnd
namespace Go.Proofs.YthopehoklmgphaaGreatDoor
open Go Go.RowKit
theorem DecBox.belowLt{B:Nat}{w w':qj}{g:Nat}{neg:Bool}{s:ByteArray}{x:Int}(h:DecBox w g neg s x)(hb:qc B w w')(hl:g<B):DecBox w' g neg s x:=⟨(hb.cell (p:=⟨g,0,qa⟩) hl).trans h.c0,(hb.cell (p:=⟨g,1,qa⟩) hl).trans h.c1,(hb.cell (p:=⟨g,2,qa⟩) hl).trans h.c2,k01 h.lt hb.size⟩
end Go.Proofs.YthopehoklmgphaaGreatDoor
namespace Go.Proofs.YthopehoklmgphaaGreatDoor.Rea
open Go Go.RowKit R5
theorem decimal_none(G F:Nat)(neg:Bool)(mode:Nat)(x:Int)(w:qj)(g1:1<=G)(g2:G<=10)(h3:1<=F)(h4:F<=52)(hm:mode<=4)
  (hx1:-4611686018427387904<=x) (hx2:x<=4611686018427387904) (hst:Std w) :
  qp qh 52 #[fm ((G:Int)+1) F,decV neg ⟨#[]⟩ x,.int .u8 (mode:Int)] w (q1B (q0i (G+1) F qf neg mode 0 (t10 (-x))) w):=by
 have q:=vv fun(X:Option qo) n c (Y:Option qo) m d w' (ha:Rd w' X n c (toL 0)) (hb:Rd w' Y m d (toL 1)) (hn:n<=16384) (hs:Std w')=>Rnd.Scaled G F qf neg mode X n c Y m d 0 x w' g1 g2 h3 h4 hm ha hb hn (fun h=>absurd h (by decide)) hx1 hx2 hs
 rw[k1K] at q;obtain⟨O,C⟩:=yx (q0i (G+1) F qf neg mode 0 (t10 (-x)));rw[<- C] at q ⊢;have H:=vv hst;obtain⟨a,b⟩:=yx (w.alloc (.cells #[.int .i64 ((G:Int)+1),.int .i64 (F:Int)] 23));obtain⟨f,i⟩:=yx (a.alloc (.cells #[.bool neg,.string ⟨#[]⟩,.int .i64 x] 85));have l:qc w.heap.size w a:=by rw[b];exact(qb _ w).alloc lr _
 have p:qc a.heap.size a f:=by rw[i];exact(qb _ a).alloc lr _
 have t:a.heap.size=w.heap.size+1:=by rw[b];simp
 have u:FmAt f w.heap.size ((G:Int)+1) F:=(show FmAt a w.heap.size ((G:Int)+1) F by rw[b];exact FmAt.made w _ _ _).below p;have v:DecBox f (w.heap.size+1) neg ⟨#[]⟩ x:=by rw[<- t,i];exact DecBox.made a _ _ _ _
 have D:qc w.heap.size w f:=l.trans (p.mono l.size);have r:=vv u;have s:=vv v;have g:=vv D;have I:qg (f=(w.alloc (.cells #[.int .i64 ((G:Int)+1),.int .i64 (F:Int)] 23)).alloc (.cells #[.bool neg,.string ⟨#[]⟩,.int .i64 x] 85)):=vv (by rw[i,b]);have M:(mode:Int)<=4:=by omega
 clear b i l p t u v D C hst g1 g2 h3 h4 hm;go_enter func52,ntmps52;go_wp2_with fail;rw[<- I.o];refine(Nat_.Of1 _).mono ?_;rintro e E ⟨X,rfl,y,j⟩;have J:=vv y;have r:=vv (r.o.below j);have s:=vv (s.o.below j);have g:=vn g j;obtain⟨N,P,Q,R⟩:=s.o;obtain⟨S,T,U⟩:=r.o;clear y j;go_wp2_with fail;have k:=(qb E.heap.size E).alloc (o:=.cells #[.bool qf,.slice qa 0 0,.slice X 1 1] 151) lr;refine(q.o qa 0 0 X 1 1 _ (by rw[q35];exact Rd.nil _) (J.o.below k rfl) (by omega) (H.o.fs (Fs.of_nil (g.o.trans (k.mono g.o.size))))).mono ?_;have K:=vn g k;clear k;rintro e V ⟨rfl,z⟩;have L:=vn K z;clear z;go_wp2;go_ret3;exact⟨rfl,L.o⟩
theorem decimal_some(G F:Nat)(neg:Bool)(mode:Nat)(s:ByteArray)(x:Int)(w:qj)(g1:1<=G)(g2:G<=10)(h3:1<=F)(h4:F<=52)(hm:mode<=4)
  (hd:q8h s) (h0:0<s.size) (hsz:s.size<=65536) (hf:q1P s 0≠48) (hx1:-4611686018427387904<=x) (hx2:x<=4611686018427387904) (hst:Std w) :
  qp qh 52 #[fm ((G:Int)+1) F,decV neg s x,.int .u8 (mode:Int)] w (q1B (q0i (G+1) F neg neg mode (dvk s s.size*t10 x) (t10 (-x))) w):=by
 have q:=R11.digs_bound hd hsz;have a4:=R11.dvk_pos s hd h0 hf;have a9:=vv fun w=>Nat_.Parse s w hd h0 hsz
 obtain⟨N,hN⟩:=yx (dvk s s.size);rw[<- hN] at a9 q a4 ⊢;have HS:=vv fun(X:Option qo) n c (Y:Option qo) m d w' (ha:Rd w' X n c (toL N)) (hb:Rd w' Y m d (toL 1)) (hs:Std w')=>Rnd.Scaled G F neg neg mode X n c Y m d N x w' g1 g2 h3 h4 hm ha hb (by rw[<- ha.words];exact q) (fun _=>a4) hx1 hx2 hs
 obtain⟨O,hO⟩:=yx (q0i (G+1) F neg neg mode (N*t10 x) (t10 (-x)));rw[<- hO] at HS ⊢;have c6:=vv hst;have c7:=q1R h0;obtain⟨H,V⟩:=yx (w.alloc (.cells #[.int .i64 ((G:Int)+1),.int .i64 (F:Int)] 23));obtain⟨W,Z⟩:=yx (H.alloc (.cells #[.bool neg,.string s,.int .i64 x] 85));have a5:qc w.heap.size w H:=by rw[V];exact(qb _ w).alloc lr _
 have a6:qc H.heap.size H W:=by rw[Z];exact(qb _ H).alloc lr _
 have a0:H.heap.size=w.heap.size+1:=by rw[V];simp
 have b0:FmAt W w.heap.size ((G:Int)+1) F:=(show FmAt H w.heap.size ((G:Int)+1) F by rw[V];exact FmAt.made w _ _ _).below a6;have b1:DecBox W (w.heap.size+1) neg s x:=by rw[<- a0,Z];exact DecBox.made H _ _ _ _
 have hB:qc w.heap.size w W:=a5.trans (a6.mono a5.size);have i:=vv b0;have b:=vv b1;have f:=vv hB;have c8:qg (W=(w.alloc (.cells #[.int .i64 ((G:Int)+1),.int .i64 (F:Int)] 23)).alloc (.cells #[.bool neg,.string s,.int .i64 x] 85)):=vv (by rw[Z,V]);have d1:(mode:Int)<=4:=by omega
 clear V Z a5 a6 a0 b0 b1 hB hO hst g1 g2 h3 h4 hm hd hf hN q a4 h0 hsz;go_enter func52,ntmps52;go_wp2_with fail;rw[<- c8.o];refine(Nat_.Of1 _).mono ?_;rintro e L ⟨Y,rfl,b2,a2⟩;have a7:=vv b2;have i:=vv (i.o.below a2);have b:=vv (b.o.below a2);have f:=vn f a2;obtain⟨x0,x1,xl⟩:=b.o;have P:=(qb L.heap.size L).alloc (o:=.cells #[.bool qf,.slice qa 0 0,.slice Y 1 1] 151) lr;have hz:∀j,(L.alloc (.cells #[.bool qf,.slice qa 0 0,.slice Y 1 1] 151)).frozen? ⟨L.heap.size,j,qa⟩=qf:=fun j=>by simp only[World.frozen?];rw[qn];simp
 have hq:=RatioBox.made L qf qa 0 0 Y 1 1 151;obtain⟨w3,a8⟩:=yx (L.alloc (.cells #[.bool qf,.slice qa 0 0,.slice Y 1 1] 151));rw[<- a8] at P hz hq;have b3:=vv a8;obtain⟨g,hg⟩:=yx (L.heap.size);have M:qg (w.heap.size+1<g):=vv (by omega);have b4:∀a,Y=qd a->a.block≠g:=fun a e=>by have:=a7.o.block_lt (by omega) a e;omega
 have b5:=vv b4;rw[<- hg] at hz hq;have HG:=vv hg;have k:=vv hq;have l:=vv hz;have r:=vv (a7.o.below P rfl);have i:=vv (i.o.below P);have b:=vv (b.o.below P);have f:=vn f P;clear b2 a2 P hz hq a8 a7 hg b4;go_wp2_with fail;rw[<- b3.o,<- HG.o];clear b3 x0 x1 xl c7;refine(a9.o _).mono ?_;rintro e I ⟨X,n,rfl,b6,b7,J⟩;have b8:qg (∀a,X=qd a->a.block≠g):=vv (fun a e=>by have:=(b7 a e).1;have:=k.o.lt;omega);have u:=vv b6;have r:=vv (r.o.below J rfl);have i:=vv (i.o.below J);have b:=vv (b.o.below J);have f:=vn f J;have l:qg (∀j,I.frozen? ⟨g,j,qa⟩=qf):=vv (fun j=>(J.frozen (p:=⟨g,j,qa⟩) k.o.lt).trans (l.o j));have k:=vv (k.o.below J);have C:=(qb I.heap.size I).alloc (o:=.cells #[.slice X n n] 88) lr;have n5:(I.alloc (.cells #[.slice X n n] 88)).cell? ⟨I.heap.size,0,qa⟩=qd (.slice X n n):=by simp only[World.cell?];rw[qn];rfl
 obtain⟨t,a3⟩:=yx (I.alloc (.cells #[.slice X n n] 88));have nl:I.heap.size<t.heap.size:=by rw[a3];simp
 rw[<- a3] at C n5;obtain⟨h,hh⟩:=yx (I.heap.size);have b9:g≠h:=by have:=k.o.lt;omega
 rw[<- hh] at n5 nl;have c1:=vv a3;have HH:=vv hh;have c3:=vv b9;have y:=vv n5;have d2:=vv nl;have u:=vv (u.o.below C rfl);have r:=vv (r.o.below C rfl);have i:=vv (i.o.below C);have b:=vv (b.o.below C);have f:=vn f C;have l:qg (∀j,t.frozen? ⟨g,j,qa⟩=qf):=vv (fun j=>(C.frozen (p:=⟨g,j,qa⟩) k.o.lt).trans (l.o j));have k:=vv (k.o.below C);clear b6 b7 J C a3 hh b9 n5 nl;go_wp2_with fail;rw[<- c1.o,<- HH.o];clear c1;refine q02 (fun w'=>w'.cell? ⟨w.heap.size+1,0,qa⟩=qd (.bool neg)/\w'.cell? ⟨h,0,qa⟩=qd (.slice X n n)) 7
  (.still 0 (.still 1 (.still 2 (.still 3 (.one 4 (.still 5 (.one 6 .done))))))) (by kernel_rfl) (by kernel_rfl) (fun _ _ d _ _ h=>by cases d<;>exact h) ⟨b.o.c0,y.o⟩ (fun hS0=>?_)
 have i:qg (FmAt t.drew w.heap.size ((G:Int)+1) F):=vv (i.o.below (q07 (qb _ _)));have b:qg (DecBox t.drew (w.heap.size+1) neg s x):=vv (b.o.below (q07 (qb _ _)));have f:qg (qc w.heap.size w t.drew):=vv (q07 f.o);have u:qg (Rd t.drew X n n (toL N)):=vv u.o.drew;have r:qg (Rd t.drew Y 1 1 (toL 1)):=vv r.o.drew;have k:qg (RatioBox t.drew g qf qa 0 0 Y 1 1):=vv k.o.drew;have l:qg (∀j,t.drew.frozen? ⟨g,j,qa⟩=qf):=vv l.o;have y:qg (t.drew.cell? ⟨h,0,qa⟩=qd (.slice X n n)):=vv y.o;obtain⟨wc,c4⟩:=yx (t.drew);rw[<- c4] at i b f u r k l y hS0 ⊢;clear c4;obtain⟨Q,R,S,T⟩:=k.o;have fz:=l.o;have xl:=b.o.lt
 iterate 4
  refine q01 (v:=?_) rfl (by rfl) ?_ ?_;rotate_left
  ·intro w c9;go_simp;with_reducible rfl
  simp only[Act.put,sa,sb,sc]
 refine q04 rfl (by rfl) (fun K hK=>?_);go_simp;obtain⟨D,q⟩:=yx (wc.setCell ⟨g,0,qa⟩ (.bool neg));have z:qc g wc D:=by rw[q];exact(qb g wc).setCell (p:=⟨g,0,qa⟩) lr _
 have i:=vv (i.o.belowLt z (by have:=M.o;omega));have b:=vv (b.o.belowLt z (by have:=M.o;omega));have f:=vv (f.o.trans (z.mono (by have:=M.o;omega)));have u:qg (Rd D X n n (toL N)):=vv (by rw[q];exact u.o.other _ _ _ b8.o);have r:qg (Rd D Y 1 1 (toL 1)):=vv (by rw[q];exact r.o.other _ _ _ b5.o);have y:qg (D.cell? ⟨h,0,qa⟩=qd (.slice X n n)):=vv (by rw[q];exact(q0j (fun e=>by injection e with e1;exact c3.o e1)).trans y.o);have l:qg (∀j,D.frozen? ⟨g,j,qa⟩=qf):=vv (fun j=>by rw[q];exact(qi _ _ _ _).trans (l.o j));have k:qg (RatioBox D g neg qa 0 0 Y 1 1):=vv (by
  rw[q];refine⟨?_,?_,?_,by simpa [World.setCell] using T⟩
  ·exact q0t Q
  ·exact(q0j (fun e=>by injection e with _ e;omega)).trans R
  ·exact(q0j (fun e=>by injection e with _ e;omega)).trans S)
 rw[<- q];clear z q Q R S T fz xl;obtain⟨Q,R,S,T⟩:=k.o;have fz:=l.o;refine hK.out _ _ ⟨b.o.c0,y.o⟩ (fun a1=>?_);clear hK
 iterate 1
  refine q01 (v:=?_) rfl (by rfl) ?_ ?_;rotate_left
  ·intro w c9;go_simp;with_reducible rfl
  simp only[Act.put,sa,sb,sc]
 refine q04 rfl (by rfl) (fun K hK=>?_);go_simp;obtain⟨U,E⟩:=yx (D.setCell ⟨g,1,qa⟩ (.slice X n n));have z:qc g D U:=by rw[E];exact(qb g D).setCell (p:=⟨g,1,qa⟩) lr _
 have i:=vv (i.o.belowLt z (by have:=M.o;omega));have b:=vv (b.o.belowLt z (by have:=M.o;omega));have f:=vv (f.o.trans (z.mono (by have:=M.o;omega)));have u:qg (Rd U X n n (toL N)):=vv (by rw[E];exact u.o.other _ _ _ b8.o);have r:qg (Rd U Y 1 1 (toL 1)):=vv (by rw[E];exact r.o.other _ _ _ b5.o);have y:qg (U.cell? ⟨h,0,qa⟩=qd (.slice X n n)):=vv (by rw[E];exact(q0j (fun e=>by injection e with e1;exact c3.o e1)).trans y.o);have l:qg (∀j,U.frozen? ⟨g,j,qa⟩=qf):=vv (fun j=>by rw[E];exact(qi _ _ _ _).trans (l.o j));have k:qg (RatioBox U g neg X n n Y 1 1):=vv (by
  rw[E];refine⟨?_,?_,?_,by simpa [World.setCell] using T⟩
  ·exact(q0j (fun e=>by injection e with _ e;omega)).trans Q
  ·exact q0t R
  ·exact(q0j (fun e=>by injection e with _ e;omega)).trans S)
 rw[<- E];clear z E Q R S T fz;obtain⟨Q,R,S,T⟩:=k.o;have fz:=l.o;refine hK.out _ _ ⟨b.o.c0,y.o⟩ (fun a1=>?_);clear hK;refine q0Z rfl ?_;obtain⟨f0,f1,fl⟩:=i.o;have x0:=b.o.c0;have x2:=b.o.c2;have xl:=b.o.lt;clear fz;go_wp2_with fail;refine(HS.o X n n Y 1 1 _ u.o r.o (c6.o.fs (Fs.of_nil f.o))).mono ?_;rintro e w8 ⟨rfl,c5⟩;have d0:=vn f c5;clear c5;go_wp2;go_ret3;exact⟨rfl,d0.o⟩
end Go.Proofs.YthopehoklmgphaaGreatDoor.Rea
namespace Go.Proofs.YthopehoklmgphaaGreatDoor.Rea
open Go Go.RowKit R5 R16
theorem q2Y(E F:Int)(kind:Nat)(neg dneg:Bool)(s:ByteArray)(x:Int)(hneg:Bool)(A:Option qo)(n c:Nat)(xs:List Nat)(hx:Int)(p mode:Nat)(w:qj)(hform:R3.formOk E F=qf):qp qh 41 #[fm E F,numV kind neg dneg s x hneg A n c hx p,.int .u8 (mode:Int)] w (q2F (0,0,5) w):=by
 have l:=vv fun w=>Fms.Check E F w
 rw[R3.chk_no hform] at l;obtain⟨a,b⟩:=yx (w.alloc (.cells #[.int .i64 (E:Int),.int .i64 (F:Int)] 23));obtain⟨f,g⟩:=yx (a.alloc (.cells #[.int .u8 ((kind:Int)),.bool neg,.bool dneg,.string s,.int .i64 x,.bool hneg,.slice A n c,.int .i64 hx,.int .u64 (p:Int)] 92));have i:qc w.heap.size w a:=by rw[b];exact(qb _ w).alloc lr _
 have j:qc a.heap.size a f:=by rw[g];exact(qb _ a).alloc lr _
 have m:a.heap.size=w.heap.size+1:=by rw[b];simp
 have d:FmAt f w.heap.size (E) (F):=(show FmAt a w.heap.size (E) (F) by rw[b];exact FmAt.made w _ _ _).below j;have q:NumBox f (w.heap.size+1) kind neg dneg s x hneg A n c hx p:=by rw[<- m,g];exact NumBox.made a _ _ _ _ _ _ _ _ _ _ _ _
 have r:qc w.heap.size w f:=i.trans (j.mono i.size);have t:=vv d;have u:=vv q;have k:=vv r;have v:qg (f=(w.alloc (.cells #[.int .i64 (E:Int),.int .i64 (F:Int)] 23)).alloc (.cells #[.int .u8 ((kind:Int)),.bool neg,.bool dneg,.string s,.int .i64 x,.bool hneg,.slice A n c,.int .i64 hx,.int .u64 (p:Int)] 92)):=vv (by rw[g,b]);have y:=d.c0;have z:=d.c1;have C:=d.lt;clear b g i j m d q r hform;go_enter func41,ntmps41;go_wp2_with fail;rw[<- v.o];refine(l.o _).mono ?_;rintro e D ⟨rfl,h⟩;have t:=vv (t.o.below h);have u:=vv (u.o.below h);have k:=vn k h;clear h y z C;go_wp2;go_ret3;exact⟨rfl,k.o⟩
theorem q4u(G0 G1 kind:Nat)(neg dneg:Bool)(s:ByteArray)(x:Int)(hneg:Bool)(A:Option qo)(n c:Nat)(xs:List Nat)(hx:Int)(p mode:Nat)(w:qj)(g1:1<=G0)(g2:G0<=10)(g3:G1<=51)(hr:Rd w A n c xs)(hmax:(s.size:Int)<=4611686018427387904)(hst:Std w):qp qh 41 #[fm ((G0:Int)+1) ((G1:Int)+1),numV kind neg dneg s x hneg A n c hx p,.int .u8 (mode:Int)] w (q2F (q1E ((G0:Int)+1) ((G1:Int)+1) kind neg dneg s x hneg n xs hx p mode) w):=by
 have e0:((G0+1:Nat):Int)=(G0:Int)+1:=by omega
 have e1:((G1+1:Nat):Int)=(G1:Int)+1:=by omega
 have S:R3.formOk ((G0:Int)+1) ((G1:Int)+1)=qm:=by unfold R3.formOk;rw[k03 (p:=(2:Int)<=(G0:Int)+1) (by omega),k03 (p:=(G0:Int)+1<=11) (by omega),k03 (p:=(1:Int)<=(G1:Int)+1) (by omega),k03 (p:=(G1:Int)+1<=52) (by omega)];rfl
 have T:=fun w=>Fms.Check ((G0:Int)+1) ((G1:Int)+1) w
 rw[R3.chk_ok S] at T;have a4:=vv T;have C:=vv fun d (h:qc w.heap.size w d)=>Lex.Check kind neg dneg s x hneg A n c xs hx p d (hr.below h rfl) hmax
 obtain⟨O,u⟩:=yx (q1E ((G0:Int)+1) ((G1:Int)+1) kind neg dneg s x hneg n xs hx p mode);rw[<- u];unfold q1E at u;rw[S,if_neg (by decide),show((G0:Int)+1).toNat=G0+1 by omega,show((G1:Int)+1).toNat=G1+1 by omega,k1a] at u;obtain⟨b,U⟩:=yx (q1C kind neg dneg s x hneg n xs hx p);rw[<- U] at C u;have g:=vv u;have V:=vv U;have H:=vv hr;have a1:=vv hst;obtain⟨q,E⟩:=yx (w.alloc (.cells #[.int .i64 ((G0:Int)+1),.int .i64 ((G1:Int)+1)] 23));obtain⟨Z,J⟩:=yx (q.alloc (.cells #[.int .u8 (kind:Int),.bool neg,.bool dneg,.string s,.int .i64 x,.bool hneg,.slice A n c,.int .i64 hx,.int .u64 (p:Int)] 92));have W:qc w.heap.size w q:=by rw[E];exact(qb _ w).alloc lr _
 have X:qc q.heap.size q Z:=by rw[J];exact(qb _ q).alloc lr _
 have a0:q.heap.size=w.heap.size+1:=by rw[E];simp
 have y:=vv ((show FmAt q w.heap.size ((G0:Int)+1) ((G1:Int)+1) by rw[E];exact FmAt.made w _ _ _).below X);have z:qg (NumBox Z (w.heap.size+1) kind neg dneg s x hneg A n c hx p):=vv (by rw[<- a0,J];exact NumBox.made q _ _ _ _ _ _ _ _ _ _ _ _);have a:=vv (W.trans (X.mono W.size));have a5:qg (Z=(w.alloc (.cells #[.int .i64 ((G0:Int)+1),.int .i64 ((G1:Int)+1)] 23)).alloc (.cells #[.int .u8 (kind:Int),.bool neg,.bool dneg,.string s,.int .i64 x,.bool hneg,.slice A n c,.int .i64 hx,.int .u64 (p:Int)] 92)):=vv (by rw[J,E]);have r:=vv (And.intro g1 (And.intro g2 g3));have m:=vv (And.intro e0 e1);obtain⟨f0,f1,fl⟩:=y.o;clear E J W X a0 S u U hr hst g1 g2 g3 e0 e1 T;go_enter func41,ntmps41;go_wp2_with fail;rw[<- a5.o];refine(a4.o _).mono ?_;rintro e w2 ⟨rfl,K⟩;have y:=vv (y.o.below K);have z:=vv (z.o.below K);have a:=vn a K;clear K f0 f1 fl;obtain⟨c0,c1,c2,c3,c4,c5,c6,c7,c8,cl⟩:=z.o;cases b
 ·have g:qg _:=vv (g.o.trans (if_pos rfl));rw[q3s] at C;go_wp2_with fail;refine(C.o _ a.o).mono ?_;rintro e w3 ⟨rfl,t⟩;have a:=vn a t;clear t c0 c1 c2 c3 c4 c5 c6 c7 c8 cl;go_wp2;go_ret3;rw[g.o];exact⟨rfl,a.o⟩
 rw[q45] at C;have g:qg _:=vv (g.o.trans (if_neg (by decide)));go_wp2_with fail;refine(C.o _ a.o).mono ?_;rintro e w3 ⟨rfl,t⟩;have y:=vv (y.o.below t);have z:=vv (z.o.below t);have a:=vn a t;clear t c0 c1 c2 c3 c4 c5 c6 c7 c8 cl;by_cases hm:4<mode
 ·have dm:qe ((4:Int)<(mode:Int))=qm:=k03 (by omega);have g:qg _:=vv (g.o.trans (if_pos hm));clear hm;go_wp2;go_ret3;rw[g.o];exact⟨rfl,a.o⟩
 have dm:qe ((4:Int)<(mode:Int))=qf:=k00 (by omega);have g:qg _:=vv (g.o.trans (if_neg hm));have HM:=vv (show mode<=4 by omega);clear hm;obtain⟨f0,f1,fl⟩:=y.o;obtain⟨c0,c1,c2,c3,c4,c5,c6,c7,c8,cl⟩:=z.o;rcases R16.numOk_kind V.o.symm with rfl|rfl|rfl|rfl
 ·have f:qg _:=vv (g.o.trans (if_pos rfl));obtain⟨b1,b2,b3,b4⟩:=R16.decMay_facts (R16.numOk_dec V.o.symm);have F:∀d,qc w.heap.size w d->qp qh 52 #[fm ((G0:Int)+1) ((G1:Int)+1),decV dneg s x,.int .u8 (mode:Int)] d (q1B (q2s (G0+1) (G1+1) dneg s x mode) d):=by
   intro d h;obtain⟨g1,g2,g3⟩:=r.o;rcases b4 with Q|⟨Q,hd,hb⟩
   ·have a6:=R16.bytes_none Q;have eq:q2s (G0+1) (G1+1) dneg s x mode=q0i (G0+1) (G1+1) qf dneg mode 0 (t10 (-x)):=by unfold q2s;rw[Q,q3J,k1K,q3U]
    have k:=decimal_none G0 (G1+1) dneg mode x d (by omega) (by omega) (by omega) (by omega) HM.o (by omega) (by omega) (a1.o.fs (Fs.of_nil h));rw[eq,a6]
    simpa only[m.o.1,m.o.2] using k
   ·have k:=decimal_some G0 (G1+1) dneg mode s x d (by omega) (by omega) (by omega) (by omega) HM.o hd Q b3 hb (by omega) (by omega) (a1.o.fs (Fs.of_nil h));unfold q2s
    simpa only[m.o.1,m.o.2] using k
  have G:=vv F;obtain⟨D,l⟩:=yx (q2s (G0+1) (G1+1) dneg s x mode);rw[<- l] at G f;clear F l b1 b2 b3 b4;go_wp2_with fail;refine(G.o _ a.o).mono ?_;rintro e w4 ⟨rfl,j⟩;have a:=vn a j;clear j;go_wp2;go_ret3;rw[f.o];exact⟨rfl,a.o⟩
 ·have f:qg _:=vv (g.o.trans ((if_neg (by decide)).trans (if_pos rfl)));have R:=R16.numOk_hex V.o.symm;obtain⟨hk,b1,b2⟩:=R16.twoOk_facts R;obtain⟨a2,a3⟩:=R16.natOk_facts hk;have Y:xs=toL (val xs):=by have h5:=q1m H.o.lim (n:=n) (fun i hi=>by rw[k08,k1h (by rw[H.o.len];exact hi)];rfl) (a3.imp id (fun h=>⟨by rw[H.o.len];exact lr,h⟩));rw[<- h5,<- H.o.len,k1m]
  have F:∀d,qc w.heap.size w d->qp qh 53 #[fm ((G0:Int)+1) ((G1:Int)+1),q5s hneg A n c hx,.bool neg,.int .u8 (mode:Int)] d (q1B (q0i (G0+1) (G1+1) hneg neg mode (val xs*p2 hx) (p2 (-hx))) d):=by
   intro d h;obtain⟨g1,g2,g3⟩:=r.o;have a7:Rd d A n c (toL (val xs)):=by rw[<- Y];exact H.o.below h rfl
   rw[Y] at R;have k:=Rnd.Dyadic G0 (G1+1) hneg neg mode A n c (val xs) hx d (by omega) (by omega) (by omega) (by omega) HM.o a7 a2 R (by omega) (by omega)
   simpa only[m.o.1,m.o.2] using k
  have G:=vv F;obtain⟨D,l⟩:=yx (q0i (G0+1) (G1+1) hneg neg mode (val xs*p2 hx) (p2 (-hx)));rw[<- l] at G f;clear F l b1 b2 R hk a2 a3 Y;go_wp2_with fail;refine(G.o _ a.o).mono ?_;rintro e w4 ⟨rfl,j⟩;have a:=vn a j;clear j;go_wp2;go_ret3;rw[f.o];exact⟨rfl,a.o⟩
 ·have f:qg _:=vv (g.o.trans ((if_neg (by decide)).trans ((if_neg (by decide)).trans (if_pos rfl))));have L:=fun w=>Fms.Inf (G0+1) (G1+1) neg w (by have:=r.o;omega) (by have:=r.o;omega) (by omega) (by have:=r.o;omega)
  obtain⟨D,l⟩:=yx (sgb (G0+1) (G1+1) neg+(2^(G0+1)-1)*2^(G1+1));rw[<- l] at L f;simp only[m.o.1,m.o.2] at L;have a8:=vv L;clear L l;go_wp2_with fail;refine(a8.o _).mono ?_;rintro e w4 ⟨rfl,j⟩;have a:=vn a j;clear j;go_wp2;go_ret3;rw[f.o];exact⟨rfl,a.o⟩
 ·have f:qg _:=vv (g.o.trans ((if_neg (by decide)).trans ((if_neg (by decide)).trans (if_neg (by decide)))));have hG:(G1:Int)<=51:=by have:=r.o;omega
  have M:(p:Int)/2^G1=((p/R3.tw G1:Nat):Int):=by unfold R3.tw;rw[k1k,k0v];rfl
  obtain⟨v,I⟩:=yx (p/R3.tw G1);rw[<- I] at M;by_cases hp:R3.tw G1<=p
  ·have N:0<v:=by rw[I];exact k2l hp (R3.tw_pos G1)
   have dq:((v:Int)==0)=qf:=by rw[k02];omega
   have f:qg _:=vv (f.o.trans (if_pos hp));clear I N hp;go_wp2;go_ret3;rw[f.o];exact⟨rfl,a.o⟩
  ·have N:v=0:=by rw[I];exact k1c (k2d hp)
   rw[N] at M;have b0:(p:Int)/2^G1=0:=M;have f:qg _:=vv (f.o.trans (if_neg hp));have P:=fun w=>Fms.NaN (G0+1) G1 p neg w (by have:=r.o;omega) (by have:=r.o;omega) (by omega) (k2d hp)
   obtain⟨D,l⟩:=yx (sgb (G0+1) (G1+1) neg+((2^(G0+1)-1)*2^(G1+1)+(2^G1+p)));rw[<- l] at P f;simp only[m.o.1] at P;have a9:=vv P;clear M P l I N hp;go_wp2_with fail;refine(a9.o _).mono ?_;rintro e w4 ⟨rfl,j⟩;have a:=vn a j;clear j;go_wp2;go_ret3;rw[f.o];exact⟨rfl,a.o⟩
theorem Number(E F:Int)(kind:Nat)(neg dneg:Bool)(s:ByteArray)(x:Int)(hneg:Bool)(A:Option qo)(n c:Nat)(xs:List Nat)(hx:Int)(p mode:Nat)(w:qj)(hr:Rd w A n c xs)(hmax:(s.size:Int)<=4611686018427387904)(hst:Std w):qp qh 41 #[fm E F,numV kind neg dneg s x hneg A n c hx p,.int .u8 (mode:Int)] w (q2F (q1E E F kind neg dneg s x hneg n xs hx p mode) w):=by
 rcases(k2I (R3.formOk E F)).symm with a|a
 ·have e:q1E E F kind neg dneg s x hneg n xs hx p mode=(0,0,5):=by unfold q1E;rw[if_pos a]
  rw[e];exact q2Y E F kind neg dneg s x hneg A n c xs hx p mode w a
 obtain⟨e,f,rfl,rfl,h,i,j,l⟩:=R3.formOk_nat a;obtain⟨g,rfl⟩:∃g,e=g+1:=⟨e-1,by omega⟩;obtain⟨k,rfl⟩:∃k,f=k+1:=⟨f-1,by omega⟩;have b:((g+1:Nat):Int)=(g:Int)+1:=by omega
 have d:((k+1:Nat):Int)=(k:Int)+1:=by omega
 rw[b,d];exact q4u g k kind neg dneg s x hneg A n c xs hx p mode w (by omega) (by omega) (by omega) hr hmax hst
end Go.Proofs.YthopehoklmgphaaGreatDoor.Rea
