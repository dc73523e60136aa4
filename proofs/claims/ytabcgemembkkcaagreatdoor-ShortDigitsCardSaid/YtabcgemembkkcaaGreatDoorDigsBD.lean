/- Lemmas. -/
import Derived.Test.YtabcgemembkkcaaGreatDoorDigsBC
set_option linter.all false
set_option maxHeartbeats 8000000
set_option maxRecDepth 100000
open Go.Proofs.Tryz
open Option renaming none->qa,some->qe
open Go renaming RowKit.Below.refl->qb,IntWalk.i64_in->qh,IntKind.wrap_u64->qi,World->qk,Addr->qm,Calls->qn,heap_alloc_new->qo
open Decidable renaming decide->qc
open Go.RowKit renaming Below->qd,Hid->qg
open Bool renaming false->qf,true->ql
open Go.Proofs.Tryz renaming prog->qj
namespace Go.Proofs.YtabcgemembkkcaaGreatDoor.Rnd
open Go Go.RowKit R5
theorem q6J(a b:Nat):(bl a:Int)-bl b-1<=q1K a b/\q1K a b<=(bl a:Int)-bl b:=by unfold q1K;split<;>omega
theorem bl_p2(a:Nat)(s:Int):bl (a*p2 s)<=bl a+s.toNat+1:=by have b:=q1S a (p2 s);have c:bl (p2 s)<=s.toNat+1:=q0A (by unfold p2;exact Nat.pow_lt_pow_right (by omega) (by omega));omega
theorem q90{a:Nat}{s:Int}(h:Sm a)(hs:s<=100000000000):Sz (a*p2 s):=by have:=bl_p2 a s;unfold Sm at h;unfold Sz;omega
theorem qbV(gn on gd od a b G F:Nat)(neg:Bool)(mode:Nat)(w:qk)(hn:IntAt w gn on (a:Int))(hd:IntAt w gd od (b:Int))(ha:0<a)(hb0:0<b)(sa:Sm a)(sb:Sm b)(g1:1<=G)(g2:G<=10)(h3:1<=F)(h4:F<=52)(hm:mode<=4):qn qj 183 #[q6I gn on gd od,fm ((G:Int)+1) F,.bool neg,.int .u8 (mode:Int)] w (qd7 0 (out (G+1) F neg mode a b) w):=by
 have a8:Sz a:=by unfold Sm at sa;unfold Sz;omega
 have a9:Sz b:=by unfold Sm at sb;unfold Sz;omega
 obtain⟨B,M⟩:∃B:Int,B=q1p (G+1):=⟨_,rfl⟩;obtain⟨e,y⟩:∃e:Int,e=q1K a b:=⟨_,rfl⟩;have e9:=vv fun f (h:IntAt f gn on (a:Int)) (h':IntAt f gd od (b:Int))=>log gn on gd od a b f h h' a8 a9
 rw[<- y] at e9;have hr:=q6J a b;rw[<- y] at hr;have g9:bl a<=4294967296:=sa;have i0:bl b<=4294967296:=sb;have e1:e<=4294967296:=by omega
 have e2:-4294967297<=e:=by omega
 have i5:=q4w (E:=G+1) (by omega);have i6:=q5J (E:=G+1) (by omega);rw[<- M] at i5 i6;have r:(2:Int)^G=B+1:=by rw[M];unfold q1p;rw[k0T];omega
 have m8:IntKind.i64.wrap ((2:Int)^G)=B+1:=by rw[r];exact qh _ (by omega)
 have o0:=(qb w.heap.size w).alloc (o:=.cells #[.pointer (qe ⟨gn,on,qa⟩),.pointer (qe ⟨gd,od,qa⟩)] 140) lr;have N:=NbBox.made w gn on gd od 140;obtain⟨w0,c4⟩:=yx (w.alloc (.cells #[.pointer (qe ⟨gn,on,qa⟩),.pointer (qe ⟨gd,od,qa⟩)] 140));rw[<- c4] at o0 N;have s0:w0.heap.size=w.heap.size+1:=by rw[c4];simp
 have q:=(qb w0.heap.size w0).alloc (o:=.cells #[.int .i64 ((G:Int)+1),.int .i64 (F:Int)] 23) lr;have f1:=FmAt.made w0 ((G:Int)+1) (F:Int) 23;obtain⟨w1,d0⟩:=yx (w0.alloc (.cells #[.int .i64 ((G:Int)+1),.int .i64 (F:Int)] 23));rw[<- d0] at q f1;rw[s0] at f1;have b1:qd w.heap.size w w1:=o0.trans (q.mono (by omega));have z:=vv (N.below q);have c:=vv f1;have d:=vv b1;have u:=vv (hn.below b1);have v:=vv (hd.below b1);have i7:qg (w1=(w.alloc (.cells #[.pointer (qe ⟨gn,on,qa⟩),.pointer (qe ⟨gd,od,qa⟩)] 140)).alloc (.cells #[.int .i64 ((G:Int)+1),.int .i64 (F:Int)] 23)):=vv (by rw[d0,c4]);obtain⟨low,b0⟩:∃l:Int,max e (1-B)=l:=⟨_,rfl⟩;have l1:low<=4294967296:=by omega
 have l2:-1023<=low:=by omega
 have b7:qg (q58 (G+1) a b=low):=vv (by unfold q58;rw[<- y,<- M];exact b0);obtain⟨s,hs⟩:∃s:Int,(F:Int)-low=s:=⟨_,rfl⟩;have k1:s<=1100:=by omega
 have k2:-4294967296<=s:=by omega
 have HT:=vv fun f (h:IntAt f gn on (a:Int)) (h':IntAt f gd od (b:Int))=>times gn on gd od a b s f h h' a8 a9 (by omega) (by omega)
 obtain⟨X,hX⟩:=yx (a*p2 s);obtain⟨Y,Z⟩:=yx (b*p2 (-s));have f2:0<Y:=by rw[Z];exact k0N hb0 (q1d _)
 have sX:Sz X:=by rw[hX];exact q90 sa (by omega)
 have sY:Sz Y:=by rw[Z];exact q90 sb (by omega)
 simp only[<- hX,<- Z] at HT;have f3:=vv fun f g1 q g2 O (h:IntAt f g1 q (X:Int)) (h':IntAt f g2 O (Y:Int))=>q3G g1 q g2 O X Y neg mode f h h' f2 sX sY hm
 have c5:qg (qaT (G+1) F neg mode a b=rnd neg mode X Y):=vv (by
  have el:q58 (G+1) a b=low:=by unfold q58;rw[<- y,<- M];exact b0
  unfold qaT;rw[el,hs,hX,Z,show low-(F:Int) = -s by omega])
 have i8:qg (q7D (G+1) F a b=X%Y):=vv (by
  have el:q58 (G+1) a b=low:=by unfold q58;rw[<- y,<- M];exact b0
  unfold q7D;rw[el,hs,hX,Z,show low-(F:Int) = -s by omega])
 obtain⟨m,d1⟩:=yx (rnd neg mode X Y);obtain⟨same,d3⟩:=yx (qc (X%Y=0));simp only[<- d1,<- d3] at f3;rw[<- d1] at c5;have f4:=vv d3;obtain⟨s2,d4⟩:∃s:Int,(F:Int)-e=s:=⟨_,rfl⟩;have k3:s2<=4294967400:=by omega
 have k4:-4294967296<=s2:=by omega
 have f5:=vv fun f (h:IntAt f gn on (a:Int)) (h':IntAt f gd od (b:Int))=>times gn on gd od a b s2 f h h' a8 a9 (by omega) (by omega)
 obtain⟨X2,c6⟩:=yx (a*p2 s2);obtain⟨Y2,b3⟩:=yx (b*p2 (-s2));have b8:0<Y2:=by rw[b3];exact k0N hb0 (q1d _)
 have f6:Sz X2:=by rw[c6];exact q90 sa (by omega)
 have f7:Sz Y2:=by rw[b3];exact q90 sb (by omega)
 simp only[<- c6,<- b3] at f5;have b9:=vv fun f g1 q g2 O (h:IntAt f g1 q (X2:Int)) (h':IntAt f g2 O (Y2:Int))=>q3G g1 q g2 O X2 Y2 neg mode f h h' b8 f6 f7 hm
 have f8:qg (qb8 F neg mode a b=rnd neg mode X2 Y2):=vv (by unfold qb8;rw[<- y,d4,c6,b3,show e-(F:Int) = -s2 by omega]);obtain⟨fk,d5⟩:=yx (rnd neg mode X2 Y2);simp only[<- d5] at b9;rw[<- d5] at f8;have i9:=vv d4;have m9:(G:Int)<=10:=by omega
 have n0:(F:Int)<=52:=by omega
 have f9:=vv y;have c7:=vv M;have j0:=vv r;clear o0 N c4 s0 q f1 d0 b1 hn hd y M r d4 c6 b3 b8 f6 f7 d5 hX Z f2 sX sY d1 d3 g9 i0 hr a8 a9 sa sb;go_enter func183,ntmps183;go_wp2_with fail;rw[<- i7.o];refine(e9.o _ u.o v.o).mono ?_;rintro e' w2 ⟨rfl,r⟩;have z:=vv (z.o.below r);have c:=vv (c.o.below r);have u:=vv (u.o.below r);have v:=vv (v.o.below r);have d:=vn d r;obtain⟨N,x1,xl⟩:=z.o;obtain⟨f0,f1,fl⟩:=c.o;clear r;go_wp2_with fail;refine(HT.o _ u.o v.o).mono ?_;rintro e' w3 ⟨g1,q,g2,O,rfl,i1,i2,T⟩;have j1:=vv i1;have j2:=vv i2;have z:=vv (z.o.below T);have c:=vv (c.o.below T);have u:=vv (u.o.below T);have v:=vv (v.o.below T);have d:=vn d T;clear T i1 i2 N x1 xl f0 f1 fl;go_wp2_with fail;refine(f3.o _ g1 q g2 O j1.o j2.o).mono ?_;rintro e' w4 ⟨gm,rfl,j3,im,U⟩;have i:=vv im;have z:=vv (z.o.below U);have c:=vv (c.o.below U);have u:=vv (u.o.below U);have v:=vv (v.o.below U);have d:=vn d U;clear U im j3;obtain⟨fl,g0⟩:=yx (q6h (G+1) F neg mode a b);have g5:=vv g0;clear g0;go_upto_if 51 with fail;go_cut [13,14,17,18,19] from 52 (fun s13 s14 s17 s18 s19 wx=>s17=.int .u8 (fl:Int)/\IntAt wx gm 0 (m:Int)/\FmAt wx (w.heap.size+1) ((G:Int)+1) F/\qd w.heap.size w wx)
 case first =>
  have D:qg (fl=if X%Y=0 then 0 else if q3I (G+1) F neg mode a b then 5 else 1):=vv (by rw[g5.o];unfold q6h;rw[i8.o]);cases same
  ·have b4:X%Y≠0:=k2W f4.o.symm;have D:qg (fl=if q3I (G+1) F neg mode a b then 5 else 1):=vv (by rw[D.o,k0r b4]);clear b4;by_cases hlt:e<1-B
   ·have j4:qc (e<1-B)=ql:=k04 hlt;obtain⟨N,x1,xl⟩:=z.o;have f1:=c.o.c1;have j5:=c.o.lt;have q1:=i9.o;have j6:=vv hlt;clear hlt;go_wp2_with fail;refine(f5.o _ u.o v.o).mono ?_;rintro e' w5 ⟨g3,o3,g4,o4,rfl,i3,i4,c8⟩;have j7:=vv i3;have j8:=vv i4;have i:=vv (i.o.below c8);have c:=vv (c.o.below c8);have d:=vn d c8;clear c8 i3 i4 N x1 xl f1 j5;go_wp2_with fail;refine(b9.o _ g3 o3 g4 o4 j7.o j8.o).mono ?_;rintro e' w6 ⟨gk,rfl,j9,ik,c9⟩;have e0:=vv ik;have i:=vv (i.o.below c9);have c:=vv (c.o.below c9);have d:=vn d c9;clear c9 ik j9;go_wp2_with fail;have R:q3I (G+1) F neg mode a b=(qc (e < -B) || decide (bl fk<=F+1)):=by unfold q3I;rw[<- f9.o,<- c7.o,k04 j6.o,f8.o];rfl
    have n1:bits BinOp.or IntKind.u8 1 4=5:=by decide
    by_cases hl2:e < -B
    ·have b5:qg (fl=5):=vv (by rw[D.o,R,k04 hl2];rfl);have d2:qc (e < -B)=ql:=k04 hl2;have k0:IntKind.i64.wrap (-B) = -B:=qh _ (by omega);clear hl2 R;go_quiet (fail);go_wp2;go_meet
     case rel=>exact⟨by rw[b5.o];rfl,i.o.like rfl,⟨c.o.c0,c.o.c1,c.o.lt⟩,q0n d.o _⟩
    ·have d2:qc (e < -B)=qf:=k02 hl2;have HU:qg (q3I (G+1) F neg mode a b=qc (bl fk<=F+1)):=vv (by rw[R,k02 hl2];rfl);have k0:IntKind.i64.wrap (-B) = -B:=qh _ (by omega);clear hl2 R;refine q02 (fun f=>f.cell? ⟨w.heap.size+1,1,qa⟩=qe (.int .i64 (F:Int))) 12
      (.still 0 (.still 1 (.still 2 (.still 3 (.still 4 (.still 5 (.still 7 (.still 8 (.still 9 (.one 6 (.still 10 (.still 11 .done)))))))))))) c.o.c1 (fun H=>?_)
     obtain⟨wc,V⟩:=yx (w6.drew);have e0:qg (IntAt wc gk 0 (fk:Int)):=vv (by rw[V];exact e0.o.drew);have i:qg (IntAt wc gm 0 (m:Int)):=vv (by rw[V];exact i.o.drew);have c:qg (FmAt wc (w.heap.size+1) ((G:Int)+1) F):=vv (by rw[V];exact⟨c.o.c0,c.o.c1,c.o.lt⟩);have d:qg (qd w.heap.size w wc):=vv (by rw[V];exact q05 d.o);rw[<- V] at H ⊢;clear V;have e3:=vv (A.BitLen gk 0 (fk:Int) wc e0.o);rw[k08] at e3;obtain⟨lk,g6⟩:=yx (bl fk);rw[<- g6] at e3 HU;have k5:qg (IntKind.i64.wrap ((F:Int)+1)=(F:Int)+1):=vv (qh _ (by omega));clear g6
     iterate 9
      refine q03 ?_
     refine q01 rfl (by rfl) (fun K hK=>?_);go_simp;refine e3.o.mono ?_;rintro e' f ⟨rfl,rfl⟩;go_wp2_with fail;refine hK.out _ _ c.o.c1 (fun a0=>?_);clear hK
     try rw[k5.o]
     by_cases hb6:lk<=F+1
     ·have b5:qg (fl=5):=vv (by rw[D.o,HU.o,k04 hb6];rfl);have d6:qc ((lk:Int)<=(F:Int)+1)=ql:=k04 (by omega);have d7:qc (lk<=F+1)=ql:=k04 hb6;clear hb6
      iterate 2
       refine q03 ?_
      refine q0T rfl ?_;clear a0 H;go_wp2;go_meet
      case rel=>exact⟨by rw[b5.o];rfl,i.o,c.o,d.o⟩
     ·have b5:qg (fl=1):=vv (by rw[D.o,HU.o,k02 hb6];rfl);have d6:qc ((lk:Int)<=(F:Int)+1)=qf:=k02 (by omega);have d7:qc (lk<=F+1)=qf:=k02 hb6;clear hb6
      iterate 2
       refine q03 ?_
      refine q0T rfl ?_;clear a0 H;go_wp2;go_meet
      case rel=>exact⟨by rw[b5.o];rfl,i.o,c.o,d.o⟩
   ·have R:q3I (G+1) F neg mode a b=qf:=by unfold q3I;rw[<- f9.o,<- c7.o,k02 hlt];rfl
    have e4:qg (fl=1):=vv (by rw[D.o,R];rfl);have j4:qc (e<1-B)=qf:=k02 hlt;clear hlt R;go_wp2;go_meet
    case rel=>exact⟨by rw[e4.o];rfl,i.o,c.o,d.o⟩
  ·have b4:X%Y=0:=k1h f4.o.symm;have e4:qg (fl=0):=vv (by rw[D.o,k0p b4]);clear b4;go_wp2;go_meet
   case rel=>exact⟨by rw[e4.o];rfl,i.o,c.o,d.o⟩
 case rest =>
  obtain⟨rfl,im,hf,hb⟩:=hcut;have i:=vv im;have c:=vv hf;have d:=vv hb;clear im hf hb;go_wp2_with fail;obtain⟨LB,n2⟩:∃l:Int,low+B=l:=⟨_,rfl⟩;obtain⟨p,n3⟩:∃t:Nat,LB-1=(t:Int):=⟨(LB-1).toNat,by omega⟩;have e7:qg (IntKind.i64.wrap LB=LB):=vv (qh _ (by omega));have k6:qg (IntKind.i64.wrap (p:Int)=(p:Int)):=vv (qh _ (by omega));have k7:qg (IntKind.u64.wrap (p:Int)=(p:Int)):=vv (by rw[qi];omega);obtain⟨W,hW⟩:∃W:Int,IntKind.u64.wrap ((p:Int)*2^F)=W:=⟨_,rfl⟩;obtain⟨S,hS⟩:∃S:Int,IntKind.u64.wrap ((m:Int)+W)=S:=⟨_,rfl⟩;have k8:=vv hW;have k9:=vv hS;have c2:m<18446744073709551616:=by have h1:=q7Q (E:=G+1) (F:=F) (neg:=neg) (mode:=mode) ha hb0;rw[c5.o] at h1;have h2:2^(F+1)<=2^53:=k00 (by omega) (by omega);omega
  have l0:=vv fun f (h:IntAt f gm 0 (m:Int))=>A.Uint64 gm 0 (m:Int) f h (by rw[k08];exact c2)
  clear c2;refine q02 (fun f=>f.cell? ⟨w.heap.size+1,1,qa⟩=qe (.int .i64 (F:Int))) 11
   (.still 0 (.still 2 (.still 3 (.still 4 (.still 5 (.still 6 (.still 7 (.still 8 (.still 9 (.one 1 (.still 10 .done))))))))))) c.o.c1 (fun H=>?_)
  iterate 4
   refine q03 ?_
  rw[e7.o]
  iterate 1
   refine q03 ?_
  rw[k6.o]
  iterate 1
   refine q03 ?_
  rw[k7.o]
  iterate 3
   refine q03 ?_
  obtain⟨wd,b6⟩:=yx (wc.drew);have i:qg (IntAt wd gm 0 (m:Int)):=vv (by rw[b6];exact i.o.drew);have c:qg (FmAt wd (w.heap.size+1) ((G:Int)+1) F):=vv (by rw[b6];exact⟨c.o.c0,c.o.c1,c.o.lt⟩);have d:qg (qd w.heap.size w wd):=vv (by rw[b6];exact q05 d.o);rw[<- b6];clear b6 H;refine q01 rfl (by rfl) (fun K hK=>?_);go_simp;refine(l0.o _ i.o).mono ?_;rintro e' f ⟨rfl,rfl⟩;rw[k08];go_wp2_with fail;refine hK.out _ _ c.o.c1 (fun a0=>?_);clear hK
  iterate 1
   refine q03 ?_
  refine q08 ?_;clear a0;go_wp2_with fail;obtain⟨C,c3⟩:∃n:Nat,n=G+1+F:=⟨_,rfl⟩;have n4:(G:Int)+1+(F:Int)=(C:Int):=by omega
  have e8:qg (IntKind.i64.wrap (C:Int)=(C:Int)):=vv (qh _ (by omega));have m4:(C:Int)<=63:=by omega
  obtain⟨P,hP⟩:∃P:Nat,P=R3.tw C:=⟨_,rfl⟩;obtain⟨Q,hQ⟩:∃Q:Nat,Q=R3.tw F:=⟨_,rfl⟩;have l3:P<=9223372036854775808:=by rw[hP];exact k07 (R3.tw_le (j:=C) (k:=63) (by omega)) (by decide)
  have l4:Q<=P:=by rw[hP,hQ];exact R3.tw_le (by omega)
  have l5:qg (IntKind.u64.wrap ((2:Int)^C)=(P:Int)):=vv (by
   have e:((2:Int)^C)=(P:Int):=by rw[hP];unfold R3.tw;rw[k0C];rfl
   rw[e,qi];omega)
  have l6:qg (IntKind.u64.wrap ((2:Int)^F)=(Q:Int)):=vv (by
   have e:((2:Int)^F)=(Q:Int):=by rw[hQ];unfold R3.tw;rw[k0C];rfl
   rw[e,qi];omega)
  obtain⟨I,hI⟩:∃I:Nat,I=P-Q:=⟨_,rfl⟩;have l7:qg (IntKind.u64.wrap ((P:Int)-(Q:Int))=(I:Int)):=vv (by rw[qi];omega);have b2:qg (q4B (G+1) F=I):=vv (by rw[hI,hP,hQ,c3];rfl);have J:=vv (show 1<=I by
   have:Q*2<=P:=by rw[hP,hQ,<- R3.tw_succ];exact R3.tw_le (by omega)
   have:=R3.tw_pos F;omega)
  have l8:=vv (show I<=9223372036854775808 by omega);clear c3 hP hQ l3 l4 hI;refine q02 (fun f=>f.cell? ⟨w.heap.size+1,0,qa⟩=qe (.int .i64 ((G:Int)+1))/\f.cell? ⟨w.heap.size+1,1,qa⟩=qe (.int .i64 (F:Int))) 10
   (.still 0 (.still 1 (.still 2 (.still 3 (.still 4 (.still 5 (.still 6 (.still 7 (.still 8 (.still 9 .done)))))))))) ⟨c.o.c0,c.o.c1⟩ (fun H=>?_)
  iterate 5
   refine q03 ?_
  rw[e8.o]
  iterate 1
   refine q03 ?_
  rw[l5.o]
  iterate 3
   refine q03 ?_
  rw[l6.o]
  iterate 1
   refine q03 ?_
  rw[l7.o];refine q08 ?_;clear H;have L:over (G+1) F neg mode a b=(qc (B<low) || decide (I<=q51 (G+1) F neg mode a b)):=by unfold over;rw[b2.o,<- c7.o,b7.o]
  have g7:qg ((I:Int)<=9223372036854775808/\(1:Int)<=(I:Int)):=vv (by have:=l8.o;have:=J.o;omega);have m5:=g7.o.1;have m6:=g7.o.2;by_cases hlow2:B<low
  ·have x:over (G+1) F neg mode a b=ql:=by rw[L,k04 hlow2];rfl
   have d8:qc (B<low)=ql:=k04 hlow2;clear L hlow2;have g:qg (out (G+1) F neg mode a b=(if inner neg mode then I-1 else I,3)):=vv (by unfold out;rw[x,k0p rfl,b2.o]);clear x;rcases(by omega:mode=0\/mode=1\/mode=2\/mode=3\/mode=4) with rfl|rfl|rfl|rfl|rfl
   ·go_wp2;go_ret2;rw[g.o];exact⟨q5n (by simp [inner]) rfl,q05 d.o⟩
   ·go_wp2;go_ret2;rw[g.o];exact⟨q5n (by simp [inner]) rfl,q05 d.o⟩
   ·go_wp2;go_ret2;rw[g.o];exact⟨q5n (by have:=J.o;simp [inner];omega) rfl,q05 d.o⟩
   ·cases neg
    ·go_wp2;go_ret2;rw[g.o];exact⟨q5n (by simp [inner]) rfl,q05 d.o⟩
    ·go_wp2;go_ret2;rw[g.o];exact⟨q5n (by have:=J.o;simp [inner];omega) rfl,q05 d.o⟩
   ·cases neg
    ·go_wp2;go_ret2;rw[g.o];exact⟨q5n (by have:=J.o;simp [inner];omega) rfl,q05 d.o⟩
    ·go_wp2;go_ret2;rw[g.o];exact⟨q5n (by simp [inner]) rfl,q05 d.o⟩
  ·have d8:qc (B<low)=qf:=k02 hlow2;obtain⟨bt,e5⟩:∃n:Nat,n=m+p*2^F:=⟨_,rfl⟩;have e6:q51 (G+1) F neg mode a b=bt:=by unfold q51;rw[c5.o,b7.o,<- c7.o,e5,show low+B-1=(p:Int) by omega,k2f]
   have l9:p*2^F<=9223372036854775808:=by
    have a1:(p:Int)+1<=2*B:=by omega
    have a2:(2:Int)^G=((2^G:Nat):Int):=by rw[k0C];rfl
    have a3:=j0.o;rw[a2] at a3;have a4:p<=2^G*2:=by omega
    have a5:p*2^F<=2^G*2*2^F:=k0y _ a4;have a6:2^G*2*2^F=2^(G+1+F):=by rw[k0e,k0d]
    have a7:2^(G+1+F)<=2^63:=k00 (by omega) (by omega);omega
   have m0:m<=9007199254740992:=by have h1:=q7Q (E:=G+1) (F:=F) (neg:=neg) (mode:=mode) ha hb0;rw[c5.o] at h1;have h2:2^(F+1)<=2^53:=k00 (by omega) (by omega);omega
   have g8:W=((p*2^F:Nat):Int):=by rw[<- k8.o];exact q44 p F (by omega)
   have m1:S=(bt:Int):=by rw[<- k9.o,g8,e5,qi];omega
   have m7:(bt:Int)<=9232379236109516800:=by omega
   rw[e6] at L;have m2:=vv e6;clear hW hS g8 e6 e5 l9 m0 hlow2;subst m1;by_cases hge:I<=bt
   ·have x:over (G+1) F neg mode a b=ql:=by rw[L,k04 hge];simp
    have d9:qc ((I:Int)<=(bt:Int))=ql:=k04 (by omega);have m3:qc (I<=bt)=ql:=k04 hge;clear L hge;have g:qg (out (G+1) F neg mode a b=(if inner neg mode then I-1 else I,3)):=vv (by unfold out;rw[x,k0p rfl,b2.o]);clear x;rcases(by omega:mode=0\/mode=1\/mode=2\/mode=3\/mode=4) with rfl|rfl|rfl|rfl|rfl
    ·go_wp2;go_ret2;rw[g.o];exact⟨q5n (by simp [inner]) rfl,q05 d.o⟩
    ·go_wp2;go_ret2;rw[g.o];exact⟨q5n (by simp [inner]) rfl,q05 d.o⟩
    ·go_wp2;go_ret2;rw[g.o];exact⟨q5n (by have:=J.o;simp [inner];omega) rfl,q05 d.o⟩
    ·cases neg
     ·go_wp2;go_ret2;rw[g.o];exact⟨q5n (by simp [inner]) rfl,q05 d.o⟩
     ·go_wp2;go_ret2;rw[g.o];exact⟨q5n (by have:=J.o;simp [inner];omega) rfl,q05 d.o⟩
    ·cases neg
     ·go_wp2;go_ret2;rw[g.o];exact⟨q5n (by have:=J.o;simp [inner];omega) rfl,q05 d.o⟩
     ·go_wp2;go_ret2;rw[g.o];exact⟨q5n (by simp [inner]) rfl,q05 d.o⟩
   ·have x:over (G+1) F neg mode a b=qf:=by rw[L,d8,k02 hge];rfl
    have d9:qc ((I:Int)<=(bt:Int))=qf:=k02 (by omega);have m3:qc (I<=bt)=qf:=k02 hge;have g:qg (out (G+1) F neg mode a b=(bt,fl)):=vv (by unfold out;rw[x,m2.o,<- g5.o];rfl);clear L hge x;go_wp2;go_ret2;rw[g.o];exact⟨q5n (by simp) rfl,q05 d.o⟩
theorem qcg(E F:Nat)(neg:Bool)(mode a b:Nat):(out E F neg mode a b).1<=q4B E F:=by
 unfold out;cases h:over E F neg mode a b
 ·rw[k0r (by decide)];unfold over at h;simp only[Bool.or_eq_false_iff,k1i] at h;show q51 E F neg mode a b<=q4B E F;omega
 ·rw[k0p rfl];show(if inner neg mode then q4B E F-1 else q4B E F)<=q4B E F;split<;>omega
theorem qc2(gn on gd od a b G F:Nat)(below neg:Bool)(mode:Nat)(w:qk)(hn:IntAt w gn on (a:Int))(hd:IntAt w gd od (b:Int))(hb0:0<b)(sa:Sm a)(sb:Sm b)(g1:1<=G)(g2:G<=10)(h3:1<=F)(h4:F<=52)(hm:mode<=4):qn qj 95 #[fm ((G:Int)+1) F,q6I gn on gd od,.bool below,.bool neg,.int .u8 (mode:Int)] w (q5N (q0V (G+1) F below neg mode a b) w):=by
 obtain⟨c,v⟩:∃n:Nat,n=G+1+F:=⟨_,rfl⟩;have a1:(G:Int)+1+(F:Int)=(c:Int):=by omega
 have a0:(c:Int)<=63:=by omega
 obtain⟨P,d⟩:∃P:Nat,P=R3.tw c:=⟨_,rfl⟩;have N:P<=9223372036854775808:=by rw[d];exact k07 (R3.tw_le (j:=c) (k:=63) (by omega)) (by decide)
 have a2:IntKind.u64.wrap ((2:Int)^c)=(P:Int):=by
  have e:((2:Int)^c)=(P:Int):=by rw[d];unfold R3.tw;rw[k0C];rfl
  rw[e,qi];omega
 have x:∀n,sgb (G+1) F n=if n then P else 0:=fun n=>by unfold sgb;rw[d,v];rfl
 have D:=(qb w.heap.size w).alloc (o:=.cells #[.int .i64 ((G:Int)+1),.int .i64 (F:Int)] 23) lr;have E:=FmAt.made w ((G:Int)+1) (F:Int) 23;obtain⟨s,q⟩:=yx (w.alloc (.cells #[.int .i64 ((G:Int)+1),.int .i64 (F:Int)] 23));rw[<- q] at D E;have K:s.heap.size=w.heap.size+1:=by rw[q];simp
 have t:=(qb s.heap.size s).alloc (o:=.cells #[.pointer (qe ⟨gn,on,qa⟩),.pointer (qe ⟨gd,od,qa⟩)] 140) lr;have f:=NbBox.made s gn on gd od 140;obtain⟨L,y⟩:=yx (s.alloc (.cells #[.pointer (qe ⟨gn,on,qa⟩),.pointer (qe ⟨gd,od,qa⟩)] 140));rw[<- y] at t f;rw[K] at f;have u:qd w.heap.size w L:=D.trans (t.mono (by omega));have r:=E.below t;have g:=vv u;have z:=hn.below u;have H:=hd.below u;have X:=vv z;have Y:=vv H;have I:=vv (A.Sign gn on (a:Int) L z);have J:qg (L=(w.alloc (.cells #[.int .i64 ((G:Int)+1),.int .i64 (F:Int)] 23)).alloc (.cells #[.pointer (qe ⟨gn,on,qa⟩),.pointer (qe ⟨gd,od,qa⟩)] 140)):=vv (by rw[y,q]);have k0:=r.c0;have k1:=r.c1;have kl:=r.lt;have k2:=f.c0;have k3:=f.c1;have a3:=f.lt;have a4:(G:Int)<=10:=by omega
 have a5:(F:Int)<=52:=by omega
 rcases k01 a with l|l
 ·have m:qg (q0V (G+1) F below neg mode a b=(if neg then P else 0,0)):=vv (by unfold q0V;rw[k0p l,x]);have Z:((a:Int).sign==0)=ql:=by rw[l];rfl
  clear D E q K t f y u r hn hd z H x v d N l sa sb;cases neg
  ·go_enter func95,ntmps95;go_wp2_with fail;rw[<- J.o];refine I.o.mono ?_;rintro M p ⟨rfl,rfl⟩;go_wp2;go_ret3;rw[m.o];exact⟨rfl,g.o⟩
  ·go_enter func95,ntmps95;go_wp2_with fail;rw[<- J.o];refine I.o.mono ?_;rintro M p ⟨rfl,rfl⟩;go_wp2;go_ret3;rw[m.o];exact⟨rfl,g.o⟩
 ·have m:qg (q0V (G+1) F below neg mode a b=((if below then P else 0)+(out (G+1) F below mode a b).1,(out (G+1) F below mode a b).2)):=vv (by unfold q0V;rw[k0r (by omega),x]);have Z:((a:Int).sign==0)=qf:=by rw[k0M (by omega)];rfl
  have C:=qcg (G+1) F below mode a b;have Q:q4B (G+1) F<P:=by unfold q4B;rw[d,v];have e1:=k0a (G+1+F);have e2:=k0a F;show 2^(G+1+F)-2^F<2^(G+1+F);omega
  have R:=vv fun p (h:IntAt p gn on (a:Int)) (h':IntAt p gd od (b:Int))=>qbV gn on gd od a b G F below mode p h h' l hb0 sa sb g1 g2 h3 h4 hm
  obtain⟨O,T⟩:=yx (out (G+1) F below mode a b);rw[<- T] at R m C;obtain⟨o1v,o2v⟩:=O;have U:qg (bits .or .u64 (o1v:Int) (P:Int)=((P+o1v:Nat):Int)):=vv (by
   have V:o1v<2^c:=by have:P=2^c:=d;rw[<- this];exact k0I C Q
   have W:P=2^c:=d;have a6:o1v<P:=by omega
   rw[u64_or_nat _ _ (by omega) (by omega),Nat.or_comm];have h:=k1p (i:=c) (b:=o1v) V 1;rw[k0G,<- W] at h;rw[<- h])
  have a7:(o1v:Int)<=9223372036854775808:=by have h9:o1v<=q4B (G+1) F:=C;omega
  clear D E q K t f y u r hn hd z H x v d N l sa sb C Q T;go_enter func95,ntmps95;go_wp2_with fail;rw[<- J.o];refine I.o.mono ?_;rintro M p ⟨rfl,rfl⟩;go_wp2_with fail;refine(R.o _ X.o Y.o).mono ?_;rintro M w2 ⟨rfl,S⟩;have g:=vn g S;clear S;cases below
  ·go_wp2;go_ret3;rw[m.o];exact⟨by simp,g.o⟩
  ·go_wp2;go_ret3;rw[m.o];exact⟨by simp [U.o],g.o⟩
end Go.Proofs.YtabcgemembkkcaaGreatDoor.Rnd
namespace Go.Proofs.YtabcgemembkkcaaGreatDoor
open Go Go.RowKit
theorem IntAt.setPtr{w:qk}{g o gb j:Nat}{v:Int}{p:Option qm}(h:IntAt w g o v)(hp:w.cell? ⟨gb,0,qa⟩=qe (.pointer p))(u:Value):IntAt (w.setCell ⟨gb,j,qa⟩ u) g o v:=by
 have f:gb≠g:=by intro e;subst e;obtain⟨x,hx⟩:=h.head;rw[hp] at hx;cases hx
 have d:∀i,(w.setCell ⟨gb,j,qa⟩ u).cell? ⟨g,i,qa⟩=w.cell? ⟨g,i,qa⟩:=fun i=>q0u (fun e=>by injection e with e1;exact f e1)
 obtain⟨A,n,c,q,r,a,l⟩:=h.ex;refine⟨by simpa [World.setCell] using h.lt,?_,fun i=>?_,A,n,c,(d _).trans q,(d _).trans r,⟨a.len,a.le,a.sm,a.lim,fun hn=>?_⟩,l⟩
 ·obtain⟨x,hx⟩:=h.head;exact⟨x,(d _).trans hx⟩
 ·rw[<- h.fz i];exact q0S (p:=⟨g,i,qa⟩) (Below.heap_setCell w ⟨gb,j,qa⟩ u g (fun e=>f e.symm))
 ·obtain⟨b,off,e,s,k⟩:=a.cell hn;have m:off=0:=l _ e;subst m;have t:gb≠b:=by intro y;subst y;have:=k 0 hn;rw[hp] at this;cases this
  exact⟨b,0,e,by simpa [World.setCell] using s,fun i hi=>(q0u (fun e=>by injection e with e1;exact t e1)).trans (k i hi)⟩
namespace R5
theorem FmAt.belowLt{B:Nat}{w w':qk}{g:Nat}{E F:Int}(h:FmAt w g E F)(hb:qd B w w')(hl:g<B):FmAt w' g E F:=⟨(hb.cell (p:=⟨g,0,qa⟩) hl).trans h.c0,(hb.cell (p:=⟨g,1,qa⟩) hl).trans h.c1,k03 h.lt hb.size⟩
theorem DyadBox.belowLt{B:Nat}{w w':qk}{g:Nat}{neg:Bool}{A:Option qm}{n c:Nat}{e:Int}(h:DyadBox w g neg A n c e)(hb:qd B w w')(hl:g<B):DyadBox w' g neg A n c e:=⟨(hb.cell (p:=⟨g,0,qa⟩) hl).trans h.c0,(hb.cell (p:=⟨g,1,qa⟩) hl).trans h.c1,(hb.cell (p:=⟨g,2,qa⟩) hl).trans h.c2,k03 h.lt hb.size⟩
end R5
namespace Rnd
open Go.Proofs.YtabcgemembkkcaaGreatDoor.R5
theorem NbBox.set0{w:qk}{g gn on gd od:Nat}(h:NbBox w g gn on gd od)(ga oa:Nat):NbBox (w.setCell ⟨g,0,qa⟩ (.pointer (qe ⟨ga,oa,qa⟩))) g ga oa gd od:=⟨q0v h.c0,(q0u (fun e=>by injection e with _ e;omega)).trans h.c1,by simpa [World.setCell] using h.lt⟩
end Rnd
end Go.Proofs.YtabcgemembkkcaaGreatDoor
namespace Go.Proofs.YtabcgemembkkcaaGreatDoor.R5
open Go Go.RowKit
theorem RatioBox.fs{l:List Ob}{w w':qk}{g:Nat}{neg:Bool}{X:Option qm}{n c:Nat}{Y:Option qm}{m d:Nat}(h:RatioBox w g neg X n c Y m d)(hf:Fs l w w')(hne:∀p∈l,p.1≠g):RatioBox w' g neg X n c Y m d:=⟨Rnd.Fs.cell0 hf h.c0 h.lt hne,Rnd.Fs.cell0 hf h.c1 h.lt hne,Rnd.Fs.cell0 hf h.c2 h.lt hne,k03 h.lt hf.size⟩
theorem RatioBox.drew{w:qk}{g:Nat}{neg:Bool}{X:Option qm}{n c:Nat}{Y:Option qm}{m d:Nat}(h:RatioBox w g neg X n c Y m d):RatioBox w.drew g neg X n c Y m d:=⟨h.c0,h.c1,h.c2,h.lt⟩
end Go.Proofs.YtabcgemembkkcaaGreatDoor.R5
namespace Go.Proofs.YtabcgemembkkcaaGreatDoor.Rtp
open Go Go.RowKit R5
theorem qe0{p:Int}{N D:Nat}(hp:p.natAbs=N)(hg:Nat.gcd N D=1):lp p D=p/\ld p D=D:=by
 unfold lp ld;rw[hp,hg,k1b,k1b];refine⟨?_,rfl⟩;unfold sg;by_cases h:p<0
 ·rw[k04 h,k0p rfl];omega
 ·rw[k02 h,k0r (by decide)];omega
theorem q5g(X:Option qm)(n c:Nat)(Y:Option qm)(m d N D:Nat)(w:qk)(hX:Rd w X n c (toL N))(hY:Rd w Y m d (toL D))(hn:n<=16384)(hm:m<=16384)(hD:0<D)(hg:Nat.gcd N D=1)(hst:Std w):qn qj 109 #[q0m qf X n c Y m d] w fun e w'=>∃g,e=.returned (.tuple #[.pointer (qe ⟨g,0,qa⟩),.int .i64 0])/\w.heap.size<=g/\RatAt w' g ((N:Int)) D/\qd w.heap.size w w':=by
 obtain⟨p,t⟩:∃p:Int,p=(N:Int):=⟨_,rfl⟩;have z:p.natAbs=N:=by omega
 obtain⟨W,Z⟩:=qe0 z hg;have wn:=hX.words;have wm:=hY.words;have bN:bl N<=524288:=by have:=A.bl_words N;omega
 have bD:bl D<=524288:=by have:=A.bl_words D;omega
 have d5:0<m:=by
  rcases k01 m with h|h
  ·rw[h,q06] at wm;omega
  ·exact h
 obtain⟨w0,Q⟩:=yx (w.alloc (.cells #[.bool qf,.slice X n c,.slice Y m d] 39));have b0:qd w.heap.size w w0:=by rw[Q];exact(qb _ w).alloc lr _
 have y:RatioBox w0 w.heap.size qf X n c Y m d:=by rw[Q];exact RatioBox.made w _ _ _ _ _ _ _ _
 have d6:=vv Q;have b:=vv b0;have a:=vv y;have d7:=vv hst;have a0:=vv fun w' (h:qd w.heap.size w w')=>Nat_.Check X n c (toL N) w' (hX.below h rfl)
 rw[Nat_.natErr_ok (q1y hX hn)] at a0;have a1:=vv fun w' (h:qd w.heap.size w w')=>Nat_.Check Y m d (toL D) w' (hY.below h rfl)
 rw[Nat_.natErr_ok (q1y hY hm)] at a1;have b2:=vv fun w' (h:qd w.heap.size w w')=>q3G X n c N w' (hX.below h rfl) (by omega)
 have b3:=vv fun w' (h:qd w.heap.size w w')=>q3G Y m d D w' (hY.below h rfl) (by omega)
 have d8:=vv fun w' g gx v (h:RatSh w' g) (hx:IntAt w' gx 0 p) (hy:IntAt w' v 0 (D:Int)) (hs:Std w')=>A.SetFrac g gx v p D w' h hx hy hD hs (by rw[z];unfold Sz;omega) (by unfold Sz;omega)
 have a2:=vv fun w' g (h:RatAt w' g p D)=>qbT g p D w' h (by rw[W,z];exact bN) (by rw[Z];exact bD)
 have b4:=vv fun w' g (h:RatAt w' g p D)=>A.Denom g p D w' h
 simp only[W,Z,z] at a2 b4;have b5:=vv fun w' g gx (h:IntAt w' g 0 (D:Int)) (h':IntAt w' gx 0 (D:Int))=>A.Cmp g 0 gx 0 (D:Int) (D:Int) w' h h'
 simp only[q3x] at b5;have b7:qc (p<0)=qf:=by rw[k1i];omega
 simp only[b7] at a2;have d9:=vv wn;have e0:=vv wm;have e8:((m:Int)==0)=qf:=by rw[k05];omega
 have e9:(n:Int)<=16384:=by omega
 have e7:(m:Int)<=16384:=by omega
 have G:=y.c0;have f1:=y.c1;have f2:=y.c2;have fl:=y.lt;rw[<- t];have HP:=vv t;clear hX hY hn hm hD hg hst t z W Z wn wm bN bD d5 Q b0 y b7 ;go_enter func109,ntmps109;go_wp2_with fail;rw[<- d6.o];refine(a0.o _ b.o).mono ?_;rintro e w1 ⟨rfl,a3⟩;have a:=vv (a.o.below a3);have b:=vn b a3;obtain⟨G,f1,f2,fl⟩:=a.o;clear a3;go_wp2_with fail;refine(a1.o _ b.o).mono ?_;rintro e w2 ⟨rfl,a4⟩;have a:=vv (a.o.below a4);have b:=vn b a4;obtain⟨G,f1,f2,fl⟩:=a.o;clear a4;go_wp2_with fail;refine q02 (fun w'=>w'.cell? ⟨w.heap.size,1,qa⟩=qe (.slice X n c)/\w'.cell? ⟨w.heap.size,2,qa⟩=qe (.slice Y m d)) 6
  (.still 0 (.still 1 (.still 3 (.still 4 (.one 2 (.one 5 .done)))))) ⟨f1,f2⟩ (fun a5=>?_)
 have a:qg (RatioBox w2.drew w.heap.size qf X n c Y m d):=vv a.o.drew;have b:qg (qd w.heap.size w w2.drew):=vv (q05 b.o);obtain⟨wc,C⟩:=yx (w2.drew);rw[<- C] at a b a5 ⊢;clear C G f1 f2 fl
 iterate 4
  refine q03 ?_
 refine q01 rfl (by rfl) (fun K hK=>?_);go_simp;refine(b2.o _ b.o).mono ?_;rintro e w3 ⟨g1,rfl,e1,b8,a6⟩;have s:=vv b8;have a:=vv (a.o.below a6);have b:=vn b a6;clear b8 a6 e1;go_wp2_with fail;refine hK.out _ _ ⟨a.o.c1,a.o.c2⟩ (fun E=>?_);clear hK;refine q01 rfl (by rfl) (fun K hK=>?_);go_simp;refine(b3.o _ b.o).mono ?_;rintro e w4 ⟨V,rfl,e2,c3,R⟩;have j:=vv c3;have e3:g1<V:=by have:=s.o.lt;omega
 have s:=vv (s.o.below R);have a:=vv (a.o.below R);have b:=vn b R;clear c3 R e2 e3;go_wp2_with fail;refine hK.out _ _ ⟨a.o.c1,a.o.c2⟩ (fun E=>?_);clear hK;refine q08 ?_;have G:=a.o.c0;have fl:=a.o.lt;have c4:IntAt w4 g1 0 p:=by rw[HP.o];exact s.o
 have s:=vv c4;clear c4;obtain⟨H,rfl⟩:∃x:qk,x=w4:=⟨_,rfl⟩;obtain⟨w6,S⟩:=yx (H.alloc (.cells #[.bool qf,.slice qa 0 0,.slice qa 0 0] 175));have I:qd H.heap.size H w6:=by rw[S];exact(qb _ _).alloc lr _
 have z6:RatAt w6 H.heap.size 0 1:=by rw[S];exact RatAt.zero _ _
 obtain⟨g,a7⟩:=yx (H.heap.size);have a8:=s.o.lt;have a9:=j.o.lt;have T:=a.o.lt;rw[<- a7] at z6 a8 a9 T;have e4:=vv z6;have s:=vv (s.o.below I);have j:=vv (j.o.below I);have a:=vv (a.o.below I);have c5:qg (w.heap.size<g):=vv T;have b:=vn b I;have c6:=vv (And.intro a8 (And.intro a9 T));have c7:=vv S;have c8:=vv a7;clear S I z6 a7 a8 a9 T;go_wp2_with fail;clear G fl;rw[<- c7.o,<- c8.o];clear c7 c8;refine(d8.o _ g g1 V e4.o.sh s.o j.o (d7.o.fs (Fs.of_nil b.o))).mono ?_;rintro e w7 J;have c9:=J.below b.o b.o.size (by have:=c5.o;omega);have l:=vv J.2.1;have a:=vv (a.o.fs J.2.2 (by intro p t;simp at t;rw[t];have:=c6.o.2.2;show g≠_;omega));have j:=vv (j.o.fs J.2.2 (by intro p t k;simp at t;rw[t] at k;have:=c6.o.2.1;exact absurd k (by show g≠_;omega)));have b:=vv c9;obtain⟨rfl,-,-⟩:=J;clear c9;go_wp2_with fail;refine(a2.o _ g l.o).mono ?_;rintro e L ⟨M,q,O,r,rfl,d0,d1,F⟩;obtain rfl:q=n:=by rw[<- d0.words];exact d9.o
 obtain rfl:r=m:=by rw[<- d1.words];exact e0.o
 have l:=vv (l.o.below F);have a:=vv (a.o.below F);have j:=vv (j.o.below F);have b:=vn b F;clear d0 d1 F;obtain⟨u,U⟩:=yx (L.alloc (.cells #[.bool qf,.slice M q q,.slice O r r] 39));have P:qd L.heap.size L u:=by rw[U];exact(qb _ _).alloc lr _
 have x9:RatioBox u L.heap.size qf M q q O r r:=by rw[U];exact RatioBox.made _ _ _ _ _ _ _ _ _
 obtain⟨v,b1⟩:=yx (L.heap.size);rw[<- b1] at x9;have l:=vv (l.o.below P);have a:=vv (a.o.below P);have f:=vv x9;have j:=vv (j.o.below P);have b:=vn b P;have d2:=vv U;have d3:=vv b1;clear U P x9 b1;go_wp2_with fail;rw[<- d2.o,<- d3.o];clear d2 d3;refine q02 (fun w'=>(w'.cell? ⟨v,0,qa⟩=qe (.bool qf)/\w'.cell? ⟨v,1,qa⟩=qe (.slice M q q)/\w'.cell? ⟨v,2,qa⟩=qe (.slice O r r))/\w'.cell? ⟨w.heap.size,0,qa⟩=qe (.bool qf)/\w'.cell? ⟨w.heap.size,1,qa⟩=qe (.slice X q c)/\w'.cell? ⟨w.heap.size,2,qa⟩=qe (.slice Y r d)) 16
  (.still 0 (.still 1 (.still 2 (.still 3 (.still 5 (.one 4 (.one 6 (.still 7 (.still 8 (.still 9 (.still 10 (.still 12 (.one 11 (.one 13 (.still 14 (.still 15 .done)))))))))))))))) ⟨⟨f.o.c0,f.o.c1,f.o.c2⟩,a.o.c0,a.o.c1,a.o.c2⟩ (fun a5=>?_)
 have a:qg (RatioBox u.drew w.heap.size qf X q c Y r d):=vv a.o.drew;have f:qg (RatioBox u.drew v qf M q q O r r):=vv f.o.drew;have l:qg (RatAt u.drew g p D):=vv (l.o.like rfl);have j:qg (IntAt u.drew V 0 (D:Int)):=vv j.o.drew;have b:qg (qd w.heap.size w u.drew):=vv (q05 b.o);obtain⟨wc,C⟩:=yx (u.drew);rw[<- C] at a f l j b a5 ⊢;clear C;have yl:=f.o.lt;have xl:=a.o.lt
 iterate 5
  refine q03 ?_
 refine q01 rfl (by rfl) (fun K hK=>?_);go_simp;refine(seen qf M q q O r r _).mono ?_;rintro e wn ⟨rfl,i⟩;have a:=vv (a.o.below i);have f:=vv (f.o.below i);have l:=vv (l.o.below i);have j:=vv (j.o.below i);have b:=vn b i;clear i;go_wp2_with fail;refine hK.out _ _ ⟨⟨f.o.c0,f.o.c1,f.o.c2⟩,a.o.c0,a.o.c1,a.o.c2⟩ (fun E=>?_);clear hK;refine q01 rfl (by rfl) (fun K hK=>?_);go_simp;refine(seen qf X q c Y r d _).mono ?_;rintro e wn ⟨rfl,i⟩;have a:=vv (a.o.below i);have f:=vv (f.o.below i);have l:=vv (l.o.below i);have j:=vv (j.o.below i);have b:=vn b i;clear i;go_wp2_with fail;refine hK.out _ _ ⟨⟨f.o.c0,f.o.c1,f.o.c2⟩,a.o.c0,a.o.c1,a.o.c2⟩ (fun E=>?_);clear hK
 iterate 5
  refine q03 ?_
 refine q01 rfl (by rfl) (fun K hK=>?_);go_simp;refine(b4.o _ g l.o).mono ?_;rintro e wn ⟨g9,rfl,e5,d4,i⟩;have a:=vv (a.o.below i);have f:=vv (f.o.below i);have l:=vv (l.o.below i);have j:=vv (j.o.below i);have b:=vn b i;have e6:=vv d4;clear i e5 d4;go_wp2_with fail;refine hK.out _ _ ⟨⟨f.o.c0,f.o.c1,f.o.c2⟩,a.o.c0,a.o.c1,a.o.c2⟩ (fun E=>?_);clear hK;refine q01 rfl (by rfl) (fun K hK=>?_);go_simp;refine(b5.o _ g9 V e6.o j.o).mono ?_;rintro e wn ⟨rfl,i⟩;have a:=vv (a.o.below i);have f:=vv (f.o.below i);have l:=vv (l.o.below i);have b:=vn b i;clear i;go_wp2_with fail;refine hK.out _ _ ⟨⟨f.o.c0,f.o.c1,f.o.c2⟩,a.o.c0,a.o.c1,a.o.c2⟩ (fun E=>?_);clear hK
 iterate 2
  refine q03 ?_
 refine q0T rfl ?_;go_wp2;go_ret2;exact⟨g,rfl,by have:=c5.o;omega,l.o,b.o⟩
theorem q6B(X:Option qm)(n c:Nat)(Y:Option qm)(m d N D:Nat)(w:qk)(hX:Rd w X n c (toL N))(hY:Rd w Y m d (toL D))(hn:n<=16384)(hm:m<=16384)(hD:0<D)(hg:Nat.gcd N D=1)(hN:0<N)(hst:Std w):qn qj 109 #[q0m ql X n c Y m d] w fun e w'=>∃g,e=.returned (.tuple #[.pointer (qe ⟨g,0,qa⟩),.int .i64 0])/\w.heap.size<=g/\RatAt w' g (-(N:Int)) D/\qd w.heap.size w w':=by
 obtain⟨p,q⟩:∃p:Int,p = -(N:Int):=⟨_,rfl⟩;have E:p.natAbs=N:=by omega
 obtain⟨a2,a3⟩:=qe0 E hg;have wn:=hX.words;have wm:=hY.words;have bN:bl N<=524288:=by have:=A.bl_words N;omega
 have bD:bl D<=524288:=by have:=A.bl_words D;omega
 have d8:0<m:=by
  rcases k01 m with h|h
  ·rw[h,q06] at wm;omega
  ·exact h
 obtain⟨w0,Q⟩:=yx (w.alloc (.cells #[.bool ql,.slice X n c,.slice Y m d] 39));have b0:qd w.heap.size w w0:=by rw[Q];exact(qb _ w).alloc lr _
 have y:RatioBox w0 w.heap.size ql X n c Y m d:=by rw[Q];exact RatioBox.made w _ _ _ _ _ _ _ _
 have d9:=vv Q;have b:=vv b0;have a:=vv y;have e0:=vv hst;have a0:=vv fun w' (h:qd w.heap.size w w')=>Nat_.Check X n c (toL N) w' (hX.below h rfl)
 rw[Nat_.natErr_ok (q1y hX hn)] at a0;have a1:=vv fun w' (h:qd w.heap.size w w')=>Nat_.Check Y m d (toL D) w' (hY.below h rfl)
 rw[Nat_.natErr_ok (q1y hY hm)] at a1;have b3:=vv fun w' (h:qd w.heap.size w w')=>q3G X n c N w' (hX.below h rfl) (by omega)
 have b4:=vv fun w' (h:qd w.heap.size w w')=>q3G Y m d D w' (hY.below h rfl) (by omega)
 have e1:=vv fun w' g (h:IntAt w' g 0 (N:Int))=>A.Neg g 0 g 0 (N:Int) (N:Int) w' h h
 have e2:=vv fun w' g gx x (h:RatSh w' g) (hx:IntAt w' gx 0 p) (hy:IntAt w' x 0 (D:Int)) (hs:Std w')=>A.SetFrac g gx x p D w' h hx hy hD hs (by rw[E];unfold Sz;omega) (by unfold Sz;omega)
 have a4:=vv fun w' g (h:RatAt w' g p D)=>qbT g p D w' h (by rw[a2,E];exact bN) (by rw[a3];exact bD)
 have b5:=vv fun w' g (h:RatAt w' g p D)=>A.Denom g p D w' h
 simp only[a2,a3,E] at a4 b5;have b7:=vv fun w' g gx (h:IntAt w' g 0 (D:Int)) (h':IntAt w' gx 0 (D:Int))=>A.Cmp g 0 gx 0 (D:Int) (D:Int) w' h h'
 simp only[q3x] at b7;have b8:qc (p<0)=ql:=by rw[k12];omega
 simp only[b8] at a4;have e3:=vv wn;have e4:=vv wm;have f5:((m:Int)==0)=qf:=by rw[k05];omega
 have f6:(n:Int)<=16384:=by omega
 have f4:(m:Int)<=16384:=by omega
 have z:=y.c0;have f1:=y.c1;have f2:=y.c2;have fl:=y.lt;rw[<- q];have HP:=vv q;clear hX hY hn hm hD hg hst q E a2 a3 wn wm bN bD d8 Q b0 y b8 hN;go_enter func109,ntmps109;go_wp2_with fail;rw[<- d9.o];refine(a0.o _ b.o).mono ?_;rintro e w1 ⟨rfl,a5⟩;have a:=vv (a.o.below a5);have b:=vn b a5;obtain⟨z,f1,f2,fl⟩:=a.o;clear a5;go_wp2_with fail;refine(a1.o _ b.o).mono ?_;rintro e w2 ⟨rfl,a6⟩;have a:=vv (a.o.below a6);have b:=vn b a6;obtain⟨z,f1,f2,fl⟩:=a.o;clear a6;go_wp2_with fail;refine q02 (fun w'=>w'.cell? ⟨w.heap.size,1,qa⟩=qe (.slice X n c)/\w'.cell? ⟨w.heap.size,2,qa⟩=qe (.slice Y m d)) 6
  (.still 0 (.still 1 (.still 3 (.still 4 (.one 2 (.one 5 .done)))))) ⟨f1,f2⟩ (fun a7=>?_)
 have a:qg (RatioBox w2.drew w.heap.size ql X n c Y m d):=vv a.o.drew;have b:qg (qd w.heap.size w w2.drew):=vv (q05 b.o);obtain⟨wc,F⟩:=yx (w2.drew);rw[<- F] at a b a7 ⊢;clear F z f1 f2 fl
 iterate 4
  refine q03 ?_
 refine q01 rfl (by rfl) (fun K hK=>?_);go_simp;refine(b3.o _ b.o).mono ?_;rintro e w3 ⟨u,rfl,e5,c3,R⟩;have t:=vv c3;have a:=vv (a.o.below R);have b:=vn b R;have c4:qg (w.heap.size<u):=vv (by have:=a.o.lt;have:=R.size;have:w.heap.size<wc.heap.size:=by {show _;exact(by assumption:RatioBox wc w.heap.size ql X n c Y m d).lt};omega);clear c3 R e5;go_wp2_with fail;refine hK.out _ _ ⟨a.o.c1,a.o.c2⟩ (fun G=>?_);clear hK;refine q01 rfl (by rfl) (fun K hK=>?_);go_simp;refine(b4.o _ b.o).mono ?_;rintro e w4 ⟨W,rfl,e6,c5,S⟩;have j:=vv c5;have c6:u<W:=by have:=t.o.lt;omega
 have e7:=vv c6;have t:=vv (t.o.below S);have a:=vv (a.o.below S);have b:=vn b S;clear c5 S e6 c6;go_wp2_with fail;refine hK.out _ _ ⟨a.o.c1,a.o.c2⟩ (fun G=>?_);clear hK;refine q08 ?_;have z:=a.o.c0;have fl:=a.o.lt;go_wp2_with fail;refine(e1.o _ u t.o).mono ?_;rintro e C ⟨rfl,hi,hf⟩;have Z:=hf.fs t.o hi;have j:=vv (j.o.fs Z (by intro p q k;simp at q;rw[q] at k;have:=e7.o;exact absurd k (by show u≠_;omega)));have a:=vv (a.o.fs Z (by intro p q;simp at q;rw[q];have:=c4.o;show u≠_;omega));have b:=vv (Z.below b.o b.o.size (by intro p q;simp at q;rw[q];have:=c4.o;show w.heap.size<=u;omega));have c7:IntAt C u 0 p:=by rw[HP.o];exact hi
 have t:=vv c7;have z:=a.o.c0;have fl:=a.o.lt;clear hi hf Z c7;obtain⟨w6,T⟩:=yx (C.alloc (.cells #[.bool qf,.slice qa 0 0,.slice qa 0 0] 175));have I:qd C.heap.size C w6:=by rw[T];exact(qb _ _).alloc lr _
 have z6:RatAt w6 C.heap.size 0 1:=by rw[T];exact RatAt.zero _ _
 obtain⟨g,a8⟩:=yx (C.heap.size);have a9:=t.o.lt;have b1:=j.o.lt;have U:=a.o.lt;rw[<- a8] at z6 a9 b1 U;have e8:=vv z6;have t:=vv (t.o.below I);have j:=vv (j.o.below I);have a:=vv (a.o.below I);have c8:qg (w.heap.size<g):=vv U;have b:=vn b I;have c9:=vv (And.intro a9 (And.intro b1 U));have d0:=vv T;have d1:=vv a8;clear T I z6 a8 a9 b1 U;go_wp2_with fail;clear z fl;rw[<- d0.o,<- d1.o];clear d0 d1;refine(e2.o _ g u W e8.o.sh t.o j.o (e0.o.fs (Fs.of_nil b.o))).mono ?_;rintro e w7 J;have d2:=J.below b.o b.o.size (by have:=c8.o;omega);have l:=vv J.2.1;have a:=vv (a.o.fs J.2.2 (by intro p q;simp at q;rw[q];have:=c9.o.2.2;show g≠_;omega));have j:=vv (j.o.fs J.2.2 (by intro p q k;simp at q;rw[q] at k;have:=c9.o.2.1;exact absurd k (by show g≠_;omega)));have b:=vv d2;obtain⟨rfl,-,-⟩:=J;clear d2;go_wp2_with fail;refine(a4.o _ g l.o).mono ?_;rintro e L ⟨M,r,O,s,rfl,d3,d4,H⟩;obtain rfl:r=n:=by rw[<- d3.words];exact e3.o
 obtain rfl:s=m:=by rw[<- d4.words];exact e4.o
 have l:=vv (l.o.below H);have a:=vv (a.o.below H);have j:=vv (j.o.below H);have b:=vn b H;clear d3 d4 H;obtain⟨v,V⟩:=yx (L.alloc (.cells #[.bool ql,.slice M r r,.slice O s s] 39));have P:qd L.heap.size L v:=by rw[V];exact(qb _ _).alloc lr _
 have x9:RatioBox v L.heap.size ql M r r O s s:=by rw[V];exact RatioBox.made _ _ _ _ _ _ _ _ _
 obtain⟨x,b2⟩:=yx (L.heap.size);rw[<- b2] at x9;have l:=vv (l.o.below P);have a:=vv (a.o.below P);have f:=vv x9;have j:=vv (j.o.below P);have b:=vn b P;have d5:=vv V;have d6:=vv b2;clear V P x9 b2;go_wp2_with fail;rw[<- d5.o,<- d6.o];clear d5 d6;refine q02 (fun w'=>(w'.cell? ⟨x,0,qa⟩=qe (.bool ql)/\w'.cell? ⟨x,1,qa⟩=qe (.slice M r r)/\w'.cell? ⟨x,2,qa⟩=qe (.slice O s s))/\w'.cell? ⟨w.heap.size,0,qa⟩=qe (.bool ql)/\w'.cell? ⟨w.heap.size,1,qa⟩=qe (.slice X r c)/\w'.cell? ⟨w.heap.size,2,qa⟩=qe (.slice Y s d)) 16
  (.still 0 (.still 1 (.still 2 (.still 3 (.still 5 (.one 4 (.one 6 (.still 7 (.still 8 (.still 9 (.still 10 (.still 12 (.one 11 (.one 13 (.still 14 (.still 15 .done)))))))))))))))) ⟨⟨f.o.c0,f.o.c1,f.o.c2⟩,a.o.c0,a.o.c1,a.o.c2⟩ (fun a7=>?_)
 have a:qg (RatioBox v.drew w.heap.size ql X r c Y s d):=vv a.o.drew;have f:qg (RatioBox v.drew x ql M r r O s s):=vv f.o.drew;have l:qg (RatAt v.drew g p D):=vv (l.o.like rfl);have j:qg (IntAt v.drew W 0 (D:Int)):=vv j.o.drew;have b:qg (qd w.heap.size w v.drew):=vv (q05 b.o);obtain⟨wc,F⟩:=yx (v.drew);rw[<- F] at a f l j b a7 ⊢;clear F;have yl:=f.o.lt;have xl:=a.o.lt
 iterate 5
  refine q03 ?_
 refine q01 rfl (by rfl) (fun K hK=>?_);go_simp;refine(seen ql M r r O s s _).mono ?_;rintro e wn ⟨rfl,i⟩;have a:=vv (a.o.below i);have f:=vv (f.o.below i);have l:=vv (l.o.below i);have j:=vv (j.o.below i);have b:=vn b i;clear i;go_wp2_with fail;refine hK.out _ _ ⟨⟨f.o.c0,f.o.c1,f.o.c2⟩,a.o.c0,a.o.c1,a.o.c2⟩ (fun G=>?_);clear hK;refine q01 rfl (by rfl) (fun K hK=>?_);go_simp;refine(seen ql X r c Y s d _).mono ?_;rintro e wn ⟨rfl,i⟩;have a:=vv (a.o.below i);have f:=vv (f.o.below i);have l:=vv (l.o.below i);have j:=vv (j.o.below i);have b:=vn b i;clear i;go_wp2_with fail;refine hK.out _ _ ⟨⟨f.o.c0,f.o.c1,f.o.c2⟩,a.o.c0,a.o.c1,a.o.c2⟩ (fun G=>?_);clear hK
 iterate 5
  refine q03 ?_
 refine q01 rfl (by rfl) (fun K hK=>?_);go_simp;refine(b5.o _ g l.o).mono ?_;rintro e wn ⟨g9,rfl,e9,d7,i⟩;have a:=vv (a.o.below i);have f:=vv (f.o.below i);have l:=vv (l.o.below i);have j:=vv (j.o.below i);have b:=vn b i;have f3:=vv d7;clear i e9 d7;go_wp2_with fail;refine hK.out _ _ ⟨⟨f.o.c0,f.o.c1,f.o.c2⟩,a.o.c0,a.o.c1,a.o.c2⟩ (fun G=>?_);clear hK;refine q01 rfl (by rfl) (fun K hK=>?_);go_simp;refine(b7.o _ g9 W f3.o j.o).mono ?_;rintro e wn ⟨rfl,i⟩;have a:=vv (a.o.below i);have f:=vv (f.o.below i);have l:=vv (l.o.below i);have b:=vn b i;clear i;go_wp2_with fail;refine hK.out _ _ ⟨⟨f.o.c0,f.o.c1,f.o.c2⟩,a.o.c0,a.o.c1,a.o.c2⟩ (fun G=>?_);clear hK
 iterate 2
  refine q03 ?_
 refine q0T rfl ?_;go_wp2;go_ret2;exact⟨g,rfl,by have:=c8.o;omega,l.o,b.o⟩
theorem qay(neg:Bool)(X:Option qm)(n c:Nat)(Y:Option qm)(m d N D:Nat)(w:qk)(hX:Rd w X n c (toL N))(hY:Rd w Y m d (toL D))(hn:n<=16384)(hm:m<=16384)(hD:0<D)(hg:Nat.gcd N D=1)(h0:neg=ql->0<N)(hst:Std w):qn qj 109 #[q0m neg X n c Y m d] w fun e w'=>∃g,e=.returned (.tuple #[.pointer (qe ⟨g,0,qa⟩),.int .i64 0])/\w.heap.size<=g/\RatAt w' g (sg neg N) D/\qd w.heap.size w w':=by
 cases neg
 ·exact q5g X n c Y m d N D w hX hY hn hm hD hg hst
 ·exact q6B X n c Y m d N D w hX hY hn hm hD hg (h0 rfl) hst
theorem Check(neg:Bool)(X:Option qm)(n c:Nat)(Y:Option qm)(m d N D:Nat)(w:qk)(hX:Rd w X n c (toL N))(hY:Rd w Y m d (toL D))(hn:n<=16384)(hm:m<=16384)(hD:0<D)(hg:Nat.gcd N D=1)(h0:neg=ql->0<N)(hst:Std w):qn qj 43 #[q0m neg X n c Y m d] w fun e w'=>e=.returned (.int .i64 0)/\qd w.heap.size w w':=by
 obtain⟨h,f⟩:=yx (w.alloc (.cells #[.bool neg,.slice X n c,.slice Y m d] 39));have a:qd w.heap.size w h:=by rw[f];exact(qb _ w).alloc lr _
 have b:RatioBox h w.heap.size neg X n c Y m d:=by rw[f];exact RatioBox.made w _ _ _ _ _ _ _ _
 have l:=vv (qay neg X n c Y m d N D h (hX.below a rfl) (hY.below a rfl) hn hm hD hg h0 (hst.fs (Fs.of_nil a)));have k:=vv f;have i:=vv a;have p:=b.c0;have f1:=b.c1;have f2:=b.c2;have fl:=b.lt;clear hX hY hn hm hD hg h0 hst f a b;go_enter func43,ntmps43;go_wp2_with fail;rw[<- k.o];refine l.o.mono ?_;rintro e q ⟨g,rfl,-,-,j⟩;have i:=vn i j;clear j;go_wp2;go_ret;exact⟨rfl,i.o⟩
end Go.Proofs.YtabcgemembkkcaaGreatDoor.Rtp
namespace Go.Proofs.YtabcgemembkkcaaGreatDoor.R5
open Go Go.RowKit
theorem RatioBox.belowLt{B:Nat}{w w':qk}{g:Nat}{neg:Bool}{X:Option qm}{n c:Nat}{Y:Option qm}{m d:Nat}(h:RatioBox w g neg X n c Y m d)(hb:qd B w w')(hl:g<B):RatioBox w' g neg X n c Y m d:=⟨(hb.cell (p:=⟨g,0,qa⟩) hl).trans h.c0,(hb.cell (p:=⟨g,1,qa⟩) hl).trans h.c1,(hb.cell (p:=⟨g,2,qa⟩) hl).trans h.c2,k03 h.lt hb.size⟩
theorem FmAt.fs{l:List Ob}{w w':qk}{g:Nat}{E F:Int}(h:FmAt w g E F)(hf:Fs l w w')(hne:∀p∈l,p.1≠g):FmAt w' g E F:=⟨Rnd.Fs.cell0 hf h.c0 h.lt hne,Rnd.Fs.cell0 hf h.c1 h.lt hne,k03 h.lt hf.size⟩
end Go.Proofs.YtabcgemembkkcaaGreatDoor.R5
namespace Go.Proofs.YtabcgemembkkcaaGreatDoor.Rnd
open Go Go.RowKit R5
structure NbZero(w:qk)(g:Nat):Prop where
 c0:w.cell? ⟨g,0,qa⟩=qe (.pointer qa)
 c1:w.cell? ⟨g,1,qa⟩=qe (.pointer qa)
 fz:∀j,w.frozen? ⟨g,j,qa⟩=qf
 lt:g<w.heap.size
theorem NbZero.made(w:qk)(t:TypeId):NbZero (w.alloc (.cells #[.pointer qa,.pointer qa] t)) w.heap.size:=by constructor<;>first|(simp only[World.cell?];rw[qo];rfl)|(intro j;simp only[World.frozen?];rw[qo];simp)|simp
theorem NbZero.below{w w':qk}{g:Nat}(h:NbZero w g)(hb:qd w.heap.size w w'):NbZero w' g:=⟨(hb.cell (p:=⟨g,0,qa⟩) h.lt).trans h.c0,(hb.cell (p:=⟨g,1,qa⟩) h.lt).trans h.c1,fun j=>(hb.frozen (p:=⟨g,j,qa⟩) h.lt).trans (h.fz j),k03 h.lt hb.size⟩
theorem q3f(g gx gy y:Nat)(w:qk)(h:IntAt w g 0 0)(hx:IntAt w gx 0 10)(hy:IntAt w gy 0 (y:Int))(hb:y<=20000000):qn qj 92 #[.pointer (qe ⟨g,0,qa⟩),.pointer (qe ⟨gx,0,qa⟩),.pointer (qe ⟨gy,0,qa⟩),.pointer qa] w (q75 g 0 ((10^y:Nat):Int) w):=by
 rcases k01 y with e|e
 ·subst e;exact A.Exp0 g 0 gx 0 gy 0 0 10 w h hx hy
 ·exact A.Exp g 0 gx 0 gy 0 0 10 y w h hx hy (by decide) e (by have:=q5V y;unfold Sz;omega) (by unfold Sz;have:bl y<=y:=q0A k2m;omega)
theorem Scaled(G F:Nat)(below neg:Bool)(mode:Nat)(Ad:Option qm)(n c:Nat)(Bd:Option qm)(m d N:Nat)(x:Int)(w:qk)(g1:1<=G)(g2:G<=10)(h3:1<=F)(h4:F<=52)(hm:mode<=4)
  (ha:Rd w Ad n c (toL N)) (hb:Rd w Bd m d (toL 1)) (hn:n<=16384) (h0:below=ql->0<N) (hx1:-4611686018427387904<=x) (hx2:x<=4611686018427387904) (hst:Std w) :
  qn qj 34 #[fm ((G:Int)+1) F,q0m below Ad n c Bd m d,.int .i64 x,.bool neg,.int .u8 (mode:Int)] w (q5N (q0V (G+1) F below neg mode (N*t10 x) (t10 (-x))) w):=by
 have b7:bl N<=524288:=by have k1:=q0p N;rw[ha.words,q1u] at k1;have:=q0A k1;omega
 have eG:(((G+1:Nat):Int))=(G:Int)+1:=by omega
 have d2:=R3.chk_ok (Fms.formOk_in (E:=G+1) (F:=F) (by omega) (by omega) h3 h4);rw[eG] at d2;have i2:m=1:=hb.words.symm;obtain⟨V,a6⟩:=yx (w.alloc (.cells #[.int .i64 ((G:Int)+1),.int .i64 (F:Int)] 23));obtain⟨w1,b8⟩:=yx (V.alloc (.cells #[.bool below,.slice Ad n c,.slice Bd m d] 39));have d3:qd w.heap.size w V:=by rw[a6];exact(qb _ w).alloc lr _
 have d4:qd V.heap.size V w1:=by rw[b8];exact(qb _ V).alloc lr _
 have f5:V.heap.size=w.heap.size+1:=by rw[a6];simp
 have a7:FmAt w1 w.heap.size ((G:Int)+1) F:=(show FmAt V w.heap.size ((G:Int)+1) F by rw[a6];exact FmAt.made w _ _ _).below d4;have a3:RatioBox w1 (w.heap.size+1) below Ad n c Bd m d:=by rw[<- f5,b8];exact RatioBox.made V _ _ _ _ _ _ _ _
 have hB:qd w.heap.size w w1:=d3.trans (d4.mono d3.size);have r:=vv a7;have a:=vv a3;have l:=vv hB;have i3:qg (w1=(w.alloc (.cells #[.int .i64 ((G:Int)+1),.int .i64 (F:Int)] 23)).alloc (.cells #[.bool below,.slice Ad n c,.slice Bd m d] 39)):=vv (by rw[b8,a6]);have f6:=vv fun w=>Fms.Check ((G:Int)+1) F w
 rw[d2] at f6;have i4:=vv fun i (h:qd w.heap.size w i)=>Rtp.Check below Ad n c Bd m d N 1 i (ha.below h rfl) (hb.below h rfl) hn (by omega) (by decide) (k2z N) h0 (hst.fs (Fs.of_nil h))
 have f7:=vv fun i (h:qd w.heap.size w i)=>qcw Ad n c N i (ha.below h rfl) (by unfold Sz;omega)
 have d5:=vv fun i (h:qd w.heap.size w i)=>qcw Bd m d 1 i (hb.below h rfl) (by unfold Sz;decide)
 obtain⟨Q,q⟩:=yx (q57 x (bl N+1+1200));have d6:-16778717<=Q/\Q<=16778717:=by rw[q];unfold q57;omega
 have d7:=vv fun w=>qdw x (bl N+1) w hx1 hx2 (by omega)
 have eK:q57 x (((bl N+1:Nat):Int)+1200)=Q:=by rw[q];congr 1
 rw[eK] at d7;obtain⟨y,hy⟩:=yx (Q.natAbs);have i5:y<=16778717:=by omega
 have a0:max Q (-Q)=(y:Int):=by omega
 have f8:=q5V y;have i6:=q1S N (10^y);obtain⟨X,hX⟩:=yx (N*t10 Q);obtain⟨Y,hY⟩:=yx (t10 (-Q));have f9:0<Y:=by rw[hY];exact q2l _
 have a8:0<=Q->(N:Int)*((10^y:Nat):Int)=(X:Int)/\Y=1:=by
  intro h;have J:Q.toNat=y:=by omega
  have R:(-Q).toNat=0:=by omega
  rw[hX,hY];unfold t10;rw[J,R];exact⟨(k0f _ _).symm,rfl⟩
 have b9:Q<0->(1:Int)*((10^y:Nat):Int)=(Y:Int)/\X=N:=by
  intro h;have J:(-Q).toNat=y:=by omega
  have R:Q.toNat=0:=by omega
  rw[hX,hY];unfold t10;rw[J,R];exact⟨Int.one_mul _,k0G _⟩
 have sX:Sm X:=by
  rcases k23 Q 0 with h|h
  ·rw[(b9 h).2];unfold Sm;omega
  ·have:=(a8 h).1;have e:X=N*10^y:=by
    have J:Q.toNat=y:=by omega
    rw[hX];unfold t10;rw[J]
   rw[e];unfold Sm;omega
 have sY:Sm Y:=by
  rcases k23 Q 0 with h|h
  ·have J:(-Q).toNat=y:=by omega
   rw[hY];unfold t10 Sm;rw[J];omega
  ·rw[(a8 h).2];unfold Sm;decide
 have hN:=q5j (E:=G+1) (F:=F) (N:=N) (below:=below) (neg:=neg) (mode:=mode) 1200 x (by omega) (by omega) h3 h4 (by omega);rw[<- q,<- hX,<- hY] at hN;rw[<- hN];have d8:=vv fun i g o g' o' (h:IntAt i g o (X:Int)) (h':IntAt i g' o' (Y:Int))=>qc2 g o g' o' X Y G F below neg mode i h h' f9 sX sY g1 g2 h3 h4 hm
 obtain⟨S,hS⟩:=yx (q0V (G+1) F below neg mode X Y);rw[<- hS] at d8 ⊢;obtain⟨T,hT⟩:=yx (10^y);have g0:=vv fun i g gx gy (h:IntAt i g 0 0) (hx:IntAt i gx 0 10) (hy:IntAt i gy 0 (y:Int))=>q3f g gx gy y i h hx hy (by omega)
 rw[<- hT] at g0 a8 b9 f8;have i7:=vv fun i g gp (h:IntAt i g 0 (N:Int)) (t:IntAt i gp 0 (T:Int))=>A.Mul g 0 g 0 gp 0 (N:Int) (N:Int) (T:Int) i h h t (by rw[k08];unfold Sz;omega) (by rw[k08];unfold Sz;omega)
 have i8:=vv fun i g gp (h:IntAt i g 0 1) (t:IntAt i gp 0 (T:Int))=>A.Mul g 0 g 0 gp 0 1 1 (T:Int) i h h t (by unfold Sz;decide) (by rw[k08];unfold Sz;omega)
 have i9:=vv a8;have j0:=vv b9;have j7:(mode:Int)<=4:=by omega
 have dm:qc ((4:Int)<(mode:Int))=qf:=k02 (by omega);have d9:=vv fun i g (h:IntAt i g 0 (N:Int))=>A.BitLen g 0 (N:Int) i h
 simp only[k08] at d9;have f4:qg (∀i g,IntAt i g 0 1->qn qj 91 #[.pointer (qe ⟨g,0,qa⟩)] i fun e w''=>e=.returned (.int .i64 1)/\i=w''):=vv fun i g h=>(A.BitLen g 0 1 i h).mono (fun e w'' h=>⟨by rw[h.1];rfl,h.2⟩)
 obtain⟨b,g3⟩:=yx (bl N);rw[<- g3] at d9 d7;have j1:qg (IntKind.i64.wrap ((b:Int)+1)=((b+1:Nat):Int)):=vv (by rw[IntKind.wrap_i64];omega);have j2:=vv fun i=>A.NewInt 10 i (by decide) (by decide)
 have j3:=vv fun i=>A.NewInt (y:Int) i (by omega) (by omega)
 have j8:Q<=16778717:=d6.2;have j9:-16778717<=Q:=d6.1;have f0:=a7.c0;have f1:=a7.c1;have r0:=a3.c0;have r1:=a3.c1;have r2:=a3.c2;have l0:=a7.lt;have l1:=a3.lt;have j4:=vv a0;have k0:(y:Int)<=16778717:=by omega
 clear ha hb hn h0 hx1 hx2 hst b7 a6 b8 d3 d4 f5 a7 a3 hB q d6 eK f8 i6 hm d2 hX hY f9 sX sY hN hS g3 eG i2 a8 b9 hT hy i5 a0;go_enter func34,ntmps34;go_wp2_with fail;rw[<- i3.o];refine(f6.o _).mono ?_;rintro e w2 ⟨rfl,c3⟩;have r:=vv (r.o.below c3);have a:=vv (a.o.below c3);have l:=vn l c3;obtain⟨r0,r1,r2,l1⟩:=a.o;clear c3 f0 f1 l0;go_wp2_with fail;refine(i4.o _ l.o).mono ?_;rintro e w3 ⟨rfl,c4⟩;have r:=vv (r.o.below c4);have a:=vv (a.o.below c4);have l:=vn l c4;clear c4 r0 r1 r2 l1;go_wp2_with fail;refine q02 (fun i=>i.cell? ⟨w.heap.size+1,1,qa⟩=qe (.slice Ad n c)/\i.cell? ⟨w.heap.size+1,2,qa⟩=qe (.slice Bd m d)) 8
  (.still 0 (.still 1 (.still 3 (.still 4 (.two 2 (.two 5 (.still 6 (.one 7 .done)) 7 (.one 5 (.still 6 .done))) 7 (.one 2 (.one 5 (.still 6 .done))))))))
  ⟨a.o.c1,a.o.c2⟩ (fun e0=>?_)
 have r:qg (FmAt w3.drew w.heap.size ((G:Int)+1) F):=vv (r.o.below (q05 (qb _ _)));have a:qg (RatioBox w3.drew (w.heap.size+1) below Ad n c Bd m d):=vv a.o.drew;have l:qg (qd w.heap.size w w3.drew):=vv (q05 l.o);obtain⟨wc,g4⟩:=yx (w3.drew);rw[<- g4] at r a l e0 ⊢;clear g4
 iterate 4
  refine q03 ?_
 refine q0e rfl (by rfl) rfl (by rfl) (fun K q=>?_) (fun K q=>?_)
 focus
  go_simp;refine(f7.o _ l.o).mono ?_;rintro e wn ⟨z,rfl,e3,I,f⟩;have c5:qg (w.heap.size+1<z):=vv (by have:=a.o.lt;omega)
  try have a9:qg (g≠z):=vv (by have:=C.o.lt;omega)
  try have C:=vv (C.o.below f)
  try have s:=vv (s.o.below f)
  try have u:=vv (u.o.below f)
  have r:=vv (r.o.below f);have a:=vv (a.o.below f);have l:=vn l f;clear f;have s:=vv I;clear I e3;obtain⟨wc,rfl⟩:=yx wn;go_wp2_with fail;refine q.out _ _ ⟨a.o.c1,a.o.c2⟩ (fun P=>?_);clear q;refine q0e rfl (by rfl) rfl (by rfl) (fun K q=>?_) (fun K q=>?_)
  focus
   go_simp;refine(d5.o _ l.o).mono ?_;rintro e wn ⟨v,rfl,b0,I,f⟩;have b1:qg (w.heap.size+1<v):=vv (by have:=a.o.lt;omega);have c6:qg (z≠v):=vv (by have:=s.o.lt;omega)
   try have a4:qg (g≠v):=vv (by have:=C.o.lt;omega)
   try have C:=vv (C.o.below f)
   try have s:=vv (s.o.below f)
   try have u:=vv (u.o.below f)
   have r:=vv (r.o.below f);have a:=vv (a.o.below f);have l:=vn l f;clear f;have u:=vv (show IntAt wn v 0 1 from I);clear I b0;obtain⟨wc,rfl⟩:=yx wn;go_wp2_with fail;refine q.out _ _ ⟨a.o.c1,a.o.c2⟩ (fun P=>?_);clear q
   iterate 1
    refine q03 ?_
   refine q01 rfl (by rfl) (fun K q=>?_);go_simp;obtain⟨g,M⟩:=yx (wc.heap.size);obtain⟨wn,H⟩:=yx (wc.alloc (.cells #[.pointer qa,.pointer qa] 140));have f:qd wc.heap.size wc wn:=by rw[H];exact(qb _ _).alloc lr _
   have W:NbZero wn g:=by rw[H,M];exact NbZero.made _ _
   have b2:qg (w.heap.size+1<g):=vv (by have:=a.o.lt;omega)
   try have a9:qg (g≠z):=vv (by have:=s.o.lt;omega)
   try have a4:qg (g≠v):=vv (by have:=u.o.lt;omega)
   rw[<- H,<- M]
   try have C:=vv (C.o.below f)
   try have s:=vv (s.o.below f)
   try have u:=vv (u.o.below f)
   have r:=vv (r.o.below f);have a:=vv (a.o.below f);have l:=vn l f;clear f;have C:=vv W;clear W H M;obtain⟨wc,rfl⟩:=yx wn;go_wp2_with fail;refine q.out _ _ ⟨a.o.c1,a.o.c2⟩ (fun P=>?_);clear q
  rotate_left 1
  focus
   go_simp;obtain⟨g,M⟩:=yx (wc.heap.size);obtain⟨wn,H⟩:=yx (wc.alloc (.cells #[.pointer qa,.pointer qa] 140));have f:qd wc.heap.size wc wn:=by rw[H];exact(qb _ _).alloc lr _
   have W:NbZero wn g:=by rw[H,M];exact NbZero.made _ _
   have b2:qg (w.heap.size+1<g):=vv (by have:=a.o.lt;omega)
   try have a9:qg (g≠z):=vv (by have:=s.o.lt;omega)
   try have a4:qg (g≠v):=vv (by have:=u.o.lt;omega)
   rw[<- H,<- M]
   try have C:=vv (C.o.below f)
   try have s:=vv (s.o.below f)
   try have u:=vv (u.o.below f)
   have r:=vv (r.o.below f);have a:=vv (a.o.below f);have l:=vn l f;clear f;have C:=vv W;clear W H M;obtain⟨wc,rfl⟩:=yx wn;go_wp2_with fail;refine q.out _ _ ⟨a.o.c1,a.o.c2⟩ (fun P=>?_);clear q;refine q01 rfl (by rfl) (fun K q=>?_);go_simp;refine(d5.o _ l.o).mono ?_;rintro e wn ⟨v,rfl,b0,I,f⟩;have b1:qg (w.heap.size+1<v):=vv (by have:=a.o.lt;omega);have c6:qg (z≠v):=vv (by have:=s.o.lt;omega)
   try have a4:qg (g≠v):=vv (by have:=C.o.lt;omega)
   try have C:=vv (C.o.below f)
   try have s:=vv (s.o.below f)
   try have u:=vv (u.o.below f)
   have r:=vv (r.o.below f);have a:=vv (a.o.below f);have l:=vn l f;clear f;have u:=vv (show IntAt wn v 0 1 from I);clear I b0;obtain⟨wc,rfl⟩:=yx wn;go_wp2_with fail;refine q.out _ _ ⟨a.o.c1,a.o.c2⟩ (fun P=>?_);clear q
   iterate 1
    refine q03 ?_
 rotate_left 2
 focus
  go_simp;obtain⟨g,M⟩:=yx (wc.heap.size);obtain⟨wn,H⟩:=yx (wc.alloc (.cells #[.pointer qa,.pointer qa] 140));have f:qd wc.heap.size wc wn:=by rw[H];exact(qb _ _).alloc lr _
  have W:NbZero wn g:=by rw[H,M];exact NbZero.made _ _
  have b2:qg (w.heap.size+1<g):=vv (by have:=a.o.lt;omega)
  try have a9:qg (g≠z):=vv (by have:=s.o.lt;omega)
  try have a4:qg (g≠v):=vv (by have:=u.o.lt;omega)
  rw[<- H,<- M]
  try have C:=vv (C.o.below f)
  try have s:=vv (s.o.below f)
  try have u:=vv (u.o.below f)
  have r:=vv (r.o.below f);have a:=vv (a.o.below f);have l:=vn l f;clear f;have C:=vv W;clear W H M;obtain⟨wc,rfl⟩:=yx wn;go_wp2_with fail;refine q.out _ _ ⟨a.o.c1,a.o.c2⟩ (fun P=>?_);clear q;refine q01 rfl (by rfl) (fun K q=>?_);go_simp;refine(f7.o _ l.o).mono ?_;rintro e wn ⟨z,rfl,e3,I,f⟩;have c5:qg (w.heap.size+1<z):=vv (by have:=a.o.lt;omega)
  try have a9:qg (g≠z):=vv (by have:=C.o.lt;omega)
  try have C:=vv (C.o.below f)
  try have s:=vv (s.o.below f)
  try have u:=vv (u.o.below f)
  have r:=vv (r.o.below f);have a:=vv (a.o.below f);have l:=vn l f;clear f;have s:=vv I;clear I e3;obtain⟨wc,rfl⟩:=yx wn;go_wp2_with fail;refine q.out _ _ ⟨a.o.c1,a.o.c2⟩ (fun P=>?_);clear q;refine q01 rfl (by rfl) (fun K q=>?_);go_simp;refine(d5.o _ l.o).mono ?_;rintro e wn ⟨v,rfl,b0,I,f⟩;have b1:qg (w.heap.size+1<v):=vv (by have:=a.o.lt;omega);have c6:qg (z≠v):=vv (by have:=s.o.lt;omega)
  try have a4:qg (g≠v):=vv (by have:=C.o.lt;omega)
  try have C:=vv (C.o.below f)
  try have s:=vv (s.o.below f)
  try have u:=vv (u.o.below f)
  have r:=vv (r.o.below f);have a:=vv (a.o.below f);have l:=vn l f;clear f;have u:=vv (show IntAt wn v 0 1 from I);clear I b0;obtain⟨wc,rfl⟩:=yx wn;go_wp2_with fail;refine q.out _ _ ⟨a.o.c1,a.o.c2⟩ (fun P=>?_);clear q
  iterate 1
   refine q03 ?_
 all_goals
  refine q08 ?_;have z0:=C.o.c0;have z1:=C.o.c1;have fz:=C.o.fz;have zl:=C.o.lt;obtain⟨O,a5⟩:=yx ((wc.setCell ⟨g,0,qa⟩ (.pointer (qe ⟨z,0,qa⟩))).setCell ⟨g,1,qa⟩ (.pointer (qe ⟨v,0,qa⟩)));have c7:(wc.setCell ⟨g,0,qa⟩ (.pointer (qe ⟨z,0,qa⟩))).cell? ⟨g,0,qa⟩=qe (.pointer (qe ⟨z,0,qa⟩)):=q0v z0;have a2:(⟨g,0,qa⟩:qm)≠⟨g,1,qa⟩:=fun e=>by injection e with _ e;exact absurd e (by decide)
  have b5:IntAt O z 0 (N:Int):=by rw[a5];exact(s.o.setPtr (j:=0) z0 _).setPtr (j:=1) c7 _
  have b6:IntAt O v 0 1:=by rw[a5];exact(u.o.setPtr (j:=0) z0 _).setPtr (j:=1) c7 _
  have c8:qd g wc O:=by rw[a5];exact((qb g wc).setCell (p:=⟨g,0,qa⟩) lr _).setCell (p:=⟨g,1,qa⟩) lr _
  have b7:NbBox O g z 0 v 0:=by rw[a5];exact⟨(q0u a2.symm).trans c7,q0v ((q0u a2).trans z1),by simpa [World.setCell] using zl⟩
  have r:=vv (r.o.belowLt c8 (by have:=b2.o;omega));have a:=vv (a.o.belowLt c8 (by have:=b2.o;omega));have l:=vv (l.o.trans (c8.mono (by have:=b2.o;omega)));have s:=vv b5;have u:=vv b6;have D:=vv b7;have g5:=vv a5;clear c7 a2 b5 b6 c8 b7 a5;go_wp2_with fail;rw[<- g5.o];clear g5 z0 z1 fz zl;refine q02 (fun i=>i.cell? ⟨g,0,qa⟩=qe (.pointer (qe ⟨z,0,qa⟩))/\i.cell? ⟨g,1,qa⟩=qe (.pointer (qe ⟨v,0,qa⟩))) 9
   (.still 0 (.still 1 (.still 2 (.still 4 (.still 5 (.one 3 (.one 6 (.still 7 (.one 8 .done))))))))) ⟨D.o.c0,D.o.c1⟩ (fun e0=>?_)
  have r:qg (FmAt O.drew w.heap.size ((G:Int)+1) F):=vv (r.o.below (q05 (qb _ _)));have a:qg (RatioBox O.drew (w.heap.size+1) below Ad n c Bd m d):=vv a.o.drew;have l:qg (qd w.heap.size w O.drew):=vv (q05 l.o);have s:qg (IntAt O.drew z 0 (N:Int)):=vv s.o.drew;have u:qg (IntAt O.drew v 0 1):=vv u.o.drew;have D:qg (NbBox O.drew g z 0 v 0):=vv D.o.drew;obtain⟨wd,g6⟩:=yx (O.drew);rw[<- g6] at r a l s u D e0 ⊢;clear g6;have xl:=D.o.lt
  iterate 5
   refine q03 ?_
  refine q01 rfl (by rfl) (fun K q=>?_);go_simp;refine(d9.o _ z s.o).mono ?_;rintro e i ⟨rfl,rfl⟩;go_wp2_with fail;refine q.out _ _ ⟨D.o.c0,D.o.c1⟩ (fun P=>?_);clear q;refine q01 rfl (by rfl) (fun K q=>?_);go_simp;refine(f4.o _ v u.o).mono ?_;rintro e i ⟨rfl,rfl⟩;go_wp2_with fail;refine q.out _ _ ⟨D.o.c0,D.o.c1⟩ (fun P=>?_);clear q
  iterate 1
   refine q03 ?_
  rw[j1.o];refine q01 rfl (by rfl) (fun K q=>?_);go_simp;refine(d7.o _).mono ?_;rintro e i ⟨rfl,rfl⟩;go_wp2_with fail;refine q.out _ _ ⟨D.o.c0,D.o.c1⟩ (fun P=>?_);clear q xl;refine q08 ?_;obtain⟨gz,e4⟩:=yx (wd.heap.size);obtain⟨wz,c9⟩:=yx (wd.alloc (.cells #[.bool qf,.slice qa 0 0] 142));have g7:qd wd.heap.size wd wz:=by rw[c9];exact(qb _ _).alloc lr _
  have b3:IntAt wz gz 0 0:=by rw[c9,e4];exact IntAt.zero _ _
  have Z:=vv g7;have U:=vv b3;have g8:=vv c9;have e5:=vv e4;clear e4 c9 g7 b3;go_wp2_with fail;rw[<- g8.o,<- e5.o];refine(j2.o _).mono ?_;rintro e wt ⟨gT,rfl,j5,g9,e6⟩;have U:=vv (U.o.below e6);have Z:=vn Z e6;have d0:=vv g9;clear g9 e6 j5 g8;have a0:=j4.o;go_wp2_with fail;clear a0;refine(j3.o _).mono ?_;rintro e wy ⟨gY,rfl,j6,i0,d1⟩;have U:=vv (U.o.below d1);have Z:=vn Z d1;have d0:=vv (d0.o.below d1);have i1:=vv i0;clear i0 d1 j6;go_wp2_with fail;refine(g0.o _ gz gT gY U.o d0.o i1.o).mono ?_;rintro e we hP;have a1:=hP.below Z.o Z.o.size (by have:=e5.o;omega);obtain⟨rfl,b3,-⟩:=hP;have U:=vv b3;have r:=vv (r.o.below a1);have a:=vv (a.o.below a1);have l:=vn l a1;have s:=vv (s.o.below a1);have u:=vv (u.o.below a1);have D:=vv (D.o.below a1);obtain⟨x0,x1,xl⟩:=D.o;clear a1 b3 Z d0 i1 e5;by_cases hneg:Q<0
  ·obtain⟨J,R⟩:=j0.o hneg;have dK:qc (Q<0)=ql:=k04 hneg;have e7:=vv J;have e8:=vv R;clear J R hneg;go_wp2_with fail;refine(i8.o _ v gz u.o U.o).mono ?_;rintro e wm ⟨rfl,hi,hf⟩;rw[e7.o] at hi;have L:=hf.fs u.o hi;have e9:=vv hi;have f2:qg (IntAt wm z 0 (X:Int)):=vv (by rw[e8.o];exact s.o.fs L (by intro p t k;simp at t;rw[t] at k;exact absurd k.symm c6.o));have a:=vv (a.o.fs L (by intro p t;simp at t;rw[t];have:=b1.o;show v≠_;omega));have r:=vv (r.o.fs L (by intro p t;simp at t;rw[t];have:=b1.o;show v≠_;omega));have D:=vv (D.o.fs L (by intro p t;simp at t;rw[t];exact Ne.symm a4.o));have l:=vv (L.below l.o l.o.size (by intro p t;simp at t;rw[t];have:=b1.o;show w.heap.size<=v;omega));clear hi hf L;obtain⟨x0,x1,xl⟩:=D.o;obtain⟨f0,f1,l0⟩:=r.o;have r0:=a.o.c0;have l1:=a.o.lt;go_wp2_with fail;refine(d8.o _ z 0 v 0 f2.o e9.o).mono ?_;rintro e w8 ⟨rfl,b4⟩;have f3:=vn l b4;clear b4 x0 x1 xl f0 f1 l0 r0 l1;go_wp2;go_ret3;exact⟨rfl,f3.o⟩
  ·obtain⟨J,R⟩:=i9.o (by omega);have dK:qc (Q<0)=qf:=k02 hneg;have e7:=vv J;have e8:=vv R;clear J R hneg;go_wp2_with fail;refine(i7.o _ z gz s.o U.o).mono ?_;rintro e wm ⟨rfl,hi,hf⟩;rw[e7.o] at hi;have L:=hf.fs s.o hi;have f2:=vv hi;have e9:qg (IntAt wm v 0 (Y:Int)):=vv (by rw[e8.o];exact u.o.fs L (by intro p t k;simp at t;rw[t] at k;exact absurd k c6.o));have a:=vv (a.o.fs L (by intro p t;simp at t;rw[t];have:=c5.o;show z≠_;omega));have r:=vv (r.o.fs L (by intro p t;simp at t;rw[t];have:=c5.o;show z≠_;omega));have D:=vv (D.o.fs L (by intro p t;simp at t;rw[t];exact Ne.symm a9.o));have l:=vv (L.below l.o l.o.size (by intro p t;simp at t;rw[t];have:=c5.o;show w.heap.size<=z;omega));clear hi hf L;obtain⟨x0,x1,xl⟩:=D.o;obtain⟨f0,f1,l0⟩:=r.o;have r0:=a.o.c0;have l1:=a.o.lt;go_wp2_with fail;refine(d8.o _ z 0 v 0 f2.o e9.o).mono ?_;rintro e w8 ⟨rfl,b4⟩;have f3:=vn l b4;clear b4 x0 x1 xl f0 f1 l0 r0 l1;go_wp2;go_ret3;exact⟨rfl,f3.o⟩
end Go.Proofs.YtabcgemembkkcaaGreatDoor.Rnd
