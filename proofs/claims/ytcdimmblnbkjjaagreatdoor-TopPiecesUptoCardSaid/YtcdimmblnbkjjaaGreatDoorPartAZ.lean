/- Lemmas. -/
import Derived.Test.YtcdimmblnbkjjaaGreatDoorPartAY
import Derived.Deep.Cut
import Derived.Deep.CutRange
import Derived.Test.YtcdimmblnbkjjaaGreatDoorPartAW
import Derived.Test.YtcdimmblnbkjjaaGreatDoorPartAX
set_option linter.all false
set_option maxHeartbeats 8000000
set_option maxRecDepth 100000
namespace Go.Proofs.YtcdimmblnbkjjaaGreatDoor.Rnd
open Go Go.RowKit R5
theorem q64(a b:Nat):(bl a:Int)-bl b-1<=q21 a b/\q21 a b<=(bl a:Int)-bl b:=by
 unfold q21;split<;>omega
theorem qby(a:Nat)(s:Int):bl (a*p2 s)<=bl a+s.toNat+1:=by
 have h1:=q3q a (p2 s);have h2:bl (p2 s)<=s.toNat+1:=q1F (by unfold p2;exact Nat.pow_lt_pow_right (by omega) (by omega));omega
theorem q7V{a:Nat}{s:Int}(h:Sm a)(hs:s<=100000000000):Sz (a*p2 s):=by
 have:=qby a s;unfold Sm at h;unfold Sz;omega
theorem qas(gn on gd od a b G F:Nat)(neg:Bool)(mode:Nat)(w:World)(hn:IntAt w gn on (a:Int))(hd:IntAt w gd od (b:Int))(ha:0<a)(hb0:0<b)(sa:Sm a)(sb:Sm b)(g1:1<=G)(g2:G<=10)(h3:1<=F)(h4:F<=52)(hm:mode<=4):
  Calls Tryz.prog 97 #[q5Y gn on gd od,fm ((G:Int)+1) F,.bool neg,.int .u8 (mode:Int)] w (qbe 0 (out (G+1) F neg mode a b) w):=by
 have b5:Sz a:=by unfold Sm at sa;unfold Sz;omega
 have b6:Sz b:=by unfold Sm at sb;unfold Sz;omega
 obtain⟨B,hB⟩:∃B:Int,B=q1m (G+1):=⟨_,rfl⟩;obtain⟨e,he⟩:∃e:Int,e=q21 a b:=⟨_,rfl⟩;have f9:=vv fun w' (h:IntAt w' gn on (a:Int)) (h':IntAt w' gd od (b:Int))=>log gn on gd od a b w' h h' b5 b6
 rw[<- he] at f9;have hr:=q64 a b;rw[<- he] at hr;have sa1:bl a<=4294967296:=sa;have sb1:bl b<=4294967296:=sb;have e1:e<=4294967296:=by omega
 have e2:-4294967297<=e:=by omega
 have i9:=q5G (E:=G+1) (by omega);have j0:=q7z (E:=G+1) (by omega);rw[<- hB] at i9 j0;have b4:(2:Int)^G=B+1:=by rw[hB];unfold q1m;rw[Nat.add_sub_cancel];omega
 have n0:IntKind.i64.wrap ((2:Int)^G)=B+1:=by rw[b4];exact IntWalk.i64_in _ (by omega)
 have o0:=(Below.refl w.heap.size w).alloc (o:=.cells #[.pointer (some ⟨gn,on,none⟩),.pointer (some ⟨gd,od,none⟩)] 101) lr;have x0:=NbBox.made w gn on gd od 101;obtain⟨w0,d5⟩:=yx (w.alloc (.cells #[.pointer (some ⟨gn,on,none⟩),.pointer (some ⟨gd,od,none⟩)] 101));rw[<- d5] at o0 x0;have s0:w0.heap.size=w.heap.size+1:=by rw[d5];simp
 have o1:=(Below.refl w0.heap.size w0).alloc (o:=.cells #[.int .i64 ((G:Int)+1),.int .i64 (F:Int)] 23) lr;have f1:=FmAt.made w0 ((G:Int)+1) (F:Int) 23;obtain⟨w1,e5⟩:=yx (w0.alloc (.cells #[.int .i64 ((G:Int)+1),.int .i64 (F:Int)] 23));rw[<- e5] at o1 f1;rw[s0] at f1;have b1:Below w.heap.size w w1:=o0.trans (o1.mono (by omega));have HX:=vv (x0.below o1);have HF:=vv f1;have HB:=vv b1;have HN:=vv (hn.below b1);have HD:=vv (hd.below b1);have j1:Hid (w1=(w.alloc (.cells #[.pointer (some ⟨gn,on,none⟩),.pointer (some ⟨gd,od,none⟩)] 101)).alloc (.cells #[.int .i64 ((G:Int)+1),.int .i64 (F:Int)] 23)):=vv (by rw[e5,d5]);obtain⟨low,b8⟩:∃l:Int,max e (1-B)=l:=⟨_,rfl⟩;have l1:low<=4294967296:=by omega
 have l2:-1023<=low:=by omega
 have c4:Hid (q4J (G+1) a b=low):=vv (by unfold q4J;rw[<- he,<- hB];exact b8);obtain⟨s,hs⟩:∃s:Int,(F:Int)-low=s:=⟨_,rfl⟩;have k1:s<=1100:=by omega
 have k2:-4294967296<=s:=by omega
 have HT:=vv fun w' (h:IntAt w' gn on (a:Int)) (h':IntAt w' gd od (b:Int))=>q7U gn on gd od a b s w' h h' b5 b6 (by omega) (by omega)
 obtain⟨X,hX⟩:=yx (a*p2 s);obtain⟨Y,hY⟩:=yx (b*p2 (-s));have g0:0<Y:=by rw[hY];exact Nat.mul_pos hb0 (q0I _)
 have sX:Sz X:=by rw[hX];exact q7V sa (by omega)
 have sY:Sz Y:=by rw[hY];exact q7V sb (by omega)
 simp only[<- hX,<- hY] at HT;have g5:=vv fun w' g1 o1 g2 o2 (h:IntAt w' g1 o1 (X:Int)) (h':IntAt w' g2 o2 (Y:Int))=>whole g1 o1 g2 o2 X Y neg mode w' h h' g0 sX sY hm
 have e0:Hid (mant (G+1) F neg mode a b=rnd neg mode X Y):=vv (by
  have el:q4J (G+1) a b=low:=by unfold q4J;rw[<- he,<- hB];exact b8
  unfold mant;rw[el,hs,hX,hY,show low-(F:Int) = -s by omega])
 have j2:Hid (q6J (G+1) F a b=X%Y):=vv (by
  have el:q4J (G+1) a b=low:=by unfold q4J;rw[<- he,<- hB];exact b8
  unfold q6J;rw[el,hs,hX,hY,show low-(F:Int) = -s by omega])
 obtain⟨m,e6⟩:=yx (rnd neg mode X Y);obtain⟨same,e7⟩:=yx (decide (X%Y=0));simp only[<- e6,<- e7] at g5;rw[<- e6] at e0;have g6:=vv e7;obtain⟨s2,e8⟩:∃s:Int,(F:Int)-e=s:=⟨_,rfl⟩;have k3:s2<=4294967400:=by omega
 have k4:-4294967296<=s2:=by omega
 have g7:=vv fun w' (h:IntAt w' gn on (a:Int)) (h':IntAt w' gd od (b:Int))=>q7U gn on gd od a b s2 w' h h' b5 b6 (by omega) (by omega)
 obtain⟨X2,e3⟩:=yx (a*p2 s2);obtain⟨Y2,c5⟩:=yx (b*p2 (-s2));have c6:0<Y2:=by rw[c5];exact Nat.mul_pos hb0 (q0I _)
 have sX2:Sz X2:=by rw[e3];exact q7V sa (by omega)
 have sY2:Sz Y2:=by rw[c5];exact q7V sb (by omega)
 simp only[<- e3,<- c5] at g7;have c7:=vv fun w' g1 o1 g2 o2 (h:IntAt w' g1 o1 (X2:Int)) (h':IntAt w' g2 o2 (Y2:Int))=>whole g1 o1 g2 o2 X2 Y2 neg mode w' h h' c6 sX2 sY2 hm
 have g8:Hid (q9X F neg mode a b=rnd neg mode X2 Y2):=vv (by
  unfold q9X;rw[<- he,e8,e3,c5,show e-(F:Int) = -s2 by omega])
 obtain⟨fk,e9⟩:=yx (rnd neg mode X2 Y2);simp only[<- e9] at c7;rw[<- e9] at g8;have j3:=vv e8;have n1:(G:Int)<=10:=by omega
 have n2:(F:Int)<=52:=by omega
 have g9:=vv he;have e4:=vv hB;have j4:=vv b4;clear o0 x0 d5 s0 o1 f1 e5 b1 hn hd he hB b4 e8 e3 c5 c6 sX2 sY2 e9 hX hY g0 sX sY e6 e7 sa1 sb1 hr b5 b6 sa sb;go_enter Tryz.func97,Tryz.ntmps97
 go_wp2_with fail
 rw[<- j1.o];refine(f9.o _ HN.o HD.o).mono ?_;rintro e' w2 ⟨rfl,b4⟩;have HX:=vv (HX.o.below b4);have HF:=vv (HF.o.below b4);have HN:=vv (HN.o.below b4);have HD:=vv (HD.o.below b4);have HB:=vn HB b4;obtain⟨x0,x1,xl⟩:=HX.o;obtain⟨f0,f1,fl⟩:=HF.o;clear b4;go_wp2_with fail
 refine(HT.o _ HN.o HD.o).mono ?_;rintro e' w3 ⟨g1,o1,g2,o2,rfl,i1,i2,c1⟩;have j5:=vv i1;have j6:=vv i2;have HX:=vv (HX.o.below c1);have HF:=vv (HF.o.below c1);have HN:=vv (HN.o.below c1);have HD:=vv (HD.o.below c1);have HB:=vn HB c1;clear c1 i1 i2 x0 x1 xl f0 f1 fl;go_wp2_with fail
 refine(g5.o _ g1 o1 g2 o2 j5.o j6.o).mono ?_;rintro e' w4 ⟨gm,rfl,j7,im,c2⟩;have a8:=vv im;have HX:=vv (HX.o.below c2);have HF:=vv (HF.o.below c2);have HN:=vv (HN.o.below c2);have HD:=vv (HD.o.below c2);have HB:=vn HB c2;clear c2 im j7;obtain⟨fl,i0⟩:=yx (q5B (G+1) F neg mode a b);have i5:=vv i0;clear i0;go_upto_if 51 with fail
 go_cut [13,14,17,18,19] from 52 (fun s13 s14 s17 s18 s19 wx=>s17=.int .u8 (fl:Int)/\IntAt wx gm 0 (m:Int)/\FmAt wx (w.heap.size+1) ((G:Int)+1) F/\Below w.heap.size w wx)
 case first =>
  have a0:Hid (fl=if X%Y=0 then 0 else if q3w (G+1) F neg mode a b then 5 else 1):=vv (by rw[i5.o];unfold q5B;rw[j2.o]);cases same
  ·have c8:X%Y≠0:=of_decide_eq_false g6.o.symm;have a0:Hid (fl=if q3w (G+1) F neg mode a b then 5 else 1):=vv (by rw[a0.o,if_neg c8]);clear c8;by_cases hlt:e<1-B
   ·have dlt:decide (e<1-B)=true:=decide_eq_true hlt;obtain⟨x0,x1,xl⟩:=HX.o;have f1:=HF.o.c1;have fl0:=HF.o.lt;have q1:=j3.o;have j8:=vv hlt;clear hlt;go_wp2_with fail
    refine(g7.o _ HN.o HD.o).mono ?_;rintro e' w5 ⟨g3,o3,g4,o4,rfl,i3,i4,c9⟩;have j9:=vv i3;have k0:=vv i4;have a8:=vv (a8.o.below c9);have HX:=vv (HX.o.below c9);have HF:=vv (HF.o.below c9);have HB:=vn HB c9;clear c9 i3 i4 x0 x1 xl f1 fl0;go_wp2_with fail
    refine(c7.o _ g3 o3 g4 o4 j9.o k0.o).mono ?_;rintro e' w6 ⟨gk,rfl,k5,ik,d0⟩;have f2:=vv ik;have a8:=vv (a8.o.below d0);have HX:=vv (HX.o.below d0);have HF:=vv (HF.o.below d0);have HB:=vn HB d0;clear d0 ik k5;go_wp2_with fail
    have hu:q3w (G+1) F neg mode a b=(decide (e < -B) || decide (bl fk<=F+1)):=by unfold q3w;rw[<- g9.o,<- e4.o,decide_eq_true j8.o,g8.o];rfl
    have n3:bits BinOp.or IntKind.u8 1 4=5:=by decide
    by_cases hl2:e < -B
    ·have d1:Hid (fl=5):=vv (by rw[a0.o,hu,decide_eq_true hl2];rfl);have d2:decide (e < -B)=true:=decide_eq_true hl2;have k6:IntKind.i64.wrap (-B) = -B:=IntWalk.i64_in _ (by omega);clear hl2 hu;go_quiet (fail)
     go_wp2;go_meet
     case rel=>exact⟨by rw[d1.o];rfl,a8.o.like rfl,⟨HF.o.c0,HF.o.c1,HF.o.lt⟩,q0N HB.o _⟩
    ·have d2:decide (e < -B)=false:=decide_eq_false hl2;have HU:Hid (q3w (G+1) F neg mode a b=decide (bl fk<=F+1)):=vv (by rw[hu,decide_eq_false hl2];rfl);have k6:IntKind.i64.wrap (-B) = -B:=IntWalk.i64_in _ (by omega);clear hl2 hu;refine q01 (fun w'=>w'.cell? ⟨w.heap.size+1,1,none⟩=some (.int .i64 (F:Int))) 12
      (.still 0 (.still 1 (.still 2 (.still 3 (.still 4 (.still 5 (.still 7 (.still 8 (.still 9 (.one 6 (.still 10 (.still 11 .done)))))))))))) (by kernel_rfl) (by kernel_rfl) (fun _ _ d _ _ h=>by cases d<;>exact h) HF.o.c1 (fun hS0=>?_)
     obtain⟨wc,c3⟩:=yx (w6.drew);have f2:Hid (IntAt wc gk 0 (fk:Int)):=vv (by rw[c3];exact f2.o.drew);have a8:Hid (IntAt wc gm 0 (m:Int)):=vv (by rw[c3];exact a8.o.drew);have HF:Hid (FmAt wc (w.heap.size+1) ((G:Int)+1) F):=vv (by rw[c3];exact⟨HF.o.c0,HF.o.c1,HF.o.lt⟩);have HB:Hid (Below w.heap.size w wc):=vv (by rw[c3];exact q04 HB.o);rw[<- c3] at hS0 ⊢;clear c3;have f3:=vv (A.BitLen gk 0 (fk:Int) wc f2.o);rw[Int.natAbs_natCast] at f3;obtain⟨lk,i6⟩:=yx (bl fk);rw[<- i6] at f3 HU;have k7:Hid (IntKind.i64.wrap ((F:Int)+1)=(F:Int)+1):=vv (IntWalk.i64_in _ (by omega));clear i6
     iterate 9
      refine q00 (v:=?_) rfl (by rfl) ?_ ?_;rotate_left
      ·intro w b3;go_simp;with_reducible rfl
      simp only[Act.put,sa,sb,sc]
     refine q06 rfl (by rfl) (fun K hK=>?_);go_simp;refine f3.o.mono ?_;rintro e' w' ⟨rfl,rfl⟩;go_wp2_with fail
     refine hK.out _ _ HF.o.c1 (fun b2=>?_);clear hK
     try rw[k7.o]
     by_cases hb6:lk<=F+1
     ·have d1:Hid (fl=5):=vv (by rw[a0.o,HU.o,decide_eq_true hb6];rfl);have d6:decide ((lk:Int)<=(F:Int)+1)=true:=decide_eq_true (by omega);have d7:decide (lk<=F+1)=true:=decide_eq_true hb6;clear hb6
      iterate 2
       refine q00 (v:=?_) rfl (by rfl) ?_ ?_;rotate_left
       ·intro w b3;go_simp;with_reducible rfl
       simp only[Act.put,sa,sb,sc]
      refine q0L rfl ?_;clear b2 hS0;go_wp2;go_meet
      case rel=>exact⟨by rw[d1.o];rfl,a8.o,HF.o,HB.o⟩
     ·have d1:Hid (fl=1):=vv (by rw[a0.o,HU.o,decide_eq_false hb6];rfl);have d6:decide ((lk:Int)<=(F:Int)+1)=false:=decide_eq_false (by omega);have d7:decide (lk<=F+1)=false:=decide_eq_false hb6;clear hb6
      iterate 2
       refine q00 (v:=?_) rfl (by rfl) ?_ ?_;rotate_left
       ·intro w b3;go_simp;with_reducible rfl
       simp only[Act.put,sa,sb,sc]
      refine q0L rfl ?_;clear b2 hS0;go_wp2;go_meet
      case rel=>exact⟨by rw[d1.o];rfl,a8.o,HF.o,HB.o⟩
   ·have hu:q3w (G+1) F neg mode a b=false:=by unfold q3w;rw[<- g9.o,<- e4.o,decide_eq_false hlt];rfl
    have f4:Hid (fl=1):=vv (by rw[a0.o,hu];rfl);have dlt:decide (e<1-B)=false:=decide_eq_false hlt;clear hlt hu;go_wp2;go_meet
    case rel=>exact⟨by rw[f4.o];rfl,a8.o,HF.o,HB.o⟩
  ·have c8:X%Y=0:=of_decide_eq_true g6.o.symm;have f4:Hid (fl=0):=vv (by rw[a0.o,if_pos c8]);clear c8;go_wp2;go_meet
   case rel=>exact⟨by rw[f4.o];rfl,a8.o,HF.o,HB.o⟩
 case rest =>
  obtain⟨rfl,im,hf,hb⟩:=hcut;have a8:=vv im;have HF:=vv hf;have HB:=vv hb;clear im hf hb;go_wp2_with fail
  obtain⟨LB,n4⟩:∃l:Int,low+B=l:=⟨_,rfl⟩;obtain⟨tt,n5⟩:∃t:Nat,LB-1=(t:Int):=⟨(LB-1).toNat,by omega⟩;have f5:Hid (IntKind.i64.wrap LB=LB):=vv (IntWalk.i64_in _ (by omega));have k8:Hid (IntKind.i64.wrap (tt:Int)=(tt:Int)):=vv (IntWalk.i64_in _ (by omega));have k9:Hid (IntKind.u64.wrap (tt:Int)=(tt:Int)):=vv (by rw[IntKind.wrap_u64];omega);obtain⟨W,hW⟩:∃W:Int,IntKind.u64.wrap ((tt:Int)*2^F)=W:=⟨_,rfl⟩;obtain⟨S,hS⟩:∃S:Int,IntKind.u64.wrap ((m:Int)+W)=S:=⟨_,rfl⟩;have l0:=vv hW;have l3:=vv hS;have b9:m<18446744073709551616:=by
   have h1:=q70 (E:=G+1) (F:=F) (neg:=neg) (mode:=mode) ha hb0;rw[e0.o] at h1;have h2:2^(F+1)<=2^53:=Nat.pow_le_pow_right (by omega) (by omega);omega
  have l4:=vv fun w' (h:IntAt w' gm 0 (m:Int))=>A.Uint64 gm 0 (m:Int) w' h (by rw[Int.natAbs_natCast];exact b9)
  have l5:=vv b9;clear b9;refine q01 (fun w'=>w'.cell? ⟨w.heap.size+1,1,none⟩=some (.int .i64 (F:Int))) 11
   (.still 0 (.still 2 (.still 3 (.still 4 (.still 5 (.still 6 (.still 7 (.still 8 (.still 9 (.one 1 (.still 10 .done))))))))))) (by kernel_rfl) (by kernel_rfl) (fun _ _ d _ _ h=>by cases d<;>exact h) HF.o.c1 (fun hS0=>?_)
  iterate 4
   refine q00 (v:=?_) rfl (by rfl) ?_ ?_;rotate_left
   ·intro w b3;go_simp;with_reducible rfl
   simp only[Act.put,sa,sb,sc]
  rw[f5.o]
  iterate 1
   refine q00 (v:=?_) rfl (by rfl) ?_ ?_;rotate_left
   ·intro w b3;go_simp;with_reducible rfl
   simp only[Act.put,sa,sb,sc]
  rw[k8.o]
  iterate 1
   refine q00 (v:=?_) rfl (by rfl) ?_ ?_;rotate_left
   ·intro w b3;go_simp;with_reducible rfl
   simp only[Act.put,sa,sb,sc]
  rw[k9.o]
  iterate 3
   refine q00 (v:=?_) rfl (by rfl) ?_ ?_;rotate_left
   ·intro w b3;go_simp;with_reducible rfl
   simp only[Act.put,sa,sb,sc]
  obtain⟨wd,d3⟩:=yx (wc.drew);have a8:Hid (IntAt wd gm 0 (m:Int)):=vv (by rw[d3];exact a8.o.drew);have HF:Hid (FmAt wd (w.heap.size+1) ((G:Int)+1) F):=vv (by rw[d3];exact⟨HF.o.c0,HF.o.c1,HF.o.lt⟩);have HB:Hid (Below w.heap.size w wd):=vv (by rw[d3];exact q04 HB.o);rw[<- d3];clear d3 hS0;refine q06 rfl (by rfl) (fun K hK=>?_);go_simp;refine(l4.o _ a8.o).mono ?_;rintro e' w' ⟨rfl,rfl⟩;rw[Int.natAbs_natCast];go_wp2_with fail
  refine hK.out _ _ HF.o.c1 (fun b2=>?_);clear hK
  iterate 1
   refine q00 (v:=?_) rfl (by rfl) ?_ ?_;rotate_left
   ·intro w b3;go_simp;with_reducible rfl
   simp only[Act.put,sa,sb,sc]
  refine q0d ?_;clear b2;go_wp2_with fail
  obtain⟨EF,d4⟩:∃n:Nat,n=G+1+F:=⟨_,rfl⟩;have n6:(G:Int)+1+(F:Int)=(EF:Int):=by omega
  have f6:Hid (IntKind.i64.wrap (EF:Int)=(EF:Int)):=vv (IntWalk.i64_in _ (by omega));have l6:(EF:Int)<=63:=by omega
  obtain⟨P,hP⟩:∃P:Nat,P=R3.tw EF:=⟨_,rfl⟩;obtain⟨Q,hQ⟩:∃Q:Nat,Q=R3.tw F:=⟨_,rfl⟩;have l7:P<=9223372036854775808:=by rw[hP];exact Nat.le_trans (R3.tw_le (j:=EF) (k:=63) (by omega)) (by decide)
  have l8:Q<=P:=by rw[hP,hQ];exact R3.tw_le (by omega)
  have l9:Hid (IntKind.u64.wrap ((2:Int)^EF)=(P:Int)):=vv (by
   have e:((2:Int)^EF)=(P:Int):=by rw[hP];unfold R3.tw;rw[Int.natCast_pow];rfl
   rw[e,IntKind.wrap_u64];omega)
  have m0:Hid (IntKind.u64.wrap ((2:Int)^F)=(Q:Int)):=vv (by
   have e:((2:Int)^F)=(Q:Int):=by rw[hQ];unfold R3.tw;rw[Int.natCast_pow];rfl
   rw[e,IntKind.wrap_u64];omega)
  obtain⟨I,hI⟩:∃I:Nat,I=P-Q:=⟨_,rfl⟩;have m1:Hid (IntKind.u64.wrap ((P:Int)-(Q:Int))=(I:Int)):=vv (by rw[IntKind.wrap_u64];omega);have c0:Hid (q4c (G+1) F=I):=vv (by rw[hI,hP,hQ,d4];rfl);have a9:=vv (show 1<=I by
   have:Q*2<=P:=by rw[hP,hQ,<- R3.tw_succ];exact R3.tw_le (by omega)
   have:=R3.tw_pos F;omega)
  have n7:=vv hQ;have m2:=vv (show I<=9223372036854775808 by omega);clear d4 hP hQ l7 l8 hI;refine q01 (fun w'=>w'.cell? ⟨w.heap.size+1,0,none⟩=some (.int .i64 ((G:Int)+1))/\w'.cell? ⟨w.heap.size+1,1,none⟩=some (.int .i64 (F:Int))) 10
   (.still 0 (.still 1 (.still 2 (.still 3 (.still 4 (.still 5 (.still 6 (.still 7 (.still 8 (.still 9 .done)))))))))) (by kernel_rfl) (by kernel_rfl) (fun _ _ d _ _ h=>by cases d<;>exact h) ⟨HF.o.c0,HF.o.c1⟩ (fun hS0=>?_)
  iterate 5
   refine q00 (v:=?_) rfl (by rfl) ?_ ?_;rotate_left
   ·intro w b3;go_simp;with_reducible rfl
   simp only[Act.put,sa,sb,sc]
  rw[f6.o]
  iterate 1
   refine q00 (v:=?_) rfl (by rfl) ?_ ?_;rotate_left
   ·intro w b3;go_simp;with_reducible rfl
   simp only[Act.put,sa,sb,sc]
  rw[l9.o]
  iterate 3
   refine q00 (v:=?_) rfl (by rfl) ?_ ?_;rotate_left
   ·intro w b3;go_simp;with_reducible rfl
   simp only[Act.put,sa,sb,sc]
  rw[m0.o]
  iterate 1
   refine q00 (v:=?_) rfl (by rfl) ?_ ?_;rotate_left
   ·intro w b3;go_simp;with_reducible rfl
   simp only[Act.put,sa,sb,sc]
  rw[m1.o];refine q0d ?_;clear hS0;have b0:over (G+1) F neg mode a b=(decide (B<low) || decide (I<=q4G (G+1) F neg mode a b)):=by
   unfold over;rw[c0.o,<- e4.o,c4.o]
  have i7:Hid ((I:Int)<=9223372036854775808/\(1:Int)<=(I:Int)):=vv (by have:=m2.o;have:=a9.o;omega);have m3:=i7.o.1;have m4:=i7.o.2;by_cases hlow2:B<low
  ·have b7:over (G+1) F neg mode a b=true:=by rw[b0,decide_eq_true hlow2];rfl
   have d8:decide (B<low)=true:=decide_eq_true hlow2;clear b0 hlow2;have HO:Hid (out (G+1) F neg mode a b=(if q1u neg mode then I-1 else I,3)):=vv (by unfold out;rw[b7,if_pos rfl,c0.o]);clear b7;rcases(by omega:mode=0\/mode=1\/mode=2\/mode=3\/mode=4) with rfl|rfl|rfl|rfl|rfl
   ·go_wp2;go_ret2
    rw[HO.o];exact⟨q4U (by simp [q1u]) rfl,q04 HB.o⟩
   ·go_wp2;go_ret2
    rw[HO.o];exact⟨q4U (by simp [q1u]) rfl,q04 HB.o⟩
   ·go_wp2;go_ret2
    rw[HO.o];exact⟨q4U (by have:=a9.o;simp [q1u];omega) rfl,q04 HB.o⟩
   ·cases neg
    ·go_wp2;go_ret2
     rw[HO.o];exact⟨q4U (by simp [q1u]) rfl,q04 HB.o⟩
    ·go_wp2;go_ret2
     rw[HO.o];exact⟨q4U (by have:=a9.o;simp [q1u];omega) rfl,q04 HB.o⟩
   ·cases neg
    ·go_wp2;go_ret2
     rw[HO.o];exact⟨q4U (by have:=a9.o;simp [q1u];omega) rfl,q04 HB.o⟩
    ·go_wp2;go_ret2
     rw[HO.o];exact⟨q4U (by simp [q1u]) rfl,q04 HB.o⟩
  ·have d8:decide (B<low)=false:=decide_eq_false hlow2;obtain⟨bt,f7⟩:∃n:Nat,n=m+tt*2^F:=⟨_,rfl⟩;have f8:q4G (G+1) F neg mode a b=bt:=by
    unfold q4G;rw[e0.o,c4.o,<- e4.o,f7,show low+B-1=(tt:Int) by omega,Int.toNat_natCast]
   have m5:tt*2^F<=9223372036854775808:=by
    have a1:(tt:Int)+1<=2*B:=by omega
    have a2:(2:Int)^G=((2^G:Nat):Int):=by rw[Int.natCast_pow];rfl
    have a3:=j4.o;rw[a2] at a3;have a4:tt<=2^G*2:=by omega
    have a5:tt*2^F<=2^G*2*2^F:=Nat.mul_le_mul_right _ a4;have a6:2^G*2*2^F=2^(G+1+F):=by rw[Nat.pow_add,Nat.pow_succ]
    have a7:2^(G+1+F)<=2^63:=Nat.pow_le_pow_right (by omega) (by omega);omega
   have m6:m<=9007199254740992:=by
    have h1:=q70 (E:=G+1) (F:=F) (neg:=neg) (mode:=mode) ha hb0;rw[e0.o] at h1;have h2:2^(F+1)<=2^53:=Nat.pow_le_pow_right (by omega) (by omega);omega
   have i8:W=((tt*2^F:Nat):Int):=by rw[<- l0.o];exact q2f tt F (by omega)
   have m7:S=(bt:Int):=by
    rw[<- l3.o,i8,f7,IntKind.wrap_u64];omega
   have m8:(bt:Int)<=9232379236109516800:=by omega
   rw[f8] at b0;have m9:=vv f8;clear hW hS i8 f8 f7 m5 m6 hlow2;subst m7;by_cases hge:I<=bt
   ·have b7:over (G+1) F neg mode a b=true:=by rw[b0,decide_eq_true hge];simp
    have d9:decide ((I:Int)<=(bt:Int))=true:=decide_eq_true (by omega);have d10:decide (I<=bt)=true:=decide_eq_true hge;clear b0 hge;have HO:Hid (out (G+1) F neg mode a b=(if q1u neg mode then I-1 else I,3)):=vv (by unfold out;rw[b7,if_pos rfl,c0.o]);clear b7;rcases(by omega:mode=0\/mode=1\/mode=2\/mode=3\/mode=4) with rfl|rfl|rfl|rfl|rfl
    ·go_wp2;go_ret2
     rw[HO.o];exact⟨q4U (by simp [q1u]) rfl,q04 HB.o⟩
    ·go_wp2;go_ret2
     rw[HO.o];exact⟨q4U (by simp [q1u]) rfl,q04 HB.o⟩
    ·go_wp2;go_ret2
     rw[HO.o];exact⟨q4U (by have:=a9.o;simp [q1u];omega) rfl,q04 HB.o⟩
    ·cases neg
     ·go_wp2;go_ret2
      rw[HO.o];exact⟨q4U (by simp [q1u]) rfl,q04 HB.o⟩
     ·go_wp2;go_ret2
      rw[HO.o];exact⟨q4U (by have:=a9.o;simp [q1u];omega) rfl,q04 HB.o⟩
    ·cases neg
     ·go_wp2;go_ret2
      rw[HO.o];exact⟨q4U (by have:=a9.o;simp [q1u];omega) rfl,q04 HB.o⟩
     ·go_wp2;go_ret2
      rw[HO.o];exact⟨q4U (by simp [q1u]) rfl,q04 HB.o⟩
   ·have b7:over (G+1) F neg mode a b=false:=by rw[b0,d8,decide_eq_false hge];rfl
    have d9:decide ((I:Int)<=(bt:Int))=false:=decide_eq_false (by omega);have d10:decide (I<=bt)=false:=decide_eq_false hge;have HO:Hid (out (G+1) F neg mode a b=(bt,fl)):=vv (by unfold out;rw[b7,m9.o,<- i5.o];rfl);clear b0 hge b7;go_wp2;go_ret2
    rw[HO.o];exact⟨q4U (by simp) rfl,q04 HB.o⟩
theorem qaO(E F:Nat)(neg:Bool)(mode a b:Nat):(out E F neg mode a b).1<=q4c E F:=by
 unfold out;cases h:over E F neg mode a b
 ·rw[if_neg (by decide)];unfold over at h;simp only[Bool.or_eq_false_iff,decide_eq_false_iff_not] at h;show q4G E F neg mode a b<=q4c E F;omega
 ·rw[if_pos rfl];show(if q1u neg mode then q4c E F-1 else q4c E F)<=q4c E F;split<;>omega
theorem q8X(gn on gd od a b G F:Nat)(below neg:Bool)(mode:Nat)(w:World)(hn:IntAt w gn on (a:Int))(hd:IntAt w gd od (b:Int))(hb0:0<b)(sa:Sm a)(sb:Sm b)(g1:1<=G)(g2:G<=10)(h3:1<=F)(h4:F<=52)(hm:mode<=4):
  Calls Tryz.prog 55 #[fm ((G:Int)+1) F,q5Y gn on gd od,.bool below,.bool neg,.int .u8 (mode:Int)] w (q2e (q0k (G+1) F below neg mode a b) w):=by
 obtain⟨EF,a0⟩:∃n:Nat,n=G+1+F:=⟨_,rfl⟩;have c0:(G:Int)+1+(F:Int)=(EF:Int):=by omega
 have b5:(EF:Int)<=63:=by omega
 obtain⟨P,hP⟩:∃P:Nat,P=R3.tw EF:=⟨_,rfl⟩;have a8:P<=9223372036854775808:=by rw[hP];exact Nat.le_trans (R3.tw_le (j:=EF) (k:=63) (by omega)) (by decide)
 have c1:IntKind.u64.wrap ((2:Int)^EF)=(P:Int):=by
  have e:((2:Int)^EF)=(P:Int):=by rw[hP];unfold R3.tw;rw[Int.natCast_pow];rfl
  rw[e,IntKind.wrap_u64];omega
 have a2:∀n,sgb (G+1) F n=if n then P else 0:=fun n=>by unfold sgb;rw[hP,a0];rfl
 have c2:=vv a2;have o0:=(Below.refl w.heap.size w).alloc (o:=.cells #[.int .i64 ((G:Int)+1),.int .i64 (F:Int)] 23) lr;have f0:=FmAt.made w ((G:Int)+1) (F:Int) 23;obtain⟨w0,a3⟩:=yx (w.alloc (.cells #[.int .i64 ((G:Int)+1),.int .i64 (F:Int)] 23));rw[<- a3] at o0 f0;have s0:w0.heap.size=w.heap.size+1:=by rw[a3];simp
 have o1:=(Below.refl w0.heap.size w0).alloc (o:=.cells #[.pointer (some ⟨gn,on,none⟩),.pointer (some ⟨gd,od,none⟩)] 101) lr;have x1:=NbBox.made w0 gn on gd od 101;obtain⟨w1,a5⟩:=yx (w0.alloc (.cells #[.pointer (some ⟨gn,on,none⟩),.pointer (some ⟨gd,od,none⟩)] 101));rw[<- a5] at o1 x1;rw[s0] at x1;have b1:Below w.heap.size w w1:=o0.trans (o1.mono (by omega));have a1:=f0.below o1;have HX:=vv x1;have HF:=vv a1;have HB:=vv b1;have a6:=hn.below b1;have a9:=hd.below b1;have HN:=vv a6;have HD:=vv a9;have b0:=vv (A.Sign gn on (a:Int) w1 a6);have b2:Hid (w1=(w.alloc (.cells #[.int .i64 ((G:Int)+1),.int .i64 (F:Int)] 23)).alloc (.cells #[.pointer (some ⟨gn,on,none⟩),.pointer (some ⟨gd,od,none⟩)] 101)):=vv (by rw[a5,a3]);have k0:=a1.c0;have k1:=a1.c1;have kl:=a1.lt;have k2:=x1.c0;have k3:=x1.c1;have kl2:=x1.lt;have c3:(G:Int)<=10:=by omega
 have c4:(F:Int)<=52:=by omega
 have b6:=vv a8;rcases Nat.eq_zero_or_pos a with ha|ha
 ·have HS:Hid (q0k (G+1) F below neg mode a b=(if neg then P else 0,0)):=vv (by unfold q0k;rw[if_pos ha,a2]);have ts:((a:Int).sign==0)=true:=by rw[ha];rfl
  clear o0 f0 a3 s0 o1 x1 a5 b1 a1 hn hd a6 a9 a2 a0 hP a8 ha sa sb;cases neg
  ·go_enter Tryz.func55,Tryz.ntmps55
   go_wp2_with fail
   rw[<- b2.o];refine b0.o.mono ?_;rintro e' w' ⟨rfl,rfl⟩;go_wp2;go_ret3
   rw[HS.o];exact⟨rfl,HB.o⟩
  ·go_enter Tryz.func55,Tryz.ntmps55
   go_wp2_with fail
   rw[<- b2.o];refine b0.o.mono ?_;rintro e' w' ⟨rfl,rfl⟩;go_wp2;go_ret3
   rw[HS.o];exact⟨rfl,HB.o⟩
 ·have HS:Hid (q0k (G+1) F below neg mode a b=((if below then P else 0)+(out (G+1) F below mode a b).1,(out (G+1) F below mode a b).2)):=vv (by unfold q0k;rw[if_neg (by omega),a2]);have ts:((a:Int).sign==0)=false:=by rw[Int.sign_eq_one_of_pos (by omega)];rfl
  have a7:=qaO (G+1) F below mode a b;have a4:q4c (G+1) F<P:=by
   unfold q4c;rw[hP,a0];have e1:=Nat.two_pow_pos (G+1+F);have e2:=Nat.two_pow_pos F;show 2^(G+1+F)-2^F<2^(G+1+F);omega
  have b3:=vv fun w' (h:IntAt w' gn on (a:Int)) (h':IntAt w' gd od (b:Int))=>qas gn on gd od a b G F below mode w' h h' ha hb0 sa sb g1 g2 h3 h4 hm
  obtain⟨O,hO⟩:=yx (out (G+1) F below mode a b);rw[<- hO] at b3 HS a7;obtain⟨o1v,o2v⟩:=O;have b7:Hid (bits .or .u64 (o1v:Int) (P:Int)=((P+o1v:Nat):Int)):=vv (by
   have b8:o1v<2^EF:=by have:P=2^EF:=hP;rw[<- this];exact Nat.lt_of_le_of_lt a7 a4
   have b9:P=2^EF:=hP;have c5:o1v<P:=by omega
   rw[u64_or_nat _ _ (by omega) (by omega),Nat.or_comm];have h:=Nat.two_pow_add_eq_or_of_lt (i:=EF) (b:=o1v) b8 1;rw[Nat.mul_one,<- b9] at h;rw[<- h])
  have c6:(o1v:Int)<=9223372036854775808:=by have h9:o1v<=q4c (G+1) F:=a7;omega
  clear o0 f0 a3 s0 o1 x1 a5 b1 a1 hn hd a6 a9 a2 a0 hP a8 ha sa sb a7 a4 hO;go_enter Tryz.func55,Tryz.ntmps55
  go_wp2_with fail
  rw[<- b2.o];refine b0.o.mono ?_;rintro e' w' ⟨rfl,rfl⟩;go_wp2_with fail
  refine(b3.o _ HN.o HD.o).mono ?_;rintro e' w2 ⟨rfl,b4⟩;have HB:=vn HB b4;clear b4;cases below
  ·go_wp2;go_ret3
   rw[HS.o];exact⟨by simp,HB.o⟩
  ·go_wp2;go_ret3
   rw[HS.o];exact⟨by simp [b7.o],HB.o⟩
end Go.Proofs.YtcdimmblnbkjjaaGreatDoor.Rnd
namespace Go.Proofs.YtcdimmblnbkjjaaGreatDoor
open Go Go.RowKit
theorem IntAt.setPtr{w:World}{g o gb j:Nat}{v:Int}{p:Option Addr}(h:IntAt w g o v)(hp:w.cell? ⟨gb,0,none⟩=some (.pointer p))(u:Value):IntAt (w.setCell ⟨gb,j,none⟩ u) g o v:=by
 have a0:gb≠g:=by
  intro e;subst e;obtain⟨x,hx⟩:=h.head;rw[hp] at hx;cases hx
 have hc:∀i,(w.setCell ⟨gb,j,none⟩ u).cell? ⟨g,i,none⟩=w.cell? ⟨g,i,none⟩:=fun i=>q0i (fun e=>by injection e with e1;exact a0 e1)
 obtain⟨A,n,c,h0,h1,hr,hz⟩:=h.ex;refine⟨by simpa [World.setCell] using h.lt,?_,fun i=>?_,A,n,c,(hc _).trans h0,(hc _).trans h1,⟨hr.len,hr.le,hr.sm,hr.lim,fun hn=>?_⟩,hz⟩
 ·obtain⟨x,hx⟩:=h.head;exact⟨x,(hc _).trans hx⟩
 ·rw[<- h.fz i];exact q0R (p:=⟨g,i,none⟩) (Below.heap_setCell w ⟨gb,j,none⟩ u g (fun e=>a0 e.symm))
 ·obtain⟨b,off,e,hl,a1⟩:=hr.cell hn;have a2:off=0:=hz _ e;subst a2;have hb:gb≠b:=by
   intro e2;subst e2;have:=a1 0 hn;rw[hp] at this;cases this
  exact⟨b,0,e,by simpa [World.setCell] using hl,fun i hi=>(q0i (fun e=>by injection e with e1;exact hb e1)).trans (a1 i hi)⟩
namespace R5
theorem FmAt.belowLt{B:Nat}{w w':World}{g:Nat}{E F:Int}(h:FmAt w g E F)(hb:Below B w w')(hl:g<B):FmAt w' g E F:=
 ⟨(hb.cell (p:=⟨g,0,none⟩) hl).trans h.c0,(hb.cell (p:=⟨g,1,none⟩) hl).trans h.c1,Nat.lt_of_lt_of_le h.lt hb.size⟩
theorem DyadBox.belowLt{B:Nat}{w w':World}{g:Nat}{neg:Bool}{A:Option Addr}{n c:Nat}{e:Int}(h:DyadBox w g neg A n c e)(hb:Below B w w')(hl:g<B):DyadBox w' g neg A n c e:=
 ⟨(hb.cell (p:=⟨g,0,none⟩) hl).trans h.c0,(hb.cell (p:=⟨g,1,none⟩) hl).trans h.c1,(hb.cell (p:=⟨g,2,none⟩) hl).trans h.c2,Nat.lt_of_lt_of_le h.lt hb.size⟩
end R5
namespace Rnd
open Go.Proofs.YtcdimmblnbkjjaaGreatDoor.R5
theorem NbBox.set0{w:World}{g gn on gd od:Nat}(h:NbBox w g gn on gd od)(ga oa:Nat):NbBox (w.setCell ⟨g,0,none⟩ (.pointer (some ⟨ga,oa,none⟩))) g ga oa gd od:=
 ⟨q0u h.c0,(q0i (fun e=>by injection e with _ e;omega)).trans h.c1,by simpa [World.setCell] using h.lt⟩
theorem NbBox.set1{w:World}{g gn on gd od:Nat}(h:NbBox w g gn on gd od)(ga oa:Nat):NbBox (w.setCell ⟨g,1,none⟩ (.pointer (some ⟨ga,oa,none⟩))) g gn on ga oa:=
 ⟨(q0i (fun e=>by injection e with _ e;omega)).trans h.c0,q0u h.c1,by simpa [World.setCell] using h.lt⟩
theorem Dyadic(G F:Nat)(below neg:Bool)(mode:Nat)(Ad:Option Addr)(n c N:Nat)(x:Int)(w:World)(g1:1<=G)(g2:G<=10)(h3:1<=F)(h4:F<=52)(hm:mode<=4)
  (ha:Rd w Ad n c (toL N)) (hn:n<=16384) (hok:twoOk below n (toL N) x=true) (hx1:-4611686018427387904<=x) (hx2:x<=4611686018427387904) :
  Calls Tryz.prog 27 #[fm ((G:Int)+1) F,q7l below Ad n c x,.bool neg,.int .u8 (mode:Int)] w (q2e (q0k (G+1) F below neg mode (N*p2 x) (p2 (-x))) w):=by
 have e2:bl N<=524288:=by
  have k1:=q0o N;rw[ha.words,q38] at k1;have:=q1F k1;omega
 have eG:(((G+1:Nat):Int))=(G:Int)+1:=by omega
 have c6:=R3.chk_ok (Fms.formOk_in (E:=G+1) (F:=F) (by omega) (by omega) h3 h4);rw[eG] at c6;obtain⟨w0,b8⟩:=yx (w.alloc (.cells #[.int .i64 ((G:Int)+1),.int .i64 (F:Int)] 23));obtain⟨w1,c2⟩:=yx (w0.alloc (.cells #[.bool below,.slice Ad n c,.int .i64 x] 30));have c7:Below w.heap.size w w0:=by rw[b8];exact(Below.refl _ w).alloc lr _
 have c8:Below w0.heap.size w0 w1:=by rw[c2];exact(Below.refl _ w0).alloc lr _
 have d1:w0.heap.size=w.heap.size+1:=by rw[b8];simp
 have b9:FmAt w1 w.heap.size ((G:Int)+1) F:=(show FmAt w0 w.heap.size ((G:Int)+1) F by rw[b8];exact FmAt.made w _ _ _).below c8;have b6:DyadBox w1 (w.heap.size+1) below Ad n c x:=by rw[<- d1,c2];exact DyadBox.made w0 _ _ _ _ _ _
 have hB:Below w.heap.size w w1:=c7.trans (c8.mono c7.size);have a2:=vv b9;have HX:=vv b6;have HB:=vv hB;have e3:Hid (w1=(w.alloc (.cells #[.int .i64 ((G:Int)+1),.int .i64 (F:Int)] 23)).alloc (.cells #[.bool below,.slice Ad n c,.int .i64 x] 30)):=vv (by rw[c2,b8]);have d2:=vv fun w=>Fms.Check ((G:Int)+1) F w
 rw[c6] at d2;obtain⟨er,c9⟩:=yx (Exa.exaErr below n (toL N) x);have d3:=vv fun w' (h:Below w.heap.size w w')=>Exa.Check below Ad n c (toL N) x w' (ha.below h rfl)
 rw[<- c9] at d3;have ter:(er==0)=true:=by rw[c9,Exa.exaErr_zero];exact hok
 have e4:=vv fun w' (h:Below w.heap.size w w')=>q9P Ad n c N w' (ha.below h rfl) (by unfold Sz;omega)
 obtain⟨K,hK⟩:=yx (q3c x (bl N+1200));have e5:-16778717<=K/\K<=16778717:=by rw[hK];unfold q3c;omega
 have b7:=vv fun w=>qaT x (bl N) w hx1 hx2 (by omega)
 rw[<- hK] at b7;have e6:bl (p2 K)<=16778718:=by unfold Go.Proofs.YtcdimmblnbkjjaaGreatDoor.p2;rw[q9a];omega
 have e7:bl (p2 (-K))<=16778718:=by unfold Go.Proofs.YtcdimmblnbkjjaaGreatDoor.p2;rw[q9a];omega
 have e8:=q3q N (p2 K);have HT:=vv fun w' g g' (h:IntAt w' g 0 (N:Int)) (h':IntAt w' g' 0 1)=>q7U g 0 g' 0 N 1 K w' h h' (by unfold Sz;omega) (by unfold Sz;decide) (by omega) (by omega)
 rw[Nat.one_mul] at HT;obtain⟨X,hX⟩:=yx (N*p2 K);obtain⟨Y,hY⟩:=yx (p2 (-K));have d4:0<Y:=by rw[hY];exact q0I _
 have sX:Sm X:=by rw[hX];unfold Sm;omega
 have sY:Sm Y:=by rw[hY];unfold Sm;omega
 have hN:=q4k (E:=G+1) (F:=F) (N:=N) (below:=below) (neg:=neg) (mode:=mode) 1200 x (by omega) (by omega) h3 h4 (by omega);rw[<- hK,<- hX,<- hY] at hN;rw[<- hN];simp only[<- hX,<- hY] at HT;have d5:=vv fun w' g o g' o' (h:IntAt w' g o (X:Int)) (h':IntAt w' g' o' (Y:Int))=>q8X g o g' o' X Y G F below neg mode w' h h' d4 sX sY g1 g2 h3 h4 hm
 obtain⟨S,hS⟩:=yx (q0k (G+1) F below neg mode X Y);rw[<- hS] at d5 ⊢;have f3:(mode:Int)<=4:=by omega
 have dm:decide ((4:Int)<(mode:Int))=false:=decide_eq_false (by omega);have c0:=vv fun w' g (h:IntAt w' g 0 (N:Int))=>A.BitLen g 0 (N:Int) w' h
 simp only[Int.natAbs_natCast] at c0;obtain⟨b,hb⟩:=yx (bl N);rw[<- hb] at c0 b7;have f0:=b9.c0;have f1:=b9.c1;have r0:=b6.c0;have r1:=b6.c1;have r2:=b6.c2;have l0:=b9.lt;have l1:=b6.lt;clear ha hn hok hx1 hx2 e2 b8 c2 c7 c8 d1 b9 b6 hB hK e5 e6 e7 e8 hm c6 c9 hX hY d4 sX sY hN hS hb eG;go_enter Tryz.func27,Tryz.ntmps27
 go_wp2_with fail
 rw[<- e3.o];refine(d2.o _).mono ?_;rintro e w2 ⟨rfl,c3⟩;have a2:=vv (a2.o.below c3);have HX:=vv (HX.o.below c3);have HB:=vn HB c3;obtain⟨f0,f1,l0⟩:=a2.o;obtain⟨r0,r1,r2,l1⟩:=HX.o;clear c3;go_wp2_with fail
 refine(d3.o _ HB.o).mono ?_;rintro e w3 ⟨rfl,c4⟩;have a2:=vv (a2.o.below c4);have HX:=vv (HX.o.below c4);have HB:=vn HB c4;obtain⟨f0,f1,l0⟩:=a2.o;obtain⟨r0,r1,r2,l1⟩:=HX.o;clear c4;go_wp2_with fail
 refine(e4.o _ HB.o).mono ?_;rintro e w4 ⟨gN,rfl,f4,d6,c5⟩;have a2:=vv (a2.o.below c5);have HX:=vv (HX.o.below c5);have HB:=vn HB c5;have a9:=vv d6;clear c5 d6 f0 f1 l0 r0 r1 r2 l1;go_wp2_with fail
 refine(A.NewInt 1 _ (by decide) (by decide)).mono ?_;rintro e w5 ⟨gO,rfl,f5,d7,c1⟩;have a2:=vv (a2.o.below c1);have HX:=vv (HX.o.below c1);have HB:=vn HB c1;have a9:=vv (a9.o.below c1);have b0:=vv d7;have e9:=HX.o.lt;have o5:=(Below.refl w5.heap.size w5).alloc (o:=.cells #[.pointer (some ⟨gN,0,none⟩),.pointer (some ⟨gO,0,none⟩)] 101) lr;have x5:=NbBox.made w5 gN 0 gO 0 101;have z5:∀j,(w5.alloc (.cells #[.pointer (some ⟨gN,0,none⟩),.pointer (some ⟨gO,0,none⟩)] 101)).frozen? ⟨w5.heap.size,j,none⟩=false:=fun j=>by simp only[World.frozen?];rw[heap_alloc_new];simp
 obtain⟨w6,d0⟩:=yx (w5.alloc (.cells #[.pointer (some ⟨gN,0,none⟩),.pointer (some ⟨gO,0,none⟩)] 101));rw[<- d0] at o5 x5 z5;have d8:=vv d0;have a2:=vv (a2.o.below o5);have HX:=vv (HX.o.below o5);have a9:=vv (a9.o.below o5);have b0:=vv (b0.o.below o5);obtain⟨g,hg⟩:=yx (w5.heap.size);have d9:w.heap.size+1<g:=by omega
 rw[<- hg] at x5 z5;have a4:=vv z5;have HG:=vv hg;have a8:=vv d9;have a1:=vv x5;have HB:=vn HB o5;clear d0 o5 x5 z5 c1 d7 hg d9 e9;go_wp2_with fail
 rw[<- d8.o,<- HG.o];clear d8;refine q01 (fun w'=>w'.cell? ⟨w.heap.size+1,2,none⟩=some (.int .i64 x)) 15
  (.still 1 (.still 2 (.still 3 (.two 0 (.one 4 (.one 5 (.one 6 (.one 7 (.still 8 (.still 9 (.still 10 (.still 11 (.one 12 (.still 13 (.one 14 .done))))))))))) 4 (.two 0 (.one 5 (.one 6 (.one 7 (.still 8 (.still 9 (.still 10 (.still 11 (.one 12 (.still 13 (.one 14 .done)))))))))) 5 (.two 0 (.one 6 (.one 7 (.still 8 (.still 9 (.still 10 (.still 11 (.one 12 (.still 13 (.one 14 .done))))))))) 6 (.one 0 (.one 7 (.still 8 (.still 9 (.still 10 (.still 11 (.one 12 (.still 13 (.one 14 .done)))))))))))))))
  (by kernel_rfl) (by kernel_rfl) (fun _ _ d _ _ h=>by cases d<;>exact h) HX.o.c2 (fun hS0=>?_)
 have a2:Hid (FmAt w6.drew w.heap.size ((G:Int)+1) F):=vv (a2.o.below (q04 (Below.refl _ _)));have HX:Hid (DyadBox w6.drew (w.heap.size+1) below Ad n c x):=vv (HX.o.below (q04 (Below.refl _ _)));have a9:Hid (IntAt w6.drew gN 0 (N:Int)):=vv a9.o.drew;have b0:Hid (IntAt w6.drew gO 0 1):=vv b0.o.drew;have a1:Hid (NbBox w6.drew g gN 0 gO 0):=vv a1.o.drew;have a4:Hid (∀j,w6.drew.frozen? ⟨g,j,none⟩=false):=vv a4.o;have HB:Hid (Below w.heap.size w w6.drew):=vv (q04 HB.o);obtain⟨wc,e0⟩:=yx (w6.drew);rw[<- e0] at a2 HX a9 b0 a1 a4 HB hS0 ⊢;clear e0;obtain⟨x0,x1,xl⟩:=a1.o
 iterate 3
  refine q00 (v:=?_) rfl (by rfl) ?_ ?_;rotate_left
  ·intro w b5;go_simp;with_reducible rfl
  simp only[Act.put,sa,sb,sc]
 refine q28 rfl (by rfl) rfl (by rfl) (fun K hK=>?_) (fun K hK=>?_)
 focus
  go_simp;refine hK.out _ _ HX.o.c2 (fun a0=>?_);clear hK;refine q06 rfl (by rfl) (fun K hK=>?_);go_simp;refine hK.out _ _ HX.o.c2 (fun a0=>?_);clear hK;refine q06 rfl (by rfl) (fun K hK=>?_);go_simp;refine(c0.o _ gN a9.o).mono ?_;rintro e w' ⟨rfl,rfl⟩;go_wp2_with fail
  refine hK.out _ _ HX.o.c2 (fun a0=>?_);clear hK;refine q06 rfl (by rfl) (fun K hK=>?_);go_simp;refine(b7.o _).mono ?_;rintro e w' ⟨rfl,rfl⟩;go_wp2_with fail
  refine hK.out _ _ HX.o.c2 (fun a0=>?_);clear hK;refine q06 rfl (by rfl) (fun K hK=>?_);go_simp;refine(HT.o _ gN gO a9.o b0.o).mono ?_;rintro e wn ⟨ga,oa,gb,ob,rfl,b1,b2,a7⟩;have a2:=vv (a2.o.below a7);have HX:=vv (HX.o.below a7);have a4:Hid (∀j,wn.frozen? ⟨g,j,none⟩=false):=vv (fun j=>(a7.frozen (p:=⟨g,j,none⟩) a1.o.lt).trans (a4.o j));have a1:=vv (a1.o.below a7);have HB:=vn HB a7;have a5:=vv b1;have a6:=vv b2;obtain⟨x0,x1,xl⟩:=a1.o;clear b1 b2 a7 a9 b0;go_wp2_with fail
  refine hK.out _ _ HX.o.c2 (fun a0=>?_);clear hK
  iterate 4
   refine q00 (v:=?_) rfl (by rfl) ?_ ?_;rotate_left
   ·intro w b5;go_simp;with_reducible rfl
   simp only[Act.put,sa,sb,sc]
  refine q06 rfl (by rfl) (fun K hK=>?_);have fz0:=a4.o 0;go_simp;have a4:Hid (∀j,(wn.setCell ⟨g,0,none⟩ (.pointer (some ⟨ga,oa,none⟩))).frozen? ⟨g,j,none⟩=false):=vv (fun j=>(World.frozen?_setCell _ _ _ _).trans (a4.o j));have a5:=vv (a5.o.setPtr (j:=0) a1.o.c0 (.pointer (some ⟨ga,oa,none⟩)));have a6:=vv (a6.o.setPtr (j:=0) a1.o.c0 (.pointer (some ⟨ga,oa,none⟩)));have a3:Below g wn (wn.setCell ⟨g,0,none⟩ (.pointer (some ⟨ga,oa,none⟩))):=(Below.refl g wn).setCell (p:=⟨g,0,none⟩) lr _;have a2:=vv (a2.o.belowLt a3 (by have:=a8.o;omega));have HX:=vv (HX.o.belowLt a3 (by have:=a8.o;omega));have HB:=vv (HB.o.trans (a3.mono (by have:=a8.o;omega)));have a1:=vv (a1.o.set0 ga oa);obtain⟨wm,b3⟩:=yx (wn.setCell ⟨g,0,none⟩ (.pointer (some ⟨ga,oa,none⟩)));rw[<- b3] at a4 a5 a6 a2 HX HB a1 ⊢;clear b3 a3 fz0;obtain⟨x0,x1,xl⟩:=a1.o;refine hK.out _ _ HX.o.c2 (fun a0=>?_);clear hK
  iterate 1
   refine q00 (v:=?_) rfl (by rfl) ?_ ?_;rotate_left
   ·intro w b5;go_simp;with_reducible rfl
   simp only[Act.put,sa,sb,sc]
  refine q06 rfl (by rfl) (fun K hK=>?_);have fz1:=a4.o 1;go_simp;have a5:=vv (a5.o.setPtr (j:=1) a1.o.c0 (.pointer (some ⟨gb,ob,none⟩)));have a6:=vv (a6.o.setPtr (j:=1) a1.o.c0 (.pointer (some ⟨gb,ob,none⟩)));have a3:Below g wm (wm.setCell ⟨g,1,none⟩ (.pointer (some ⟨gb,ob,none⟩))):=(Below.refl g wm).setCell (p:=⟨g,1,none⟩) lr _;have a2:=vv (a2.o.belowLt a3 (by have:=a8.o;omega));have HX:=vv (HX.o.belowLt a3 (by have:=a8.o;omega));have HB:=vv (HB.o.trans (a3.mono (by have:=a8.o;omega)));have a1:=vv (a1.o.set1 gb ob);obtain⟨wl,b4⟩:=yx (wm.setCell ⟨g,1,none⟩ (.pointer (some ⟨gb,ob,none⟩)));rw[<- b4] at a5 a6 a2 HX HB a1 ⊢;clear b4 a3 fz1;refine hK.out _ _ HX.o.c2 (fun a0=>?_);clear hK
 rotate_left 1
 focus
  go_simp;refine hK.out _ _ HX.o.c2 (fun a0=>?_);clear hK;refine q28 rfl (by rfl) rfl (by rfl) (fun K hK=>?_) (fun K hK=>?_)
  focus
   go_simp;refine hK.out _ _ HX.o.c2 (fun a0=>?_);clear hK;refine q06 rfl (by rfl) (fun K hK=>?_);go_simp;refine(c0.o _ gN a9.o).mono ?_;rintro e w' ⟨rfl,rfl⟩;go_wp2_with fail
   refine hK.out _ _ HX.o.c2 (fun a0=>?_);clear hK;refine q06 rfl (by rfl) (fun K hK=>?_);go_simp;refine(b7.o _).mono ?_;rintro e w' ⟨rfl,rfl⟩;go_wp2_with fail
   refine hK.out _ _ HX.o.c2 (fun a0=>?_);clear hK;refine q06 rfl (by rfl) (fun K hK=>?_);go_simp;refine(HT.o _ gN gO a9.o b0.o).mono ?_;rintro e wn ⟨ga,oa,gb,ob,rfl,b1,b2,a7⟩;have a2:=vv (a2.o.below a7);have HX:=vv (HX.o.below a7);have a4:Hid (∀j,wn.frozen? ⟨g,j,none⟩=false):=vv (fun j=>(a7.frozen (p:=⟨g,j,none⟩) a1.o.lt).trans (a4.o j));have a1:=vv (a1.o.below a7);have HB:=vn HB a7;have a5:=vv b1;have a6:=vv b2;obtain⟨x0,x1,xl⟩:=a1.o;clear b1 b2 a7 a9 b0;go_wp2_with fail
   refine hK.out _ _ HX.o.c2 (fun a0=>?_);clear hK
   iterate 4
    refine q00 (v:=?_) rfl (by rfl) ?_ ?_;rotate_left
    ·intro w b5;go_simp;with_reducible rfl
    simp only[Act.put,sa,sb,sc]
   refine q06 rfl (by rfl) (fun K hK=>?_);have fz0:=a4.o 0;go_simp;have a4:Hid (∀j,(wn.setCell ⟨g,0,none⟩ (.pointer (some ⟨ga,oa,none⟩))).frozen? ⟨g,j,none⟩=false):=vv (fun j=>(World.frozen?_setCell _ _ _ _).trans (a4.o j));have a5:=vv (a5.o.setPtr (j:=0) a1.o.c0 (.pointer (some ⟨ga,oa,none⟩)));have a6:=vv (a6.o.setPtr (j:=0) a1.o.c0 (.pointer (some ⟨ga,oa,none⟩)));have a3:Below g wn (wn.setCell ⟨g,0,none⟩ (.pointer (some ⟨ga,oa,none⟩))):=(Below.refl g wn).setCell (p:=⟨g,0,none⟩) lr _;have a2:=vv (a2.o.belowLt a3 (by have:=a8.o;omega));have HX:=vv (HX.o.belowLt a3 (by have:=a8.o;omega));have HB:=vv (HB.o.trans (a3.mono (by have:=a8.o;omega)));have a1:=vv (a1.o.set0 ga oa);obtain⟨wm,b3⟩:=yx (wn.setCell ⟨g,0,none⟩ (.pointer (some ⟨ga,oa,none⟩)));rw[<- b3] at a4 a5 a6 a2 HX HB a1 ⊢;clear b3 a3 fz0;obtain⟨x0,x1,xl⟩:=a1.o;refine hK.out _ _ HX.o.c2 (fun a0=>?_);clear hK
   iterate 1
    refine q00 (v:=?_) rfl (by rfl) ?_ ?_;rotate_left
    ·intro w b5;go_simp;with_reducible rfl
    simp only[Act.put,sa,sb,sc]
   refine q06 rfl (by rfl) (fun K hK=>?_);have fz1:=a4.o 1;go_simp;have a5:=vv (a5.o.setPtr (j:=1) a1.o.c0 (.pointer (some ⟨gb,ob,none⟩)));have a6:=vv (a6.o.setPtr (j:=1) a1.o.c0 (.pointer (some ⟨gb,ob,none⟩)));have a3:Below g wm (wm.setCell ⟨g,1,none⟩ (.pointer (some ⟨gb,ob,none⟩))):=(Below.refl g wm).setCell (p:=⟨g,1,none⟩) lr _;have a2:=vv (a2.o.belowLt a3 (by have:=a8.o;omega));have HX:=vv (HX.o.belowLt a3 (by have:=a8.o;omega));have HB:=vv (HB.o.trans (a3.mono (by have:=a8.o;omega)));have a1:=vv (a1.o.set1 gb ob);obtain⟨wl,b4⟩:=yx (wm.setCell ⟨g,1,none⟩ (.pointer (some ⟨gb,ob,none⟩)));rw[<- b4] at a5 a6 a2 HX HB a1 ⊢;clear b4 a3 fz1;refine hK.out _ _ HX.o.c2 (fun a0=>?_);clear hK
  rotate_left 1
  focus
   go_simp;refine(c0.o _ gN a9.o).mono ?_;rintro e w' ⟨rfl,rfl⟩;go_wp2_with fail
   refine hK.out _ _ HX.o.c2 (fun a0=>?_);clear hK;refine q28 rfl (by rfl) rfl (by rfl) (fun K hK=>?_) (fun K hK=>?_)
   focus
    go_simp;refine hK.out _ _ HX.o.c2 (fun a0=>?_);clear hK;refine q06 rfl (by rfl) (fun K hK=>?_);go_simp;refine(b7.o _).mono ?_;rintro e w' ⟨rfl,rfl⟩;go_wp2_with fail
    refine hK.out _ _ HX.o.c2 (fun a0=>?_);clear hK;refine q06 rfl (by rfl) (fun K hK=>?_);go_simp;refine(HT.o _ gN gO a9.o b0.o).mono ?_;rintro e wn ⟨ga,oa,gb,ob,rfl,b1,b2,a7⟩;have a2:=vv (a2.o.below a7);have HX:=vv (HX.o.below a7);have a4:Hid (∀j,wn.frozen? ⟨g,j,none⟩=false):=vv (fun j=>(a7.frozen (p:=⟨g,j,none⟩) a1.o.lt).trans (a4.o j));have a1:=vv (a1.o.below a7);have HB:=vn HB a7;have a5:=vv b1;have a6:=vv b2;obtain⟨x0,x1,xl⟩:=a1.o;clear b1 b2 a7 a9 b0;go_wp2_with fail
    refine hK.out _ _ HX.o.c2 (fun a0=>?_);clear hK
    iterate 4
     refine q00 (v:=?_) rfl (by rfl) ?_ ?_;rotate_left
     ·intro w b5;go_simp;with_reducible rfl
     simp only[Act.put,sa,sb,sc]
    refine q06 rfl (by rfl) (fun K hK=>?_);have fz0:=a4.o 0;go_simp;have a4:Hid (∀j,(wn.setCell ⟨g,0,none⟩ (.pointer (some ⟨ga,oa,none⟩))).frozen? ⟨g,j,none⟩=false):=vv (fun j=>(World.frozen?_setCell _ _ _ _).trans (a4.o j));have a5:=vv (a5.o.setPtr (j:=0) a1.o.c0 (.pointer (some ⟨ga,oa,none⟩)));have a6:=vv (a6.o.setPtr (j:=0) a1.o.c0 (.pointer (some ⟨ga,oa,none⟩)));have a3:Below g wn (wn.setCell ⟨g,0,none⟩ (.pointer (some ⟨ga,oa,none⟩))):=(Below.refl g wn).setCell (p:=⟨g,0,none⟩) lr _;have a2:=vv (a2.o.belowLt a3 (by have:=a8.o;omega));have HX:=vv (HX.o.belowLt a3 (by have:=a8.o;omega));have HB:=vv (HB.o.trans (a3.mono (by have:=a8.o;omega)));have a1:=vv (a1.o.set0 ga oa);obtain⟨wm,b3⟩:=yx (wn.setCell ⟨g,0,none⟩ (.pointer (some ⟨ga,oa,none⟩)));rw[<- b3] at a4 a5 a6 a2 HX HB a1 ⊢;clear b3 a3 fz0;obtain⟨x0,x1,xl⟩:=a1.o;refine hK.out _ _ HX.o.c2 (fun a0=>?_);clear hK
    iterate 1
     refine q00 (v:=?_) rfl (by rfl) ?_ ?_;rotate_left
     ·intro w b5;go_simp;with_reducible rfl
     simp only[Act.put,sa,sb,sc]
    refine q06 rfl (by rfl) (fun K hK=>?_);have fz1:=a4.o 1;go_simp;have a5:=vv (a5.o.setPtr (j:=1) a1.o.c0 (.pointer (some ⟨gb,ob,none⟩)));have a6:=vv (a6.o.setPtr (j:=1) a1.o.c0 (.pointer (some ⟨gb,ob,none⟩)));have a3:Below g wm (wm.setCell ⟨g,1,none⟩ (.pointer (some ⟨gb,ob,none⟩))):=(Below.refl g wm).setCell (p:=⟨g,1,none⟩) lr _;have a2:=vv (a2.o.belowLt a3 (by have:=a8.o;omega));have HX:=vv (HX.o.belowLt a3 (by have:=a8.o;omega));have HB:=vv (HB.o.trans (a3.mono (by have:=a8.o;omega)));have a1:=vv (a1.o.set1 gb ob);obtain⟨wl,b4⟩:=yx (wm.setCell ⟨g,1,none⟩ (.pointer (some ⟨gb,ob,none⟩)));rw[<- b4] at a5 a6 a2 HX HB a1 ⊢;clear b4 a3 fz1;refine hK.out _ _ HX.o.c2 (fun a0=>?_);clear hK
   rotate_left 1
   focus
    go_simp;refine(b7.o _).mono ?_;rintro e w' ⟨rfl,rfl⟩;go_wp2_with fail
    refine hK.out _ _ HX.o.c2 (fun a0=>?_);clear hK;refine q06 rfl (by rfl) (fun K hK=>?_);go_simp;refine hK.out _ _ HX.o.c2 (fun a0=>?_);clear hK;refine q06 rfl (by rfl) (fun K hK=>?_);go_simp;refine(HT.o _ gN gO a9.o b0.o).mono ?_;rintro e wn ⟨ga,oa,gb,ob,rfl,b1,b2,a7⟩;have a2:=vv (a2.o.below a7);have HX:=vv (HX.o.below a7);have a4:Hid (∀j,wn.frozen? ⟨g,j,none⟩=false):=vv (fun j=>(a7.frozen (p:=⟨g,j,none⟩) a1.o.lt).trans (a4.o j));have a1:=vv (a1.o.below a7);have HB:=vn HB a7;have a5:=vv b1;have a6:=vv b2;obtain⟨x0,x1,xl⟩:=a1.o;clear b1 b2 a7 a9 b0;go_wp2_with fail
    refine hK.out _ _ HX.o.c2 (fun a0=>?_);clear hK
    iterate 4
     refine q00 (v:=?_) rfl (by rfl) ?_ ?_;rotate_left
     ·intro w b5;go_simp;with_reducible rfl
     simp only[Act.put,sa,sb,sc]
    refine q06 rfl (by rfl) (fun K hK=>?_);have fz0:=a4.o 0;go_simp;have a4:Hid (∀j,(wn.setCell ⟨g,0,none⟩ (.pointer (some ⟨ga,oa,none⟩))).frozen? ⟨g,j,none⟩=false):=vv (fun j=>(World.frozen?_setCell _ _ _ _).trans (a4.o j));have a5:=vv (a5.o.setPtr (j:=0) a1.o.c0 (.pointer (some ⟨ga,oa,none⟩)));have a6:=vv (a6.o.setPtr (j:=0) a1.o.c0 (.pointer (some ⟨ga,oa,none⟩)));have a3:Below g wn (wn.setCell ⟨g,0,none⟩ (.pointer (some ⟨ga,oa,none⟩))):=(Below.refl g wn).setCell (p:=⟨g,0,none⟩) lr _;have a2:=vv (a2.o.belowLt a3 (by have:=a8.o;omega));have HX:=vv (HX.o.belowLt a3 (by have:=a8.o;omega));have HB:=vv (HB.o.trans (a3.mono (by have:=a8.o;omega)));have a1:=vv (a1.o.set0 ga oa);obtain⟨wm,b3⟩:=yx (wn.setCell ⟨g,0,none⟩ (.pointer (some ⟨ga,oa,none⟩)));rw[<- b3] at a4 a5 a6 a2 HX HB a1 ⊢;clear b3 a3 fz0;obtain⟨x0,x1,xl⟩:=a1.o;refine hK.out _ _ HX.o.c2 (fun a0=>?_);clear hK
    iterate 1
     refine q00 (v:=?_) rfl (by rfl) ?_ ?_;rotate_left
     ·intro w b5;go_simp;with_reducible rfl
     simp only[Act.put,sa,sb,sc]
    refine q06 rfl (by rfl) (fun K hK=>?_);have fz1:=a4.o 1;go_simp;have a5:=vv (a5.o.setPtr (j:=1) a1.o.c0 (.pointer (some ⟨gb,ob,none⟩)));have a6:=vv (a6.o.setPtr (j:=1) a1.o.c0 (.pointer (some ⟨gb,ob,none⟩)));have a3:Below g wm (wm.setCell ⟨g,1,none⟩ (.pointer (some ⟨gb,ob,none⟩))):=(Below.refl g wm).setCell (p:=⟨g,1,none⟩) lr _;have a2:=vv (a2.o.belowLt a3 (by have:=a8.o;omega));have HX:=vv (HX.o.belowLt a3 (by have:=a8.o;omega));have HB:=vv (HB.o.trans (a3.mono (by have:=a8.o;omega)));have a1:=vv (a1.o.set1 gb ob);obtain⟨wl,b4⟩:=yx (wm.setCell ⟨g,1,none⟩ (.pointer (some ⟨gb,ob,none⟩)));rw[<- b4] at a5 a6 a2 HX HB a1 ⊢;clear b4 a3 fz1;refine hK.out _ _ HX.o.c2 (fun a0=>?_);clear hK
 all_goals
  refine q0L rfl ?_;clear x0 x1 xl;obtain⟨x0,x1,xl⟩:=a1.o;obtain⟨f0,f1,l0⟩:=a2.o;have r0:=HX.o.c0;have l1:=HX.o.lt;go_wp2_with fail
  refine(d5.o _ ga oa gb ob a5.o a6.o).mono ?_;rintro e w8 ⟨rfl,e1⟩;have f2:=vn HB e1;clear e1 x0 x1 xl f0 f1 l0 r0 l1;go_wp2;go_ret3
  exact⟨rfl,f2.o⟩
end Rnd
end Go.Proofs.YtcdimmblnbkjjaaGreatDoor
namespace Go.Proofs.YtcdimmblnbkjjaaGreatDoor.R5
open Go Go.RowKit
theorem RatioBox.fs{l:List Ob}{w w':World}{g:Nat}{neg:Bool}{X:Option Addr}{n c:Nat}{Y:Option Addr}{m d:Nat}(h:RatioBox w g neg X n c Y m d)(hf:Fs l w w')(hne:∀p∈l,p.1≠g):RatioBox w' g neg X n c Y m d:=
 ⟨Rnd.Fs.cell0 hf h.c0 h.lt hne,Rnd.Fs.cell0 hf h.c1 h.lt hne,Rnd.Fs.cell0 hf h.c2 h.lt hne,Nat.lt_of_lt_of_le h.lt hf.size⟩
theorem RatioBox.drew{w:World}{g:Nat}{neg:Bool}{X:Option Addr}{n c:Nat}{Y:Option Addr}{m d:Nat}(h:RatioBox w g neg X n c Y m d):RatioBox w.drew g neg X n c Y m d:=⟨h.c0,h.c1,h.c2,h.lt⟩
end Go.Proofs.YtcdimmblnbkjjaaGreatDoor.R5
namespace Go.Proofs.YtcdimmblnbkjjaaGreatDoor.Rtp
open Go Go.RowKit R5
theorem qbS{p:Int}{N D:Nat}(hp:p.natAbs=N)(hg:Nat.gcd N D=1):lp p D=p/\ld p D=D:=by
 unfold lp ld;rw[hp,hg,Nat.div_one,Nat.div_one];refine⟨?_,rfl⟩;unfold sg;by_cases h:p<0
 ·rw[decide_eq_true h,if_pos rfl];omega
 ·rw[decide_eq_false h,if_neg (by decide)];omega
theorem q4P(X:Option Addr)(n c:Nat)(Y:Option Addr)(m d N D:Nat)(w:World)(hX:Rd w X n c (toL N))(hY:Rd w Y m d (toL D))(hn:n<=16384)(hm:m<=16384)(hD:0<D)(hg:Nat.gcd N D=1)(hst:Std w):
  Calls Tryz.prog 136 #[q2F false X n c Y m d] w fun e w'=>∃g,e=.returned (.tuple #[.pointer (some ⟨g,0,none⟩),.int .i64 0])/\w.heap.size<=g/\RatAt w' g ((N:Int)) D/\Below w.heap.size w w':=by
 obtain⟨p,hp⟩:∃p:Int,p=(N:Int):=⟨_,rfl⟩;have a5:p.natAbs=N:=by omega
 obtain⟨elp,eld⟩:=qbS a5 hg;have wn:=hX.words;have wm:=hY.words;have bN:bl N<=524288:=by have:=A.bl_words N;omega
 have bD:bl D<=524288:=by have:=A.bl_words D;omega
 have e2:0<m:=by
  rcases Nat.eq_zero_or_pos m with h|h
  ·rw[h,q0c] at wm;omega
  ·exact h
 obtain⟨w0,b1⟩:=yx (w.alloc (.cells #[.bool false,.slice X n c,.slice Y m d] 93));have b0:Below w.heap.size w w0:=by rw[b1];exact(Below.refl _ w).alloc lr _
 have x0:RatioBox w0 w.heap.size false X n c Y m d:=by rw[b1];exact RatioBox.made w _ _ _ _ _ _ _ _
 have e3:=vv b1;have HB:=vv b0;have HX:=vv x0;have e4:=vv hst;have a6:=vv fun w' (h:Below w.heap.size w w')=>Nat_.Check X n c (toL N) w' (hX.below h rfl)
 rw[Nat_.natErr_ok (q2l hX hn)] at a6;have a7:=vv fun w' (h:Below w.heap.size w w')=>Nat_.Check Y m d (toL D) w' (hY.below h rfl)
 rw[Nat_.natErr_ok (q2l hY hm)] at a7;have b7:=vv fun w' (h:Below w.heap.size w w')=>whole X n c N w' (hX.below h rfl) (by omega)
 have b8:=vv fun w' (h:Below w.heap.size w w')=>whole Y m d D w' (hY.below h rfl) (by omega)
 have f7:=vv fun w' g (h:IntAt w' g 0 (N:Int))=>A.Neg g 0 g 0 (N:Int) (N:Int) w' h h
 have e5:=vv fun w' g gx gy (h:RatSh w' g) (hx:IntAt w' gx 0 p) (hy:IntAt w' gy 0 (D:Int)) (hs:Std w')=>A.SetFrac g gx gy p D w' h hx hy hD hs (by rw[a5];unfold Sz;omega) (by unfold Sz;omega)
 have c0:=vv fun w' g (h:RatAt w' g p D)=>qbK g p D w' h (by rw[elp,a5];exact bN) (by rw[eld];exact bD)
 have c6:=vv fun w' g (h:RatAt w' g p D)=>A.Denom g p D w' h
 simp only[elp,eld,a5] at c0 c6;have c7:=vv fun w' g gx (h:IntAt w' g 0 (D:Int)) (h':IntAt w' gx 0 (D:Int))=>A.Cmp g 0 gx 0 (D:Int) (D:Int) w' h h'
 simp only[q3m] at c7;have edp:decide (p<0)=false:=by rw[decide_eq_false_iff_not];omega
 simp only[edp] at c0;have e6:=vv wn;have e7:=vv wm;have f8:((m:Int)==0)=false:=by rw[beq_eq_false_iff_ne];omega
 have f9:(n:Int)<=16384:=by omega
 have e8:(m:Int)<=16384:=by omega
 have f0:=x0.c0;have f1:=x0.c1;have f2:=x0.c2;have fl:=x0.lt;rw[<- hp];have HP:=vv hp;clear hX hY hn hm hD hg hst hp a5 elp eld wn wm bN bD e2 b1 b0 x0 edp ;go_enter Tryz.func136,Tryz.ntmps136
 go_wp2_with fail
 rw[<- e3.o];refine(a6.o _ HB.o).mono ?_;rintro e w1 ⟨rfl,c1⟩;have HX:=vv (HX.o.below c1);have HB:=vn HB c1;obtain⟨f0,f1,f2,fl⟩:=HX.o;clear c1;go_wp2_with fail
 refine(a7.o _ HB.o).mono ?_;rintro e w2 ⟨rfl,c2⟩;have HX:=vv (HX.o.below c2);have HB:=vn HB c2;obtain⟨f0,f1,f2,fl⟩:=HX.o;clear c2;go_wp2_with fail
 refine q01 (fun w'=>w'.cell? ⟨w.heap.size,1,none⟩=some (.slice X n c)/\w'.cell? ⟨w.heap.size,2,none⟩=some (.slice Y m d)) 6
  (.still 0 (.still 1 (.still 3 (.still 4 (.one 2 (.one 5 .done)))))) (by kernel_rfl) (by kernel_rfl) (fun _ _ d _ _ h=>by cases d<;>exact h) ⟨f1,f2⟩ (fun hS0=>?_)
 have HX:Hid (RatioBox w2.drew w.heap.size false X n c Y m d):=vv HX.o.drew;have HB:Hid (Below w.heap.size w w2.drew):=vv (q04 HB.o);obtain⟨wc,a8⟩:=yx (w2.drew);rw[<- a8] at HX HB hS0 ⊢;clear a8 f0 f1 f2 fl
 iterate 4
  refine q00 (v:=?_) rfl (by rfl) ?_ ?_;rotate_left
  ·intro w c3;go_simp;with_reducible rfl
  simp only[Act.put,sa,sb,sc]
 refine q06 rfl (by rfl) (fun K hK=>?_);go_simp;refine(b7.o _ HB.o).mono ?_;rintro e w3 ⟨g1,rfl,e9,c8,b2⟩;have a4:=vv c8;have HX:=vv (HX.o.below b2);have HB:=vn HB b2;have g0:Hid (w.heap.size<g1):=vv (by have:=HX.o.lt;have:=b2.size;have:w.heap.size<wc.heap.size:=by {show _;exact(by assumption:RatioBox wc w.heap.size false X n c Y m d).lt};omega);clear c8 b2 e9;go_wp2_with fail
 refine hK.out _ _ ⟨HX.o.c1,HX.o.c2⟩ (fun a3=>?_);clear hK;refine q06 rfl (by rfl) (fun K hK=>?_);go_simp;refine(b8.o _ HB.o).mono ?_;rintro e w4 ⟨g2,rfl,f3,c9,b3⟩;have a2:=vv c9;have d0:g1<g2:=by have:=a4.o.lt;omega
 have g3:=vv d0;have a4:=vv (a4.o.below b3);have HX:=vv (HX.o.below b3);have HB:=vn HB b3;clear c9 b3 f3 d0;go_wp2_with fail
 refine hK.out _ _ ⟨HX.o.c1,HX.o.c2⟩ (fun a3=>?_);clear hK;refine q0d ?_;have f0:=HX.o.c0;have fl:=HX.o.lt;have d1:IntAt w4 g1 0 p:=by rw[HP.o];exact a4.o
 have a4:=vv d1;clear d1;obtain⟨w5,rfl⟩:∃x:World,x=w4:=⟨_,rfl⟩;obtain⟨w6,b4⟩:=yx (w5.alloc (.cells #[.bool false,.slice none 0 0,.slice none 0 0] 236));have b6:Below w5.heap.size w5 w6:=by rw[b4];exact(Below.refl _ _).alloc lr _
 have z6:RatAt w6 w5.heap.size 0 1:=by rw[b4];exact RatAt.zero _ _
 obtain⟨g,c4⟩:=yx (w5.heap.size);have lg1:=a4.o.lt;have lg2:=a2.o.lt;have lgX:=HX.o.lt;rw[<- c4] at z6 lg1 lg2 lgX;have f4:=vv z6;have a4:=vv (a4.o.below b6);have a2:=vv (a2.o.below b6);have HX:=vv (HX.o.below b6);have d2:Hid (w.heap.size<g):=vv lgX;have HB:=vn HB b6;have d3:=vv (And.intro lg1 (And.intro lg2 lgX));have d4:=vv b4;have d5:=vv c4;clear b4 b6 z6 c4 lg1 lg2 lgX;go_wp2_with fail
 clear f0 fl;rw[<- d4.o,<- d5.o];clear d4 d5;refine(e5.o _ g g1 g2 f4.o.sh a4.o a2.o (e4.o.fs (Fs.of_nil HB.o))).mono ?_;rintro e w7 hP;have d6:=hP.below HB.o HB.o.size (by have:=d2.o;omega);have a0:=vv hP.2.1;have HX:=vv (HX.o.fs hP.2.2 (by intro p hp;simp at hp;rw[hp];have:=d3.o.2.2;show g≠_;omega));have a2:=vv (a2.o.fs hP.2.2 (by intro p hp k;simp at hp;rw[hp] at k;have:=d3.o.2.1;exact absurd k (by show g≠_;omega)));have HB:=vv d6;obtain⟨rfl,-,-⟩:=hP;clear d6;go_wp2_with fail
 refine(c0.o _ g a0.o).mono ?_;rintro e w8 ⟨X',n',Y',m',rfl,d7,d8,a9⟩;obtain rfl:n'=n:=by rw[<- d7.words];exact e6.o
 obtain rfl:m'=m:=by rw[<- d8.words];exact e7.o
 have a0:=vv (a0.o.below a9);have HX:=vv (HX.o.below a9);have a2:=vv (a2.o.below a9);have HB:=vn HB a9;clear d7 d8 a9;obtain⟨w9,b5⟩:=yx (w8.alloc (.cells #[.bool false,.slice X' n' n',.slice Y' m' m'] 93));have b9:Below w8.heap.size w8 w9:=by rw[b5];exact(Below.refl _ _).alloc lr _
 have x9:RatioBox w9 w8.heap.size false X' n' n' Y' m' m':=by rw[b5];exact RatioBox.made _ _ _ _ _ _ _ _ _
 obtain⟨gy,c5⟩:=yx (w8.heap.size);rw[<- c5] at x9;have a0:=vv (a0.o.below b9);have HX:=vv (HX.o.below b9);have HY:=vv x9;have a2:=vv (a2.o.below b9);have HB:=vn HB b9;have d9:=vv b5;have e0:=vv c5;clear b5 b9 x9 c5;go_wp2_with fail
 rw[<- d9.o,<- e0.o];clear d9 e0;refine q01 (fun w'=>(w'.cell? ⟨gy,0,none⟩=some (.bool false)/\w'.cell? ⟨gy,1,none⟩=some (.slice X' n' n')/\w'.cell? ⟨gy,2,none⟩=some (.slice Y' m' m'))/\w'.cell? ⟨w.heap.size,0,none⟩=some (.bool false)/\w'.cell? ⟨w.heap.size,1,none⟩=some (.slice X n' c)/\w'.cell? ⟨w.heap.size,2,none⟩=some (.slice Y m' d)) 16
  (.still 0 (.still 1 (.still 2 (.still 3 (.still 5 (.one 4 (.one 6 (.still 7 (.still 8 (.still 9 (.still 10 (.still 12 (.one 11 (.one 13 (.still 14 (.still 15 .done)))))))))))))))) (by kernel_rfl) (by kernel_rfl) (fun _ _ d _ _ h=>by cases d<;>exact h) ⟨⟨HY.o.c0,HY.o.c1,HY.o.c2⟩,HX.o.c0,HX.o.c1,HX.o.c2⟩ (fun hS0=>?_)
 have HX:Hid (RatioBox w9.drew w.heap.size false X n' c Y m' d):=vv HX.o.drew;have HY:Hid (RatioBox w9.drew gy false X' n' n' Y' m' m'):=vv HY.o.drew;have a0:Hid (RatAt w9.drew g p D):=vv (a0.o.like rfl);have a2:Hid (IntAt w9.drew g2 0 (D:Int)):=vv a2.o.drew;have HB:Hid (Below w.heap.size w w9.drew):=vv (q04 HB.o);obtain⟨wc,a8⟩:=yx (w9.drew);rw[<- a8] at HX HY a0 a2 HB hS0 ⊢;clear a8;have yl:=HY.o.lt;have xl:=HX.o.lt
 iterate 5
  refine q00 (v:=?_) rfl (by rfl) ?_ ?_;rotate_left
  ·intro w c3;go_simp;with_reducible rfl
  simp only[Act.put,sa,sb,sc]
 refine q06 rfl (by rfl) (fun K hK=>?_);go_simp;refine(qbf false X' n' n' Y' m' m' _).mono ?_;rintro e wn ⟨rfl,a1⟩;have HX:=vv (HX.o.below a1);have HY:=vv (HY.o.below a1);have a0:=vv (a0.o.below a1);have a2:=vv (a2.o.below a1);have HB:=vn HB a1;clear a1;go_wp2_with fail
 refine hK.out _ _ ⟨⟨HY.o.c0,HY.o.c1,HY.o.c2⟩,HX.o.c0,HX.o.c1,HX.o.c2⟩ (fun a3=>?_);clear hK;refine q06 rfl (by rfl) (fun K hK=>?_);go_simp;refine(qbf false X n' c Y m' d _).mono ?_;rintro e wn ⟨rfl,a1⟩;have HX:=vv (HX.o.below a1);have HY:=vv (HY.o.below a1);have a0:=vv (a0.o.below a1);have a2:=vv (a2.o.below a1);have HB:=vn HB a1;clear a1;go_wp2_with fail
 refine hK.out _ _ ⟨⟨HY.o.c0,HY.o.c1,HY.o.c2⟩,HX.o.c0,HX.o.c1,HX.o.c2⟩ (fun a3=>?_);clear hK
 iterate 5
  refine q00 (v:=?_) rfl (by rfl) ?_ ?_;rotate_left
  ·intro w c3;go_simp;with_reducible rfl
  simp only[Act.put,sa,sb,sc]
 refine q06 rfl (by rfl) (fun K hK=>?_);go_simp;refine(c6.o _ g a0.o).mono ?_;rintro e wn ⟨g9,rfl,f5,e1,a1⟩;have HX:=vv (HX.o.below a1);have HY:=vv (HY.o.below a1);have a0:=vv (a0.o.below a1);have a2:=vv (a2.o.below a1);have HB:=vn HB a1;have f6:=vv e1;clear a1 f5 e1;go_wp2_with fail
 refine hK.out _ _ ⟨⟨HY.o.c0,HY.o.c1,HY.o.c2⟩,HX.o.c0,HX.o.c1,HX.o.c2⟩ (fun a3=>?_);clear hK;refine q06 rfl (by rfl) (fun K hK=>?_);go_simp;refine(c7.o _ g9 g2 f6.o a2.o).mono ?_;rintro e wn ⟨rfl,a1⟩;have HX:=vv (HX.o.below a1);have HY:=vv (HY.o.below a1);have a0:=vv (a0.o.below a1);have a2:=vv (a2.o.below a1);have HB:=vn HB a1;clear a1;go_wp2_with fail
 refine hK.out _ _ ⟨⟨HY.o.c0,HY.o.c1,HY.o.c2⟩,HX.o.c0,HX.o.c1,HX.o.c2⟩ (fun a3=>?_);clear hK
 iterate 2
  refine q00 (v:=?_) rfl (by rfl) ?_ ?_;rotate_left
  ·intro w c3;go_simp;with_reducible rfl
  simp only[Act.put,sa,sb,sc]
 refine q0L rfl ?_;go_wp2;go_ret2
 exact⟨g,rfl,by have:=d2.o;omega,a0.o,HB.o⟩
theorem q5Q(X:Option Addr)(n c:Nat)(Y:Option Addr)(m d N D:Nat)(w:World)(hX:Rd w X n c (toL N))(hY:Rd w Y m d (toL D))(hn:n<=16384)(hm:m<=16384)(hD:0<D)(hg:Nat.gcd N D=1)(hN:0<N)(hst:Std w):
  Calls Tryz.prog 136 #[q2F true X n c Y m d] w fun e w'=>∃g,e=.returned (.tuple #[.pointer (some ⟨g,0,none⟩),.int .i64 0])/\w.heap.size<=g/\RatAt w' g (-(N:Int)) D/\Below w.heap.size w w':=by
 obtain⟨p,hp⟩:∃p:Int,p = -(N:Int):=⟨_,rfl⟩;have a5:p.natAbs=N:=by omega
 obtain⟨elp,eld⟩:=qbS a5 hg;have wn:=hX.words;have wm:=hY.words;have bN:bl N<=524288:=by have:=A.bl_words N;omega
 have bD:bl D<=524288:=by have:=A.bl_words D;omega
 have e3:0<m:=by
  rcases Nat.eq_zero_or_pos m with h|h
  ·rw[h,q0c] at wm;omega
  ·exact h
 obtain⟨w0,b1⟩:=yx (w.alloc (.cells #[.bool true,.slice X n c,.slice Y m d] 93));have b0:Below w.heap.size w w0:=by rw[b1];exact(Below.refl _ w).alloc lr _
 have x0:RatioBox w0 w.heap.size true X n c Y m d:=by rw[b1];exact RatioBox.made w _ _ _ _ _ _ _ _
 have e4:=vv b1;have HB:=vv b0;have HX:=vv x0;have e5:=vv hst;have a6:=vv fun w' (h:Below w.heap.size w w')=>Nat_.Check X n c (toL N) w' (hX.below h rfl)
 rw[Nat_.natErr_ok (q2l hX hn)] at a6;have a7:=vv fun w' (h:Below w.heap.size w w')=>Nat_.Check Y m d (toL D) w' (hY.below h rfl)
 rw[Nat_.natErr_ok (q2l hY hm)] at a7;have b7:=vv fun w' (h:Below w.heap.size w w')=>whole X n c N w' (hX.below h rfl) (by omega)
 have b8:=vv fun w' (h:Below w.heap.size w w')=>whole Y m d D w' (hY.below h rfl) (by omega)
 have e6:=vv fun w' g (h:IntAt w' g 0 (N:Int))=>A.Neg g 0 g 0 (N:Int) (N:Int) w' h h
 have e7:=vv fun w' g gx gy (h:RatSh w' g) (hx:IntAt w' gx 0 p) (hy:IntAt w' gy 0 (D:Int)) (hs:Std w')=>A.SetFrac g gx gy p D w' h hx hy hD hs (by rw[a5];unfold Sz;omega) (by unfold Sz;omega)
 have c0:=vv fun w' g (h:RatAt w' g p D)=>qbK g p D w' h (by rw[elp,a5];exact bN) (by rw[eld];exact bD)
 have c6:=vv fun w' g (h:RatAt w' g p D)=>A.Denom g p D w' h
 simp only[elp,eld,a5] at c0 c6;have c7:=vv fun w' g gx (h:IntAt w' g 0 (D:Int)) (h':IntAt w' gx 0 (D:Int))=>A.Cmp g 0 gx 0 (D:Int) (D:Int) w' h h'
 simp only[q3m] at c7;have edp:decide (p<0)=true:=by rw[decide_eq_true_eq];omega
 simp only[edp] at c0;have e8:=vv wn;have e9:=vv wm;have g0:((m:Int)==0)=false:=by rw[beq_eq_false_iff_ne];omega
 have g3:(n:Int)<=16384:=by omega
 have f3:(m:Int)<=16384:=by omega
 have f0:=x0.c0;have f1:=x0.c1;have f2:=x0.c2;have fl:=x0.lt;rw[<- hp];have HP:=vv hp;clear hX hY hn hm hD hg hst hp a5 elp eld wn wm bN bD e3 b1 b0 x0 edp hN;go_enter Tryz.func136,Tryz.ntmps136
 go_wp2_with fail
 rw[<- e4.o];refine(a6.o _ HB.o).mono ?_;rintro e w1 ⟨rfl,c1⟩;have HX:=vv (HX.o.below c1);have HB:=vn HB c1;obtain⟨f0,f1,f2,fl⟩:=HX.o;clear c1;go_wp2_with fail
 refine(a7.o _ HB.o).mono ?_;rintro e w2 ⟨rfl,c2⟩;have HX:=vv (HX.o.below c2);have HB:=vn HB c2;obtain⟨f0,f1,f2,fl⟩:=HX.o;clear c2;go_wp2_with fail
 refine q01 (fun w'=>w'.cell? ⟨w.heap.size,1,none⟩=some (.slice X n c)/\w'.cell? ⟨w.heap.size,2,none⟩=some (.slice Y m d)) 6
  (.still 0 (.still 1 (.still 3 (.still 4 (.one 2 (.one 5 .done)))))) (by kernel_rfl) (by kernel_rfl) (fun _ _ d _ _ h=>by cases d<;>exact h) ⟨f1,f2⟩ (fun hS0=>?_)
 have HX:Hid (RatioBox w2.drew w.heap.size true X n c Y m d):=vv HX.o.drew;have HB:Hid (Below w.heap.size w w2.drew):=vv (q04 HB.o);obtain⟨wc,a8⟩:=yx (w2.drew);rw[<- a8] at HX HB hS0 ⊢;clear a8 f0 f1 f2 fl
 iterate 4
  refine q00 (v:=?_) rfl (by rfl) ?_ ?_;rotate_left
  ·intro w c3;go_simp;with_reducible rfl
  simp only[Act.put,sa,sb,sc]
 refine q06 rfl (by rfl) (fun K hK=>?_);go_simp;refine(b7.o _ HB.o).mono ?_;rintro e w3 ⟨g1,rfl,f4,c8,b2⟩;have a4:=vv c8;have HX:=vv (HX.o.below b2);have HB:=vn HB b2;have c9:Hid (w.heap.size<g1):=vv (by have:=HX.o.lt;have:=b2.size;have:w.heap.size<wc.heap.size:=by {show _;exact(by assumption:RatioBox wc w.heap.size true X n c Y m d).lt};omega);clear c8 b2 f4;go_wp2_with fail
 refine hK.out _ _ ⟨HX.o.c1,HX.o.c2⟩ (fun a3=>?_);clear hK;refine q06 rfl (by rfl) (fun K hK=>?_);go_simp;refine(b8.o _ HB.o).mono ?_;rintro e w4 ⟨g2,rfl,f5,d0,b3⟩;have a2:=vv d0;have d1:g1<g2:=by have:=a4.o.lt;omega
 have f6:=vv d1;have a4:=vv (a4.o.below b3);have HX:=vv (HX.o.below b3);have HB:=vn HB b3;clear d0 b3 f5 d1;go_wp2_with fail
 refine hK.out _ _ ⟨HX.o.c1,HX.o.c2⟩ (fun a3=>?_);clear hK;refine q0d ?_;have f0:=HX.o.c0;have fl:=HX.o.lt;go_wp2_with fail
 refine(e6.o _ g1 a4.o).mono ?_;rintro e w5 ⟨rfl,hi,hf⟩;have hF:=hf.fs a4.o hi;have a2:=vv (a2.o.fs hF (by intro p hp k;simp at hp;rw[hp] at k;have:=f6.o;exact absurd k (by show g1≠_;omega)));have HX:=vv (HX.o.fs hF (by intro p hp;simp at hp;rw[hp];have:=c9.o;show g1≠_;omega));have HB:=vv (hF.below HB.o HB.o.size (by intro p hp;simp at hp;rw[hp];have:=c9.o;show w.heap.size<=g1;omega));have d2:IntAt w5 g1 0 p:=by rw[HP.o];exact hi
 have a4:=vv d2;have f0:=HX.o.c0;have fl:=HX.o.lt;clear hi hf hF d2;obtain⟨w6,b4⟩:=yx (w5.alloc (.cells #[.bool false,.slice none 0 0,.slice none 0 0] 236));have b6:Below w5.heap.size w5 w6:=by rw[b4];exact(Below.refl _ _).alloc lr _
 have z6:RatAt w6 w5.heap.size 0 1:=by rw[b4];exact RatAt.zero _ _
 obtain⟨g,c4⟩:=yx (w5.heap.size);have lg1:=a4.o.lt;have lg2:=a2.o.lt;have lgX:=HX.o.lt;rw[<- c4] at z6 lg1 lg2 lgX;have f7:=vv z6;have a4:=vv (a4.o.below b6);have a2:=vv (a2.o.below b6);have HX:=vv (HX.o.below b6);have d3:Hid (w.heap.size<g):=vv lgX;have HB:=vn HB b6;have d4:=vv (And.intro lg1 (And.intro lg2 lgX));have d5:=vv b4;have d6:=vv c4;clear b4 b6 z6 c4 lg1 lg2 lgX;go_wp2_with fail
 clear f0 fl;rw[<- d5.o,<- d6.o];clear d5 d6;refine(e7.o _ g g1 g2 f7.o.sh a4.o a2.o (e5.o.fs (Fs.of_nil HB.o))).mono ?_;rintro e w7 hP;have d7:=hP.below HB.o HB.o.size (by have:=d3.o;omega);have a0:=vv hP.2.1;have HX:=vv (HX.o.fs hP.2.2 (by intro p hp;simp at hp;rw[hp];have:=d4.o.2.2;show g≠_;omega));have a2:=vv (a2.o.fs hP.2.2 (by intro p hp k;simp at hp;rw[hp] at k;have:=d4.o.2.1;exact absurd k (by show g≠_;omega)));have HB:=vv d7;obtain⟨rfl,-,-⟩:=hP;clear d7;go_wp2_with fail
 refine(c0.o _ g a0.o).mono ?_;rintro e w8 ⟨X',n',Y',m',rfl,d8,d9,a9⟩;obtain rfl:n'=n:=by rw[<- d8.words];exact e8.o
 obtain rfl:m'=m:=by rw[<- d9.words];exact e9.o
 have a0:=vv (a0.o.below a9);have HX:=vv (HX.o.below a9);have a2:=vv (a2.o.below a9);have HB:=vn HB a9;clear d8 d9 a9;obtain⟨w9,b5⟩:=yx (w8.alloc (.cells #[.bool true,.slice X' n' n',.slice Y' m' m'] 93));have b9:Below w8.heap.size w8 w9:=by rw[b5];exact(Below.refl _ _).alloc lr _
 have x9:RatioBox w9 w8.heap.size true X' n' n' Y' m' m':=by rw[b5];exact RatioBox.made _ _ _ _ _ _ _ _ _
 obtain⟨gy,c5⟩:=yx (w8.heap.size);rw[<- c5] at x9;have a0:=vv (a0.o.below b9);have HX:=vv (HX.o.below b9);have HY:=vv x9;have a2:=vv (a2.o.below b9);have HB:=vn HB b9;have e0:=vv b5;have e1:=vv c5;clear b5 b9 x9 c5;go_wp2_with fail
 rw[<- e0.o,<- e1.o];clear e0 e1;refine q01 (fun w'=>(w'.cell? ⟨gy,0,none⟩=some (.bool true)/\w'.cell? ⟨gy,1,none⟩=some (.slice X' n' n')/\w'.cell? ⟨gy,2,none⟩=some (.slice Y' m' m'))/\w'.cell? ⟨w.heap.size,0,none⟩=some (.bool true)/\w'.cell? ⟨w.heap.size,1,none⟩=some (.slice X n' c)/\w'.cell? ⟨w.heap.size,2,none⟩=some (.slice Y m' d)) 16
  (.still 0 (.still 1 (.still 2 (.still 3 (.still 5 (.one 4 (.one 6 (.still 7 (.still 8 (.still 9 (.still 10 (.still 12 (.one 11 (.one 13 (.still 14 (.still 15 .done)))))))))))))))) (by kernel_rfl) (by kernel_rfl) (fun _ _ d _ _ h=>by cases d<;>exact h) ⟨⟨HY.o.c0,HY.o.c1,HY.o.c2⟩,HX.o.c0,HX.o.c1,HX.o.c2⟩ (fun hS0=>?_)
 have HX:Hid (RatioBox w9.drew w.heap.size true X n' c Y m' d):=vv HX.o.drew;have HY:Hid (RatioBox w9.drew gy true X' n' n' Y' m' m'):=vv HY.o.drew;have a0:Hid (RatAt w9.drew g p D):=vv (a0.o.like rfl);have a2:Hid (IntAt w9.drew g2 0 (D:Int)):=vv a2.o.drew;have HB:Hid (Below w.heap.size w w9.drew):=vv (q04 HB.o);obtain⟨wc,a8⟩:=yx (w9.drew);rw[<- a8] at HX HY a0 a2 HB hS0 ⊢;clear a8;have yl:=HY.o.lt;have xl:=HX.o.lt
 iterate 5
  refine q00 (v:=?_) rfl (by rfl) ?_ ?_;rotate_left
  ·intro w c3;go_simp;with_reducible rfl
  simp only[Act.put,sa,sb,sc]
 refine q06 rfl (by rfl) (fun K hK=>?_);go_simp;refine(qbf true X' n' n' Y' m' m' _).mono ?_;rintro e wn ⟨rfl,a1⟩;have HX:=vv (HX.o.below a1);have HY:=vv (HY.o.below a1);have a0:=vv (a0.o.below a1);have a2:=vv (a2.o.below a1);have HB:=vn HB a1;clear a1;go_wp2_with fail
 refine hK.out _ _ ⟨⟨HY.o.c0,HY.o.c1,HY.o.c2⟩,HX.o.c0,HX.o.c1,HX.o.c2⟩ (fun a3=>?_);clear hK;refine q06 rfl (by rfl) (fun K hK=>?_);go_simp;refine(qbf true X n' c Y m' d _).mono ?_;rintro e wn ⟨rfl,a1⟩;have HX:=vv (HX.o.below a1);have HY:=vv (HY.o.below a1);have a0:=vv (a0.o.below a1);have a2:=vv (a2.o.below a1);have HB:=vn HB a1;clear a1;go_wp2_with fail
 refine hK.out _ _ ⟨⟨HY.o.c0,HY.o.c1,HY.o.c2⟩,HX.o.c0,HX.o.c1,HX.o.c2⟩ (fun a3=>?_);clear hK
 iterate 5
  refine q00 (v:=?_) rfl (by rfl) ?_ ?_;rotate_left
  ·intro w c3;go_simp;with_reducible rfl
  simp only[Act.put,sa,sb,sc]
 refine q06 rfl (by rfl) (fun K hK=>?_);go_simp;refine(c6.o _ g a0.o).mono ?_;rintro e wn ⟨g9,rfl,f8,e2,a1⟩;have HX:=vv (HX.o.below a1);have HY:=vv (HY.o.below a1);have a0:=vv (a0.o.below a1);have a2:=vv (a2.o.below a1);have HB:=vn HB a1;have f9:=vv e2;clear a1 f8 e2;go_wp2_with fail
 refine hK.out _ _ ⟨⟨HY.o.c0,HY.o.c1,HY.o.c2⟩,HX.o.c0,HX.o.c1,HX.o.c2⟩ (fun a3=>?_);clear hK;refine q06 rfl (by rfl) (fun K hK=>?_);go_simp;refine(c7.o _ g9 g2 f9.o a2.o).mono ?_;rintro e wn ⟨rfl,a1⟩;have HX:=vv (HX.o.below a1);have HY:=vv (HY.o.below a1);have a0:=vv (a0.o.below a1);have a2:=vv (a2.o.below a1);have HB:=vn HB a1;clear a1;go_wp2_with fail
 refine hK.out _ _ ⟨⟨HY.o.c0,HY.o.c1,HY.o.c2⟩,HX.o.c0,HX.o.c1,HX.o.c2⟩ (fun a3=>?_);clear hK
 iterate 2
  refine q00 (v:=?_) rfl (by rfl) ?_ ?_;rotate_left
  ·intro w c3;go_simp;with_reducible rfl
  simp only[Act.put,sa,sb,sc]
 refine q0L rfl ?_;go_wp2;go_ret2
 exact⟨g,rfl,by have:=d3.o;omega,a0.o,HB.o⟩
theorem qbj(neg:Bool)(X:Option Addr)(n c:Nat)(Y:Option Addr)(m d N D:Nat)(w:World)(hX:Rd w X n c (toL N))(hY:Rd w Y m d (toL D))(hn:n<=16384)(hm:m<=16384)(hD:0<D)(hg:Nat.gcd N D=1)(h0:neg=true->0<N)(hst:Std w):
  Calls Tryz.prog 136 #[q2F neg X n c Y m d] w fun e w'=>∃g,e=.returned (.tuple #[.pointer (some ⟨g,0,none⟩),.int .i64 0])/\w.heap.size<=g/\RatAt w' g (sg neg N) D/\Below w.heap.size w w':=by
 cases neg
 ·exact q4P X n c Y m d N D w hX hY hn hm hD hg hst
 ·exact q5Q X n c Y m d N D w hX hY hn hm hD hg (h0 rfl) hst
theorem Check(neg:Bool)(X:Option Addr)(n c:Nat)(Y:Option Addr)(m d N D:Nat)(w:World)(hX:Rd w X n c (toL N))(hY:Rd w Y m d (toL D))(hn:n<=16384)(hm:m<=16384)(hD:0<D)(hg:Nat.gcd N D=1)(h0:neg=true->0<N)(hst:Std w):
  Calls Tryz.prog 89 #[q2F neg X n c Y m d] w fun e w'=>e=.returned (.int .i64 0)/\Below w.heap.size w w':=by
 obtain⟨w0,a0⟩:=yx (w.alloc (.cells #[.bool neg,.slice X n c,.slice Y m d] 93));have b0:Below w.heap.size w w0:=by rw[a0];exact(Below.refl _ w).alloc lr _
 have x0:RatioBox w0 w.heap.size neg X n c Y m d:=by rw[a0];exact RatioBox.made w _ _ _ _ _ _ _ _
 have HT:=vv (qbj neg X n c Y m d N D w0 (hX.below b0 rfl) (hY.below b0 rfl) hn hm hD hg h0 (hst.fs (Fs.of_nil b0)));have a2:=vv a0;have HB:=vv b0;have f0:=x0.c0;have f1:=x0.c1;have f2:=x0.c2;have fl:=x0.lt;clear hX hY hn hm hD hg h0 hst a0 b0 x0;go_enter Tryz.func89,Tryz.ntmps89
 go_wp2_with fail
 rw[<- a2.o];refine HT.o.mono ?_;rintro e w1 ⟨g,rfl,-,-,a1⟩;have HB:=vn HB a1;clear a1;go_wp2;go_ret
 exact⟨rfl,HB.o⟩
end Go.Proofs.YtcdimmblnbkjjaaGreatDoor.Rtp
namespace Go.Proofs.YtcdimmblnbkjjaaGreatDoor.R5
open Go Go.RowKit
theorem RatioBox.belowLt{B:Nat}{w w':World}{g:Nat}{neg:Bool}{X:Option Addr}{n c:Nat}{Y:Option Addr}{m d:Nat}(h:RatioBox w g neg X n c Y m d)(hb:Below B w w')(hl:g<B):RatioBox w' g neg X n c Y m d:=
 ⟨(hb.cell (p:=⟨g,0,none⟩) hl).trans h.c0,(hb.cell (p:=⟨g,1,none⟩) hl).trans h.c1,(hb.cell (p:=⟨g,2,none⟩) hl).trans h.c2,Nat.lt_of_lt_of_le h.lt hb.size⟩
theorem FmAt.fs{l:List Ob}{w w':World}{g:Nat}{E F:Int}(h:FmAt w g E F)(hf:Fs l w w')(hne:∀p∈l,p.1≠g):FmAt w' g E F:=
 ⟨Rnd.Fs.cell0 hf h.c0 h.lt hne,Rnd.Fs.cell0 hf h.c1 h.lt hne,Nat.lt_of_lt_of_le h.lt hf.size⟩
end Go.Proofs.YtcdimmblnbkjjaaGreatDoor.R5
namespace Go.Proofs.YtcdimmblnbkjjaaGreatDoor.Rnd
open Go Go.RowKit R5
structure NbZero(w:World)(g:Nat):Prop where
 c0:w.cell? ⟨g,0,none⟩=some (.pointer none)
 c1:w.cell? ⟨g,1,none⟩=some (.pointer none)
 fz:∀j,w.frozen? ⟨g,j,none⟩=false
 lt:g<w.heap.size
theorem NbZero.made(w:World)(t:TypeId):NbZero (w.alloc (.cells #[.pointer none,.pointer none] t)) w.heap.size:=by
 constructor<;>first|(simp only[World.cell?];rw[heap_alloc_new];rfl)|(intro j;simp only[World.frozen?];rw[heap_alloc_new];simp)|simp
theorem NbZero.below{w w':World}{g:Nat}(h:NbZero w g)(hb:Below w.heap.size w w'):NbZero w' g:=
 ⟨(hb.cell (p:=⟨g,0,none⟩) h.lt).trans h.c0,(hb.cell (p:=⟨g,1,none⟩) h.lt).trans h.c1,fun j=>(hb.frozen (p:=⟨g,j,none⟩) h.lt).trans (h.fz j),Nat.lt_of_lt_of_le h.lt hb.size⟩
theorem q9t(g gx gy y:Nat)(w:World)(h:IntAt w g 0 0)(hx:IntAt w gx 0 10)(hy:IntAt w gy 0 (y:Int))(hb:y<=20000000):
  Calls Tryz.prog 90 #[.pointer (some ⟨g,0,none⟩),.pointer (some ⟨gx,0,none⟩),.pointer (some ⟨gy,0,none⟩),.pointer none] w (q8P g 0 ((10^y:Nat):Int) w):=by
 rcases Nat.eq_zero_or_pos y with e|e
 ·subst e;exact A.Exp0 g 0 gx 0 gy 0 0 10 w h hx hy
 ·exact A.Exp g 0 gx 0 gy 0 0 10 y w h hx hy (by decide) e (by have:=q8V y;unfold Sz;omega) (by unfold Sz;have:bl y<=y:=q1F Nat.lt_two_pow_self;omega)
theorem Scaled(G F:Nat)(below neg:Bool)(mode:Nat)(Ad:Option Addr)(n c:Nat)(Bd:Option Addr)(m d N:Nat)(x:Int)(w:World)(g1:1<=G)(g2:G<=10)(h3:1<=F)(h4:F<=52)(hm:mode<=4)
  (ha:Rd w Ad n c (toL N)) (hb:Rd w Bd m d (toL 1)) (hn:n<=16384) (h0:below=true->0<N) (hx1:-4611686018427387904<=x) (hx2:x<=4611686018427387904) (hst:Std w) :
  Calls Tryz.prog 49 #[fm ((G:Int)+1) F,q2F below Ad n c Bd m d,.int .i64 x,.bool neg,.int .u8 (mode:Int)] w (q2e (q0k (G+1) F below neg mode (N*t10 x) (t10 (-x))) w):=by
 have c6:bl N<=524288:=by
  have k1:=q0o N;rw[ha.words,q38] at k1;have:=q1F k1;omega
 have eG:(((G+1:Nat):Int))=(G:Int)+1:=by omega
 have d7:=R3.chk_ok (Fms.formOk_in (E:=G+1) (F:=F) (by omega) (by omega) h3 h4);rw[eG] at d7;have i6:m=1:=hb.words.symm;obtain⟨w0,b4⟩:=yx (w.alloc (.cells #[.int .i64 ((G:Int)+1),.int .i64 (F:Int)] 23));obtain⟨w1,c7⟩:=yx (w0.alloc (.cells #[.bool below,.slice Ad n c,.slice Bd m d] 93));have d8:Below w.heap.size w w0:=by rw[b4];exact(Below.refl _ w).alloc lr _
 have d9:Below w0.heap.size w0 w1:=by rw[c7];exact(Below.refl _ w0).alloc lr _
 have f9:w0.heap.size=w.heap.size+1:=by rw[b4];simp
 have b5:FmAt w1 w.heap.size ((G:Int)+1) F:=(show FmAt w0 w.heap.size ((G:Int)+1) F by rw[b4];exact FmAt.made w _ _ _).below d9;have b1:RatioBox w1 (w.heap.size+1) below Ad n c Bd m d:=by rw[<- f9,c7];exact RatioBox.made w0 _ _ _ _ _ _ _ _
 have hB:Below w.heap.size w w1:=d8.trans (d9.mono d8.size);have a1:=vv b5;have HX:=vv b1;have HB:=vv hB;have i7:Hid (w1=(w.alloc (.cells #[.int .i64 ((G:Int)+1),.int .i64 (F:Int)] 23)).alloc (.cells #[.bool below,.slice Ad n c,.slice Bd m d] 93)):=vv (by rw[c7,b4]);have g0:=vv fun w=>Fms.Check ((G:Int)+1) F w
 rw[d7] at g0;have i8:=vv fun w' (h:Below w.heap.size w w')=>Rtp.Check below Ad n c Bd m d N 1 w' (ha.below h rfl) (hb.below h rfl) hn (by omega) (by decide) (Nat.gcd_one_right N) h0 (hst.fs (Fs.of_nil h))
 have g3:=vv fun w' (h:Below w.heap.size w w')=>q9P Ad n c N w' (ha.below h rfl) (by unfold Sz;omega)
 have e0:=vv fun w' (h:Below w.heap.size w w')=>q9P Bd m d 1 w' (hb.below h rfl) (by unfold Sz;decide)
 obtain⟨Q,hK⟩:=yx (q3c x (bl N+1+1200));have e3:-16778717<=Q/\Q<=16778717:=by rw[hK];unfold q3c;omega
 have e4:=vv fun w=>qaT x (bl N+1) w hx1 hx2 (by omega)
 have eK:q3c x (((bl N+1:Nat):Int)+1200)=Q:=by rw[hK];congr 1
 rw[eK] at e4;obtain⟨y,hy⟩:=yx (Q.natAbs);have i9:y<=16778717:=by omega
 have a6:max Q (-Q)=(y:Int):=by omega
 have g4:=q8V y;have j0:=q3q N (10^y);obtain⟨X,hX⟩:=yx (N*t10 Q);obtain⟨Y,hY⟩:=yx (t10 (-Q));have g5:0<Y:=by rw[hY];exact q33 _
 have b6:0<=Q->(N:Int)*((10^y:Nat):Int)=(X:Int)/\Y=1:=by
  intro h;have e1:Q.toNat=y:=by omega
  have e2:(-Q).toNat=0:=by omega
  rw[hX,hY];unfold t10;rw[e1,e2];exact⟨(Int.natCast_mul _ _).symm,rfl⟩
 have c8:Q<0->(1:Int)*((10^y:Nat):Int)=(Y:Int)/\X=N:=by
  intro h;have e1:(-Q).toNat=y:=by omega
  have e2:Q.toNat=0:=by omega
  rw[hX,hY];unfold t10;rw[e1,e2];exact⟨Int.one_mul _,Nat.mul_one _⟩
 have sX:Sm X:=by
  rcases Int.lt_or_le Q 0 with h|h
  ·rw[(c8 h).2];unfold Sm;omega
  ·have:=(b6 h).1;have e:X=N*10^y:=by
    have e1:Q.toNat=y:=by omega
    rw[hX];unfold t10;rw[e1]
   rw[e];unfold Sm;omega
 have sY:Sm Y:=by
  rcases Int.lt_or_le Q 0 with h|h
  ·have e1:(-Q).toNat=y:=by omega
   rw[hY];unfold t10 Sm;rw[e1];omega
  ·rw[(b6 h).2];unfold Sm;decide
 have hN:=q4R (E:=G+1) (F:=F) (N:=N) (below:=below) (neg:=neg) (mode:=mode) 1200 x (by omega) (by omega) h3 h4 (by omega);rw[<- hK,<- hX,<- hY] at hN;rw[<- hN];have e5:=vv fun w' g o g' o' (h:IntAt w' g o (X:Int)) (h':IntAt w' g' o' (Y:Int))=>q8X g o g' o' X Y G F below neg mode w' h h' g5 sX sY g1 g2 h3 h4 hm
 obtain⟨S,hS⟩:=yx (q0k (G+1) F below neg mode X Y);rw[<- hS] at e5 ⊢;obtain⟨T,hT⟩:=yx (10^y);have g6:=vv fun w' g gx gy (h:IntAt w' g 0 0) (hx:IntAt w' gx 0 10) (hy:IntAt w' gy 0 (y:Int))=>q9t g gx gy y w' h hx hy (by omega)
 rw[<- hT] at g6 b6 c8 g4;have j1:=vv fun w' g gp (h:IntAt w' g 0 (N:Int)) (hp:IntAt w' gp 0 (T:Int))=>A.Mul g 0 g 0 gp 0 (N:Int) (N:Int) (T:Int) w' h h hp (by rw[Int.natAbs_natCast];unfold Sz;omega) (by rw[Int.natAbs_natCast];unfold Sz;omega)
 have j2:=vv fun w' g gp (h:IntAt w' g 0 1) (hp:IntAt w' gp 0 (T:Int))=>A.Mul g 0 g 0 gp 0 1 1 (T:Int) w' h h hp (by unfold Sz;decide) (by rw[Int.natAbs_natCast];unfold Sz;omega)
 have j3:=vv b6;have j4:=vv c8;have k2:(mode:Int)<=4:=by omega
 have dm:decide ((4:Int)<(mode:Int))=false:=decide_eq_false (by omega);have e6:=vv fun w' g (h:IntAt w' g 0 (N:Int))=>A.BitLen g 0 (N:Int) w' h
 simp only[Int.natAbs_natCast] at e6;have e7:Hid (∀w' g,IntAt w' g 0 1->Calls Tryz.prog 54 #[.pointer (some ⟨g,0,none⟩)] w' fun e w''=>e=.returned (.int .i64 1)/\w'=w''):=vv fun w' g h=>(A.BitLen g 0 1 w' h).mono (fun e w'' h=>⟨by rw[h.1];rfl,h.2⟩)
 obtain⟨b,g7⟩:=yx (bl N);rw[<- g7] at e6 e4;have j5:Hid (IntKind.i64.wrap ((b:Int)+1)=((b+1:Nat):Int)):=vv (by rw[IntKind.wrap_i64];omega);have j6:=vv fun w'=>A.NewInt 10 w' (by decide) (by decide)
 have j7:=vv fun w'=>A.NewInt (y:Int) w' (by omega) (by omega)
 have k3:Q<=16778717:=e3.2;have k4:-16778717<=Q:=e3.1;have f0:=b5.c0;have f1:=b5.c1;have r0:=b1.c0;have r1:=b1.c1;have r2:=b1.c2;have l0:=b5.lt;have l1:=b1.lt;have j8:=vv a6;have k5:(y:Int)<=16778717:=by omega
 clear ha hb hn h0 hx1 hx2 hst c6 b4 c7 d8 d9 f9 b5 b1 hB hK e3 eK g4 j0 hm d7 hX hY g5 sX sY hN hS g7 eG i6 b6 c8 hT hy i9 a6;go_enter Tryz.func49,Tryz.ntmps49
 go_wp2_with fail
 rw[<- i7.o];refine(g0.o _).mono ?_;rintro e w2 ⟨rfl,c9⟩;have a1:=vv (a1.o.below c9);have HX:=vv (HX.o.below c9);have HB:=vn HB c9;obtain⟨r0,r1,r2,l1⟩:=HX.o;clear c9 f0 f1 l0;go_wp2_with fail
 refine(i8.o _ HB.o).mono ?_;rintro e w3 ⟨rfl,d0⟩;have a1:=vv (a1.o.below d0);have HX:=vv (HX.o.below d0);have HB:=vn HB d0;clear d0 r0 r1 r2 l1;go_wp2_with fail
 refine q01 (fun w'=>w'.cell? ⟨w.heap.size+1,1,none⟩=some (.slice Ad n c)/\w'.cell? ⟨w.heap.size+1,2,none⟩=some (.slice Bd m d)) 8
  (.still 0 (.still 1 (.still 3 (.still 4 (.two 2 (.two 5 (.still 6 (.one 7 .done)) 7 (.one 5 (.still 6 .done))) 7 (.one 2 (.one 5 (.still 6 .done))))))))
  (by kernel_rfl) (by kernel_rfl) (fun _ _ d _ _ h=>by cases d<;>exact h) ⟨HX.o.c1,HX.o.c2⟩ (fun hS0=>?_)
 have a1:Hid (FmAt w3.drew w.heap.size ((G:Int)+1) F):=vv (a1.o.below (q04 (Below.refl _ _)));have HX:Hid (RatioBox w3.drew (w.heap.size+1) below Ad n c Bd m d):=vv HX.o.drew;have HB:Hid (Below w.heap.size w w3.drew):=vv (q04 HB.o);obtain⟨wc,g8⟩:=yx (w3.drew);rw[<- g8] at a1 HX HB hS0 ⊢;clear g8
 iterate 4
  refine q00 (v:=?_) rfl (by rfl) ?_ ?_;rotate_left
  ·intro w b7;go_simp;with_reducible rfl
  simp only[Act.put,sa,sb,sc]
 refine q28 rfl (by rfl) rfl (by rfl) (fun K hK=>?_) (fun K hK=>?_)
 focus
  go_simp;refine(g3.o _ HB.o).mono ?_;rintro e wn ⟨gN,rfl,e8,hI,a0⟩;have d1:Hid (w.heap.size+1<gN):=vv (by have:=HX.o.lt;omega)
  try have b8:Hid (g≠gN):=vv (by have:=HZ.o.lt;omega)
  try have HZ:=vv (HZ.o.below a0)
  try have a2:=vv (a2.o.below a0)
  try have a3:=vv (a3.o.below a0)
  have a1:=vv (a1.o.below a0);have HX:=vv (HX.o.below a0);have HB:=vn HB a0;clear a0;have a2:=vv hI;clear hI e8;obtain⟨wc,rfl⟩:=yx wn;go_wp2_with fail
  refine hK.out _ _ ⟨HX.o.c1,HX.o.c2⟩ (fun a4=>?_);clear hK;refine q28 rfl (by rfl) rfl (by rfl) (fun K hK=>?_) (fun K hK=>?_)
  focus
   go_simp;refine(e0.o _ HB.o).mono ?_;rintro e wn ⟨gD,rfl,b9,hI,a0⟩;have c0:Hid (w.heap.size+1<gD):=vv (by have:=HX.o.lt;omega);have d2:Hid (gN≠gD):=vv (by have:=a2.o.lt;omega)
   try have b2:Hid (g≠gD):=vv (by have:=HZ.o.lt;omega)
   try have HZ:=vv (HZ.o.below a0)
   try have a2:=vv (a2.o.below a0)
   try have a3:=vv (a3.o.below a0)
   have a1:=vv (a1.o.below a0);have HX:=vv (HX.o.below a0);have HB:=vn HB a0;clear a0;have a3:=vv (show IntAt wn gD 0 1 from hI);clear hI b9;obtain⟨wc,rfl⟩:=yx wn;go_wp2_with fail
   refine hK.out _ _ ⟨HX.o.c1,HX.o.c2⟩ (fun a4=>?_);clear hK
   iterate 1
    refine q00 (v:=?_) rfl (by rfl) ?_ ?_;rotate_left
    ·intro w b7;go_simp;with_reducible rfl
    simp only[Act.put,sa,sb,sc]
   refine q06 rfl (by rfl) (fun K hK=>?_);go_simp;obtain⟨g,hg⟩:=yx (wc.heap.size);obtain⟨wn,a7⟩:=yx (wc.alloc (.cells #[.pointer none,.pointer none] 101));have a0:Below wc.heap.size wc wn:=by rw[a7];exact(Below.refl _ _).alloc lr _
   have hz:NbZero wn g:=by rw[a7,hg];exact NbZero.made _ _
   have c1:Hid (w.heap.size+1<g):=vv (by have:=HX.o.lt;omega)
   try have b8:Hid (g≠gN):=vv (by have:=a2.o.lt;omega)
   try have b2:Hid (g≠gD):=vv (by have:=a3.o.lt;omega)
   rw[<- a7,<- hg]
   try have HZ:=vv (HZ.o.below a0)
   try have a2:=vv (a2.o.below a0)
   try have a3:=vv (a3.o.below a0)
   have a1:=vv (a1.o.below a0);have HX:=vv (HX.o.below a0);have HB:=vn HB a0;clear a0;have HZ:=vv hz;clear hz a7 hg;obtain⟨wc,rfl⟩:=yx wn;go_wp2_with fail
   refine hK.out _ _ ⟨HX.o.c1,HX.o.c2⟩ (fun a4=>?_);clear hK
  rotate_left 1
  focus
   go_simp;obtain⟨g,hg⟩:=yx (wc.heap.size);obtain⟨wn,a7⟩:=yx (wc.alloc (.cells #[.pointer none,.pointer none] 101));have a0:Below wc.heap.size wc wn:=by rw[a7];exact(Below.refl _ _).alloc lr _
   have hz:NbZero wn g:=by rw[a7,hg];exact NbZero.made _ _
   have c1:Hid (w.heap.size+1<g):=vv (by have:=HX.o.lt;omega)
   try have b8:Hid (g≠gN):=vv (by have:=a2.o.lt;omega)
   try have b2:Hid (g≠gD):=vv (by have:=a3.o.lt;omega)
   rw[<- a7,<- hg]
   try have HZ:=vv (HZ.o.below a0)
   try have a2:=vv (a2.o.below a0)
   try have a3:=vv (a3.o.below a0)
   have a1:=vv (a1.o.below a0);have HX:=vv (HX.o.below a0);have HB:=vn HB a0;clear a0;have HZ:=vv hz;clear hz a7 hg;obtain⟨wc,rfl⟩:=yx wn;go_wp2_with fail
   refine hK.out _ _ ⟨HX.o.c1,HX.o.c2⟩ (fun a4=>?_);clear hK;refine q06 rfl (by rfl) (fun K hK=>?_);go_simp;refine(e0.o _ HB.o).mono ?_;rintro e wn ⟨gD,rfl,b9,hI,a0⟩;have c0:Hid (w.heap.size+1<gD):=vv (by have:=HX.o.lt;omega);have d2:Hid (gN≠gD):=vv (by have:=a2.o.lt;omega)
   try have b2:Hid (g≠gD):=vv (by have:=HZ.o.lt;omega)
   try have HZ:=vv (HZ.o.below a0)
   try have a2:=vv (a2.o.below a0)
   try have a3:=vv (a3.o.below a0)
   have a1:=vv (a1.o.below a0);have HX:=vv (HX.o.below a0);have HB:=vn HB a0;clear a0;have a3:=vv (show IntAt wn gD 0 1 from hI);clear hI b9;obtain⟨wc,rfl⟩:=yx wn;go_wp2_with fail
   refine hK.out _ _ ⟨HX.o.c1,HX.o.c2⟩ (fun a4=>?_);clear hK
   iterate 1
    refine q00 (v:=?_) rfl (by rfl) ?_ ?_;rotate_left
    ·intro w b7;go_simp;with_reducible rfl
    simp only[Act.put,sa,sb,sc]
 rotate_left 2
 focus
  go_simp;obtain⟨g,hg⟩:=yx (wc.heap.size);obtain⟨wn,a7⟩:=yx (wc.alloc (.cells #[.pointer none,.pointer none] 101));have a0:Below wc.heap.size wc wn:=by rw[a7];exact(Below.refl _ _).alloc lr _
  have hz:NbZero wn g:=by rw[a7,hg];exact NbZero.made _ _
  have c1:Hid (w.heap.size+1<g):=vv (by have:=HX.o.lt;omega)
  try have b8:Hid (g≠gN):=vv (by have:=a2.o.lt;omega)
  try have b2:Hid (g≠gD):=vv (by have:=a3.o.lt;omega)
  rw[<- a7,<- hg]
  try have HZ:=vv (HZ.o.below a0)
  try have a2:=vv (a2.o.below a0)
  try have a3:=vv (a3.o.below a0)
  have a1:=vv (a1.o.below a0);have HX:=vv (HX.o.below a0);have HB:=vn HB a0;clear a0;have HZ:=vv hz;clear hz a7 hg;obtain⟨wc,rfl⟩:=yx wn;go_wp2_with fail
  refine hK.out _ _ ⟨HX.o.c1,HX.o.c2⟩ (fun a4=>?_);clear hK;refine q06 rfl (by rfl) (fun K hK=>?_);go_simp;refine(g3.o _ HB.o).mono ?_;rintro e wn ⟨gN,rfl,e8,hI,a0⟩;have d1:Hid (w.heap.size+1<gN):=vv (by have:=HX.o.lt;omega)
  try have b8:Hid (g≠gN):=vv (by have:=HZ.o.lt;omega)
  try have HZ:=vv (HZ.o.below a0)
  try have a2:=vv (a2.o.below a0)
  try have a3:=vv (a3.o.below a0)
  have a1:=vv (a1.o.below a0);have HX:=vv (HX.o.below a0);have HB:=vn HB a0;clear a0;have a2:=vv hI;clear hI e8;obtain⟨wc,rfl⟩:=yx wn;go_wp2_with fail
  refine hK.out _ _ ⟨HX.o.c1,HX.o.c2⟩ (fun a4=>?_);clear hK;refine q06 rfl (by rfl) (fun K hK=>?_);go_simp;refine(e0.o _ HB.o).mono ?_;rintro e wn ⟨gD,rfl,b9,hI,a0⟩;have c0:Hid (w.heap.size+1<gD):=vv (by have:=HX.o.lt;omega);have d2:Hid (gN≠gD):=vv (by have:=a2.o.lt;omega)
  try have b2:Hid (g≠gD):=vv (by have:=HZ.o.lt;omega)
  try have HZ:=vv (HZ.o.below a0)
  try have a2:=vv (a2.o.below a0)
  try have a3:=vv (a3.o.below a0)
  have a1:=vv (a1.o.below a0);have HX:=vv (HX.o.below a0);have HB:=vn HB a0;clear a0;have a3:=vv (show IntAt wn gD 0 1 from hI);clear hI b9;obtain⟨wc,rfl⟩:=yx wn;go_wp2_with fail
  refine hK.out _ _ ⟨HX.o.c1,HX.o.c2⟩ (fun a4=>?_);clear hK
  iterate 1
   refine q00 (v:=?_) rfl (by rfl) ?_ ?_;rotate_left
   ·intro w b7;go_simp;with_reducible rfl
   simp only[Act.put,sa,sb,sc]
 all_goals
  refine q0d ?_;have z0:=HZ.o.c0;have z1:=HZ.o.c1;have fz:=HZ.o.fz;have zl:=HZ.o.lt;obtain⟨wl,b3⟩:=yx ((wc.setCell ⟨g,0,none⟩ (.pointer (some ⟨gN,0,none⟩))).setCell ⟨g,1,none⟩ (.pointer (some ⟨gD,0,none⟩)));have z0':(wc.setCell ⟨g,0,none⟩ (.pointer (some ⟨gN,0,none⟩))).cell? ⟨g,0,none⟩=some (.pointer (some ⟨gN,0,none⟩)):=q0u z0;have ne01:(⟨g,0,none⟩:Addr)≠⟨g,1,none⟩:=fun e=>by injection e with _ e;exact absurd e (by decide)
  have c2:IntAt wl gN 0 (N:Int):=by rw[b3];exact(a2.o.setPtr (j:=0) z0 _).setPtr (j:=1) z0' _
  have c3:IntAt wl gD 0 1:=by rw[b3];exact(a3.o.setPtr (j:=0) z0 _).setPtr (j:=1) z0' _
  have d3:Below g wc wl:=by rw[b3];exact((Below.refl g wc).setCell (p:=⟨g,0,none⟩) lr _).setCell (p:=⟨g,1,none⟩) lr _
  have c6:NbBox wl g gN 0 gD 0:=by rw[b3];exact⟨(q0i ne01.symm).trans z0',q0u ((q0i ne01).trans z1),by simpa [World.setCell] using zl⟩
  have a1:=vv (a1.o.belowLt d3 (by have:=c1.o;omega));have HX:=vv (HX.o.belowLt d3 (by have:=c1.o;omega));have HB:=vv (HB.o.trans (d3.mono (by have:=c1.o;omega)));have a2:=vv c2;have a3:=vv c3;have a5:=vv c6;have g9:=vv b3;clear z0' ne01 c2 c3 d3 c6 b3;go_wp2_with fail
  rw[<- g9.o];clear g9 z0 z1 fz zl;refine q01 (fun w'=>w'.cell? ⟨g,0,none⟩=some (.pointer (some ⟨gN,0,none⟩))/\w'.cell? ⟨g,1,none⟩=some (.pointer (some ⟨gD,0,none⟩))) 9
   (.still 0 (.still 1 (.still 2 (.still 4 (.still 5 (.one 3 (.one 6 (.still 7 (.one 8 .done))))))))) (by kernel_rfl) (by kernel_rfl) (fun _ _ d _ _ h=>by cases d<;>exact h) ⟨a5.o.c0,a5.o.c1⟩ (fun hS0=>?_)
  have a1:Hid (FmAt wl.drew w.heap.size ((G:Int)+1) F):=vv (a1.o.below (q04 (Below.refl _ _)));have HX:Hid (RatioBox wl.drew (w.heap.size+1) below Ad n c Bd m d):=vv HX.o.drew;have HB:Hid (Below w.heap.size w wl.drew):=vv (q04 HB.o);have a2:Hid (IntAt wl.drew gN 0 (N:Int)):=vv a2.o.drew;have a3:Hid (IntAt wl.drew gD 0 1):=vv a3.o.drew;have a5:Hid (NbBox wl.drew g gN 0 gD 0):=vv a5.o.drew;obtain⟨wd,i0⟩:=yx (wl.drew);rw[<- i0] at a1 HX HB a2 a3 a5 hS0 ⊢;clear i0;have xl:=a5.o.lt
  iterate 5
   refine q00 (v:=?_) rfl (by rfl) ?_ ?_;rotate_left
   ·intro w b7;go_simp;with_reducible rfl
   simp only[Act.put,sa,sb,sc]
  refine q06 rfl (by rfl) (fun K hK=>?_);go_simp;refine(e6.o _ gN a2.o).mono ?_;rintro e w' ⟨rfl,rfl⟩;go_wp2_with fail
  refine hK.out _ _ ⟨a5.o.c0,a5.o.c1⟩ (fun a4=>?_);clear hK;refine q06 rfl (by rfl) (fun K hK=>?_);go_simp;refine(e7.o _ gD a3.o).mono ?_;rintro e w' ⟨rfl,rfl⟩;go_wp2_with fail
  refine hK.out _ _ ⟨a5.o.c0,a5.o.c1⟩ (fun a4=>?_);clear hK
  iterate 1
   refine q00 (v:=?_) rfl (by rfl) ?_ ?_;rotate_left
   ·intro w b7;go_simp;with_reducible rfl
   simp only[Act.put,sa,sb,sc]
  rw[j5.o];refine q06 rfl (by rfl) (fun K hK=>?_);go_simp;refine(e4.o _).mono ?_;rintro e w' ⟨rfl,rfl⟩;go_wp2_with fail
  refine hK.out _ _ ⟨a5.o.c0,a5.o.c1⟩ (fun a4=>?_);clear hK xl;refine q0d ?_;obtain⟨gz,e9⟩:=yx (wd.heap.size);obtain⟨wz,d4⟩:=yx (wd.alloc (.cells #[.bool false,.slice none 0 0] 143));have i1:Below wd.heap.size wd wz:=by rw[d4];exact(Below.refl _ _).alloc lr _
  have c4:IntAt wz gz 0 0:=by rw[d4,e9];exact IntAt.zero _ _
  have a9:=vv i1;have a8:=vv c4;have i2:=vv d4;have f2:=vv e9;clear e9 d4 i1 c4;go_wp2_with fail
  rw[<- i2.o,<- f2.o];refine(j6.o _).mono ?_;rintro e wt ⟨gT,rfl,j9,i3,f3⟩;have a8:=vv (a8.o.below f3);have a9:=vn a9 f3;have d5:=vv i3;clear i3 f3 j9 i2;have a6:=j8.o;go_wp2_with fail
  clear a6;refine(j7.o _).mono ?_;rintro e wy ⟨gY,rfl,k0,i4,d6⟩;have a8:=vv (a8.o.below d6);have a9:=vn a9 d6;have d5:=vv (d5.o.below d6);have i5:=vv i4;clear i4 d6 k0;go_wp2_with fail
  refine(g6.o _ gz gT gY a8.o d5.o i5.o).mono ?_;rintro e we hP;have b0:=hP.below a9.o a9.o.size (by have:=f2.o;omega);obtain⟨rfl,c4,-⟩:=hP;have a8:=vv c4;have a1:=vv (a1.o.below b0);have HX:=vv (HX.o.below b0);have HB:=vn HB b0;have a2:=vv (a2.o.below b0);have a3:=vv (a3.o.below b0);have a5:=vv (a5.o.below b0);obtain⟨x0,x1,xl⟩:=a5.o;clear b0 c4 a9 d5 i5 f2;by_cases hneg:Q<0
  ·obtain⟨e1,e2⟩:=j4.o hneg;have dK:decide (Q<0)=true:=decide_eq_true hneg;have f4:=vv e1;have f5:=vv e2;clear e1 e2 hneg;go_wp2_with fail
   refine(j2.o _ gD gz a3.o a8.o).mono ?_;rintro e wm ⟨rfl,hi,hf⟩;rw[f4.o] at hi;have hF:=hf.fs a3.o hi;have f6:=vv hi;have f7:Hid (IntAt wm gN 0 (X:Int)):=vv (by rw[f5.o];exact a2.o.fs hF (by intro p hp k;simp at hp;rw[hp] at k;exact absurd k.symm d2.o));have HX:=vv (HX.o.fs hF (by intro p hp;simp at hp;rw[hp];have:=c0.o;show gD≠_;omega));have a1:=vv (a1.o.fs hF (by intro p hp;simp at hp;rw[hp];have:=c0.o;show gD≠_;omega));have a5:=vv (a5.o.fs hF (by intro p hp;simp at hp;rw[hp];exact Ne.symm b2.o));have HB:=vv (hF.below HB.o HB.o.size (by intro p hp;simp at hp;rw[hp];have:=c0.o;show w.heap.size<=gD;omega));clear hi hf hF;obtain⟨x0,x1,xl⟩:=a5.o;obtain⟨f0,f1,l0⟩:=a1.o;have r0:=HX.o.c0;have l1:=HX.o.lt;go_wp2_with fail
   refine(e5.o _ gN 0 gD 0 f7.o f6.o).mono ?_;rintro e w8 ⟨rfl,c5⟩;have f8:=vn HB c5;clear c5 x0 x1 xl f0 f1 l0 r0 l1;go_wp2;go_ret3
   exact⟨rfl,f8.o⟩
  ·obtain⟨e1,e2⟩:=j3.o (by omega);have dK:decide (Q<0)=false:=decide_eq_false hneg;have f4:=vv e1;have f5:=vv e2;clear e1 e2 hneg;go_wp2_with fail
   refine(j1.o _ gN gz a2.o a8.o).mono ?_;rintro e wm ⟨rfl,hi,hf⟩;rw[f4.o] at hi;have hF:=hf.fs a2.o hi;have f7:=vv hi;have f6:Hid (IntAt wm gD 0 (Y:Int)):=vv (by rw[f5.o];exact a3.o.fs hF (by intro p hp k;simp at hp;rw[hp] at k;exact absurd k d2.o));have HX:=vv (HX.o.fs hF (by intro p hp;simp at hp;rw[hp];have:=d1.o;show gN≠_;omega));have a1:=vv (a1.o.fs hF (by intro p hp;simp at hp;rw[hp];have:=d1.o;show gN≠_;omega));have a5:=vv (a5.o.fs hF (by intro p hp;simp at hp;rw[hp];exact Ne.symm b8.o));have HB:=vv (hF.below HB.o HB.o.size (by intro p hp;simp at hp;rw[hp];have:=d1.o;show w.heap.size<=gN;omega));clear hi hf hF;obtain⟨x0,x1,xl⟩:=a5.o;obtain⟨f0,f1,l0⟩:=a1.o;have r0:=HX.o.c0;have l1:=HX.o.lt;go_wp2_with fail
   refine(e5.o _ gN 0 gD 0 f7.o f6.o).mono ?_;rintro e w8 ⟨rfl,c5⟩;have f8:=vn HB c5;clear c5 x0 x1 xl f0 f1 l0 r0 l1;go_wp2;go_ret3
   exact⟨rfl,f8.o⟩
end Go.Proofs.YtcdimmblnbkjjaaGreatDoor.Rnd
namespace Go.Proofs.YtcdimmblnbkjjaaGreatDoor
open Go Go.RowKit
theorem DecBox.belowLt{B:Nat}{w w':World}{g:Nat}{neg:Bool}{s:ByteArray}{x:Int}(h:DecBox w g neg s x)(hb:Below B w w')(hl:g<B):DecBox w' g neg s x:=
 ⟨(hb.cell (p:=⟨g,0,none⟩) hl).trans h.c0,(hb.cell (p:=⟨g,1,none⟩) hl).trans h.c1,(hb.cell (p:=⟨g,2,none⟩) hl).trans h.c2,Nat.lt_of_lt_of_le h.lt hb.size⟩
end Go.Proofs.YtcdimmblnbkjjaaGreatDoor
namespace Go.Proofs.YtcdimmblnbkjjaaGreatDoor.Rea
open Go Go.RowKit R5
theorem q4D(G F:Nat)(neg:Bool)(mode:Nat)(x:Int)(w:World)(g1:1<=G)(g2:G<=10)(h3:1<=F)(h4:F<=52)(hm:mode<=4)
  (hx1:-4611686018427387904<=x) (hx2:x<=4611686018427387904) (hst:Std w) :
  Calls Tryz.prog 26 #[fm ((G:Int)+1) F,qa5 neg ⟨#[]⟩ x,.int .u8 (mode:Int)] w (q2e (q0k (G+1) F false neg mode 0 (t10 (-x))) w):=by
 have HS:=vv fun(X:Option Addr) n c (Y:Option Addr) m d w' (ha:Rd w' X n c (toL 0)) (hb:Rd w' Y m d (toL 1)) (hn:n<=16384) (hs:Std w')=>Rnd.Scaled G F false neg mode X n c Y m d 0 x w' g1 g2 h3 h4 hm ha hb hn (fun h=>absurd h (by decide)) hx1 hx2 hs
 rw[Nat.zero_mul] at HS;obtain⟨O,hO⟩:=yx (q0k (G+1) F false neg mode 0 (t10 (-x)));rw[<- hO] at HS ⊢;have b0:=vv hst;obtain⟨w0,a0⟩:=yx (w.alloc (.cells #[.int .i64 ((G:Int)+1),.int .i64 (F:Int)] 23));obtain⟨w1,a1⟩:=yx (w0.alloc (.cells #[.bool neg,.string ⟨#[]⟩,.int .i64 x] 25));have a3:Below w.heap.size w w0:=by rw[a0];exact(Below.refl _ w).alloc lr _
 have a4:Below w0.heap.size w0 w1:=by rw[a1];exact(Below.refl _ w0).alloc lr _
 have a5:w0.heap.size=w.heap.size+1:=by rw[a0];simp
 have a6:FmAt w1 w.heap.size ((G:Int)+1) F:=(show FmAt w0 w.heap.size ((G:Int)+1) F by rw[a0];exact FmAt.made w _ _ _).below a4;have a7:DecBox w1 (w.heap.size+1) neg ⟨#[]⟩ x:=by rw[<- a5,a1];exact DecBox.made w0 _ _ _ _
 have hB:Below w.heap.size w w1:=a3.trans (a4.mono a3.size);have HF:=vv a6;have HX:=vv a7;have HB:=vv hB;have b1:Hid (w1=(w.alloc (.cells #[.int .i64 ((G:Int)+1),.int .i64 (F:Int)] 23)).alloc (.cells #[.bool neg,.string ⟨#[]⟩,.int .i64 x] 25)):=vv (by rw[a1,a0]);have b5:(mode:Int)<=4:=by omega
 clear a0 a1 a3 a4 a5 a6 a7 hB hO hst g1 g2 h3 h4 hm;go_enter Tryz.func26,Tryz.ntmps26
 go_wp2_with fail
 rw[<- b1.o];refine(Nat_.Of1 _).mono ?_;rintro e w2 ⟨X,rfl,a8,a2⟩;have b2:=vv a8;have HF:=vv (HF.o.below a2);have HX:=vv (HX.o.below a2);have HB:=vn HB a2;obtain⟨x0,x1,x2,xl⟩:=HX.o;obtain⟨f0,f1,fl⟩:=HF.o;clear a8 a2;go_wp2_with fail
 have o2:=(Below.refl w2.heap.size w2).alloc (o:=.cells #[.bool false,.slice none 0 0,.slice X 1 1] 93) lr;refine(HS.o none 0 0 X 1 1 _ (by rw[q2Q];exact Rd.nil _) (b2.o.below o2 rfl) (by omega) (b0.o.fs (Fs.of_nil (HB.o.trans (o2.mono HB.o.size))))).mono ?_;have b3:=vn HB o2;clear o2;rintro e w3 ⟨rfl,a9⟩;have b4:=vn b3 a9;clear a9;go_wp2;go_ret3
 exact⟨rfl,b4.o⟩
theorem q4C(G F:Nat)(neg:Bool)(mode:Nat)(s:ByteArray)(x:Int)(w:World)(g1:1<=G)(g2:G<=10)(h3:1<=F)(h4:F<=52)(hm:mode<=4)
  (hd:q7L s) (h0:0<s.size) (hsz:s.size<=65536) (hf:q2J s 0≠48) (hx1:-4611686018427387904<=x) (hx2:x<=4611686018427387904) (hst:Std w) :
  Calls Tryz.prog 26 #[fm ((G:Int)+1) F,qa5 neg s x,.int .u8 (mode:Int)] w (q2e (q0k (G+1) F neg neg mode (dvk s s.size*t10 x) (t10 (-x))) w):=by
 have a0:=R11.digs_bound hd hsz;have b4:=R11.dvk_pos s hd h0 hf;have b9:=vv fun w=>Nat_.Parse s w hd h0 hsz
 obtain⟨N,hN⟩:=yx (dvk s s.size);rw[<- hN] at b9 a0 b4 ⊢;have HS:=vv fun(X:Option Addr) n c (Y:Option Addr) m d w' (ha:Rd w' X n c (toL N)) (hb:Rd w' Y m d (toL 1)) (hs:Std w')=>Rnd.Scaled G F neg neg mode X n c Y m d N x w' g1 g2 h3 h4 hm ha hb (by rw[<- ha.words];exact a0) (fun _=>b4) hx1 hx2 hs
 obtain⟨O,hO⟩:=yx (q0k (G+1) F neg neg mode (N*t10 x) (t10 (-x)));rw[<- hO] at HS ⊢;have d4:=vv hst;have d5:=q1V h0;obtain⟨w0,a8⟩:=yx (w.alloc (.cells #[.int .i64 ((G:Int)+1),.int .i64 (F:Int)] 23));obtain⟨w1,b1⟩:=yx (w0.alloc (.cells #[.bool neg,.string s,.int .i64 x] 25));have b5:Below w.heap.size w w0:=by rw[a8];exact(Below.refl _ w).alloc lr _
 have b6:Below w0.heap.size w0 w1:=by rw[b1];exact(Below.refl _ w0).alloc lr _
 have a9:w0.heap.size=w.heap.size+1:=by rw[a8];simp
 have c0:FmAt w1 w.heap.size ((G:Int)+1) F:=(show FmAt w0 w.heap.size ((G:Int)+1) F by rw[a8];exact FmAt.made w _ _ _).below b6;have c1:DecBox w1 (w.heap.size+1) neg s x:=by rw[<- a9,b1];exact DecBox.made w0 _ _ _ _
 have hB:Below w.heap.size w w1:=b5.trans (b6.mono b5.size);have HF:=vv c0;have HX:=vv c1;have HB:=vv hB;have d6:Hid (w1=(w.alloc (.cells #[.int .i64 ((G:Int)+1),.int .i64 (F:Int)] 23)).alloc (.cells #[.bool neg,.string s,.int .i64 x] 25)):=vv (by rw[b1,a8]);have d9:(mode:Int)<=4:=by omega
 clear a8 b1 b5 b6 a9 c0 c1 hB hO hst g1 g2 h3 h4 hm hd hf hN a0 b4 h0 hsz;go_enter Tryz.func26,Tryz.ntmps26
 go_wp2_with fail
 rw[<- d6.o];refine(Nat_.Of1 _).mono ?_;rintro e w2 ⟨Y,rfl,c2,b2⟩;have b7:=vv c2;have HF:=vv (HF.o.below b2);have HX:=vv (HX.o.below b2);have HB:=vn HB b2;obtain⟨x0,x1,xl⟩:=HX.o;have o2:=(Below.refl w2.heap.size w2).alloc (o:=.cells #[.bool false,.slice none 0 0,.slice Y 1 1] 93) lr;have hz:∀j,(w2.alloc (.cells #[.bool false,.slice none 0 0,.slice Y 1 1] 93)).frozen? ⟨w2.heap.size,j,none⟩=false:=fun j=>by simp only[World.frozen?];rw[heap_alloc_new];simp
 have hq:=RatioBox.made w2 false none 0 0 Y 1 1 93;obtain⟨w3,b8⟩:=yx (w2.alloc (.cells #[.bool false,.slice none 0 0,.slice Y 1 1] 93));rw[<- b8] at o2 hz hq;have c3:=vv b8;obtain⟨g,hg⟩:=yx (w2.heap.size);have a7:Hid (w.heap.size+1<g):=vv (by omega);have c4:∀a,Y=some a->a.block≠g:=fun a e=>by
  have:=b7.o.block_lt (by omega) a e;omega
 have c5:=vv c4;rw[<- hg] at hz hq;have HG:=vv hg;have HQ:=vv hq;have HZ:=vv hz;have a1:=vv (b7.o.below o2 rfl);have HF:=vv (HF.o.below o2);have HX:=vv (HX.o.below o2);have HB:=vn HB o2;clear c2 b2 o2 hz hq b8 b7 hg c4;go_wp2_with fail
 rw[<- c3.o,<- HG.o];clear c3 x0 x1 xl d5;refine(b9.o _).mono ?_;rintro e w4 ⟨X,n,rfl,c6,c7,a6⟩;have c8:Hid (∀a,X=some a->a.block≠g):=vv (fun a e=>by have:=(c7 a e).1;have:=HQ.o.lt;omega);have a2:=vv c6;have a1:=vv (a1.o.below a6 rfl);have HF:=vv (HF.o.below a6);have HX:=vv (HX.o.below a6);have HB:=vn HB a6;have HZ:Hid (∀j,w4.frozen? ⟨g,j,none⟩=false):=vv (fun j=>(a6.frozen (p:=⟨g,j,none⟩) HQ.o.lt).trans (HZ.o j));have HQ:=vv (HQ.o.below a6);have o5:=(Below.refl w4.heap.size w4).alloc (o:=.cells #[.slice X n n] 28) lr;have n5:(w4.alloc (.cells #[.slice X n n] 28)).cell? ⟨w4.heap.size,0,none⟩=some (.slice X n n):=by simp only[World.cell?];rw[heap_alloc_new];rfl
 obtain⟨w5,b3⟩:=yx (w4.alloc (.cells #[.slice X n n] 28));have nl:w4.heap.size<w5.heap.size:=by rw[b3];simp
 rw[<- b3] at o5 n5;obtain⟨h,hh⟩:=yx (w4.heap.size);have c9:g≠h:=by have:=HQ.o.lt;omega
 rw[<- hh] at n5 nl;have d0:=vv b3;have HH:=vv hh;have d1:=vv c9;have a3:=vv n5;have e0:=vv nl;have a2:=vv (a2.o.below o5 rfl);have a1:=vv (a1.o.below o5 rfl);have HF:=vv (HF.o.below o5);have HX:=vv (HX.o.below o5);have HB:=vn HB o5;have HZ:Hid (∀j,w5.frozen? ⟨g,j,none⟩=false):=vv (fun j=>(o5.frozen (p:=⟨g,j,none⟩) HQ.o.lt).trans (HZ.o j));have HQ:=vv (HQ.o.below o5);clear c6 c7 a6 o5 b3 hh c9 n5 nl;go_wp2_with fail
 rw[<- d0.o,<- HH.o];clear d0;refine q01 (fun w'=>w'.cell? ⟨w.heap.size+1,0,none⟩=some (.bool neg)/\w'.cell? ⟨h,0,none⟩=some (.slice X n n)) 7
  (.still 0 (.still 1 (.still 2 (.still 3 (.one 4 (.still 5 (.one 6 .done))))))) (by kernel_rfl) (by kernel_rfl) (fun _ _ d _ _ h=>by cases d<;>exact h) ⟨HX.o.c0,a3.o⟩ (fun hS0=>?_)
 have HF:Hid (FmAt w5.drew w.heap.size ((G:Int)+1) F):=vv (HF.o.below (q04 (Below.refl _ _)));have HX:Hid (DecBox w5.drew (w.heap.size+1) neg s x):=vv (HX.o.below (q04 (Below.refl _ _)));have HB:Hid (Below w.heap.size w w5.drew):=vv (q04 HB.o);have a2:Hid (Rd w5.drew X n n (toL N)):=vv a2.o.drew;have a1:Hid (Rd w5.drew Y 1 1 (toL 1)):=vv a1.o.drew;have HQ:Hid (RatioBox w5.drew g false none 0 0 Y 1 1):=vv HQ.o.drew;have HZ:Hid (∀j,w5.drew.frozen? ⟨g,j,none⟩=false):=vv HZ.o;have a3:Hid (w5.drew.cell? ⟨h,0,none⟩=some (.slice X n n)):=vv a3.o;obtain⟨wc,d2⟩:=yx (w5.drew);rw[<- d2] at HF HX HB a2 a1 HQ HZ a3 hS0 ⊢;clear d2;obtain⟨q0,q1,q2,ql⟩:=HQ.o;have fz:=HZ.o;have xl:=HX.o.lt
 iterate 4
  refine q00 (v:=?_) rfl (by rfl) ?_ ?_;rotate_left
  ·intro w d7;go_simp;with_reducible rfl
  simp only[Act.put,sa,sb,sc]
 refine q06 rfl (by rfl) (fun K hK=>?_);go_simp;obtain⟨wd,a0⟩:=yx (wc.setCell ⟨g,0,none⟩ (.bool neg));have a4:Below g wc wd:=by rw[a0];exact(Below.refl g wc).setCell (p:=⟨g,0,none⟩) lr _
 have HF:=vv (HF.o.belowLt a4 (by have:=a7.o;omega));have HX:=vv (HX.o.belowLt a4 (by have:=a7.o;omega));have HB:=vv (HB.o.trans (a4.mono (by have:=a7.o;omega)));have a2:Hid (Rd wd X n n (toL N)):=vv (by rw[a0];exact a2.o.other _ _ _ c8.o);have a1:Hid (Rd wd Y 1 1 (toL 1)):=vv (by rw[a0];exact a1.o.other _ _ _ c5.o);have a3:Hid (wd.cell? ⟨h,0,none⟩=some (.slice X n n)):=vv (by rw[a0];exact(q0i (fun e=>by injection e with e1;exact d1.o e1)).trans a3.o);have HZ:Hid (∀j,wd.frozen? ⟨g,j,none⟩=false):=vv (fun j=>by rw[a0];exact(World.frozen?_setCell _ _ _ _).trans (HZ.o j));have HQ:Hid (RatioBox wd g neg none 0 0 Y 1 1):=vv (by
  rw[a0];refine⟨?_,?_,?_,by simpa [World.setCell] using ql⟩
  ·exact q0u q0
  ·exact(q0i (fun e=>by injection e with _ e;omega)).trans q1
  ·exact(q0i (fun e=>by injection e with _ e;omega)).trans q2)
 rw[<- a0];clear a4 a0 q0 q1 q2 ql fz xl;obtain⟨q0,q1,q2,ql⟩:=HQ.o;have fz:=HZ.o;refine hK.out _ _ ⟨HX.o.c0,a3.o⟩ (fun b0=>?_);clear hK
 iterate 1
  refine q00 (v:=?_) rfl (by rfl) ?_ ?_;rotate_left
  ·intro w d7;go_simp;with_reducible rfl
  simp only[Act.put,sa,sb,sc]
 refine q06 rfl (by rfl) (fun K hK=>?_);go_simp;obtain⟨wl,a5⟩:=yx (wd.setCell ⟨g,1,none⟩ (.slice X n n));have a4:Below g wd wl:=by rw[a5];exact(Below.refl g wd).setCell (p:=⟨g,1,none⟩) lr _
 have HF:=vv (HF.o.belowLt a4 (by have:=a7.o;omega));have HX:=vv (HX.o.belowLt a4 (by have:=a7.o;omega));have HB:=vv (HB.o.trans (a4.mono (by have:=a7.o;omega)));have a2:Hid (Rd wl X n n (toL N)):=vv (by rw[a5];exact a2.o.other _ _ _ c8.o);have a1:Hid (Rd wl Y 1 1 (toL 1)):=vv (by rw[a5];exact a1.o.other _ _ _ c5.o);have a3:Hid (wl.cell? ⟨h,0,none⟩=some (.slice X n n)):=vv (by rw[a5];exact(q0i (fun e=>by injection e with e1;exact d1.o e1)).trans a3.o);have HZ:Hid (∀j,wl.frozen? ⟨g,j,none⟩=false):=vv (fun j=>by rw[a5];exact(World.frozen?_setCell _ _ _ _).trans (HZ.o j));have HQ:Hid (RatioBox wl g neg X n n Y 1 1):=vv (by
  rw[a5];refine⟨?_,?_,?_,by simpa [World.setCell] using ql⟩
  ·exact(q0i (fun e=>by injection e with _ e;omega)).trans q0
  ·exact q0u q1
  ·exact(q0i (fun e=>by injection e with _ e;omega)).trans q2)
 rw[<- a5];clear a4 a5 q0 q1 q2 ql fz;obtain⟨q0,q1,q2,ql⟩:=HQ.o;have fz:=HZ.o;refine hK.out _ _ ⟨HX.o.c0,a3.o⟩ (fun b0=>?_);clear hK;refine q0L rfl ?_;obtain⟨f0,f1,fl⟩:=HF.o;have x0:=HX.o.c0;have x2:=HX.o.c2;have xl:=HX.o.lt;clear fz;go_wp2_with fail
 refine(HS.o X n n Y 1 1 _ a2.o a1.o (d4.o.fs (Fs.of_nil HB.o))).mono ?_;rintro e w8 ⟨rfl,d3⟩;have d8:=vn HB d3;clear d3;go_wp2;go_ret3
 exact⟨rfl,d8.o⟩
end Go.Proofs.YtcdimmblnbkjjaaGreatDoor.Rea
namespace Go.Proofs.YtcdimmblnbkjjaaGreatDoor.Rea
open Go Go.RowKit R5 R16
theorem q5h(E F:Int)(kind:Nat)(neg dneg:Bool)(s:ByteArray)(x:Int)(hneg:Bool)(A:Option Addr)(n c:Nat)(xs:List Nat)(hx:Int)(p mode:Nat)(w:World)(hform:R3.formOk E F=false):
  Calls Tryz.prog 6 #[fm E F,numV kind neg dneg s x hneg A n c hx p,.int .u8 (mode:Int)] w (q49 (0,0,5) w):=by
 have a7:=vv fun w=>Fms.Check E F w
 rw[R3.chk_no hform] at a7;obtain⟨w0,a0⟩:=yx (w.alloc (.cells #[.int .i64 (E:Int),.int .i64 (F:Int)] 23));obtain⟨w1,a3⟩:=yx (w0.alloc (.cells #[.int .u8 ((kind:Int)),.bool neg,.bool dneg,.string s,.int .i64 x,.bool hneg,.slice A n c,.int .i64 hx,.int .u64 (p:Int)] 33));have a5:Below w.heap.size w w0:=by rw[a0];exact(Below.refl _ w).alloc lr _
 have a6:Below w0.heap.size w0 w1:=by rw[a3];exact(Below.refl _ w0).alloc lr _
 have a1:w0.heap.size=w.heap.size+1:=by rw[a0];simp
 have a2:FmAt w1 w.heap.size (E) (F):=(show FmAt w0 w.heap.size (E) (F) by rw[a0];exact FmAt.made w _ _ _).below a6;have a8:NumBox w1 (w.heap.size+1) kind neg dneg s x hneg A n c hx p:=by rw[<- a1,a3];exact NumBox.made w0 _ _ _ _ _ _ _ _ _ _ _ _
 have hB:Below w.heap.size w w1:=a5.trans (a6.mono a5.size);have HF:=vv a2;have HX:=vv a8;have HB:=vv hB;have a9:Hid (w1=(w.alloc (.cells #[.int .i64 (E:Int),.int .i64 (F:Int)] 23)).alloc (.cells #[.int .u8 ((kind:Int)),.bool neg,.bool dneg,.string s,.int .i64 x,.bool hneg,.slice A n c,.int .i64 hx,.int .u64 (p:Int)] 33)):=vv (by rw[a3,a0]);have f0:=a2.c0;have f1:=a2.c1;have l0:=a2.lt;clear a0 a3 a5 a6 a1 a2 a8 hB hform;go_enter Tryz.func6,Tryz.ntmps6
 go_wp2_with fail
 rw[<- a9.o];refine(a7.o _).mono ?_;rintro e w2 ⟨rfl,a4⟩;have HF:=vv (HF.o.below a4);have HX:=vv (HX.o.below a4);have HB:=vn HB a4;clear a4 f0 f1 l0;go_wp2;go_ret3
 exact⟨rfl,HB.o⟩
theorem q7F(G0 G1 kind:Nat)(neg dneg:Bool)(s:ByteArray)(x:Int)(hneg:Bool)(A:Option Addr)(n c:Nat)(xs:List Nat)(hx:Int)(p mode:Nat)(w:World)(g1:1<=G0)(g2:G0<=10)(g3:G1<=51)(hr:Rd w A n c xs)(hmax:(s.size:Int)<=4611686018427387904)(hst:Std w):
  Calls Tryz.prog 6 #[fm ((G0:Int)+1) ((G1:Int)+1),numV kind neg dneg s x hneg A n c hx p,.int .u8 (mode:Int)] w (q49 (q23 ((G0:Int)+1) ((G1:Int)+1) kind neg dneg s x hneg n xs hx p mode) w):=by
 have e0:((G0+1:Nat):Int)=(G0:Int)+1:=by omega
 have e1:((G1+1:Nat):Int)=(G1:Int)+1:=by omega
 have b7:R3.formOk ((G0:Int)+1) ((G1:Int)+1)=true:=by
  unfold R3.formOk;rw[decide_eq_true (p:=(2:Int)<=(G0:Int)+1) (by omega),decide_eq_true (p:=(G0:Int)+1<=11) (by omega),decide_eq_true (p:=(1:Int)<=(G1:Int)+1) (by omega),decide_eq_true (p:=(G1:Int)+1<=52) (by omega)];rfl
 have b8:=fun w=>Fms.Check ((G0:Int)+1) ((G1:Int)+1) w
 rw[R3.chk_ok b7] at b8;have d6:=vv b8;have a2:=vv fun w' (h:Below w.heap.size w w')=>Lex.Check kind neg dneg s x hneg A n c xs hx p w' (hr.below h rfl) hmax
 obtain⟨O,hO⟩:=yx (q23 ((G0:Int)+1) ((G1:Int)+1) kind neg dneg s x hneg n xs hx p mode);rw[<- hO];unfold q23 at hO;rw[b7,if_neg (by decide),show((G0:Int)+1).toNat=G0+1 by omega,show((G1:Int)+1).toNat=G1+1 by omega,Nat.add_sub_cancel] at hO;obtain⟨b,b9⟩:=yx (q1o kind neg dneg s x hneg n xs hx p);rw[<- b9] at a2 hO;have HO:=vv hO;have c9:=vv b9;have HR:=vv hr;have d3:=vv hst;obtain⟨w0,a3⟩:=yx (w.alloc (.cells #[.int .i64 ((G0:Int)+1),.int .i64 ((G1:Int)+1)] 23));obtain⟨w1,a7⟩:=yx (w0.alloc (.cells #[.int .u8 (kind:Int),.bool neg,.bool dneg,.string s,.int .i64 x,.bool hneg,.slice A n c,.int .i64 hx,.int .u64 (p:Int)] 33));have d0:Below w.heap.size w w0:=by rw[a3];exact(Below.refl _ w).alloc lr _
 have d1:Below w0.heap.size w0 w1:=by rw[a7];exact(Below.refl _ w0).alloc lr _
 have a4:w0.heap.size=w.heap.size+1:=by rw[a3];simp
 have HF:=vv ((show FmAt w0 w.heap.size ((G0:Int)+1) ((G1:Int)+1) by rw[a3];exact FmAt.made w _ _ _).below d1);have HX:Hid (NumBox w1 (w.heap.size+1) kind neg dneg s x hneg A n c hx p):=vv (by rw[<- a4,a7];exact NumBox.made w0 _ _ _ _ _ _ _ _ _ _ _ _);have HB:=vv (d0.trans (d1.mono d0.size));have d7:Hid (w1=(w.alloc (.cells #[.int .i64 ((G0:Int)+1),.int .i64 ((G1:Int)+1)] 23)).alloc (.cells #[.int .u8 (kind:Int),.bool neg,.bool dneg,.string s,.int .i64 x,.bool hneg,.slice A n c,.int .i64 hx,.int .u64 (p:Int)] 33)):=vv (by rw[a7,a3]);have HG:=vv (And.intro g1 (And.intro g2 g3));have HE:=vv (And.intro e0 e1);obtain⟨f0,f1,fl⟩:=HF.o;clear a3 a7 d0 d1 a4 b7 hO b9 hr hst g1 g2 g3 e0 e1 b8;go_enter Tryz.func6,Tryz.ntmps6
 go_wp2_with fail
 rw[<- d7.o];refine(d6.o _).mono ?_;rintro e w2 ⟨rfl,a8⟩;have HF:=vv (HF.o.below a8);have HX:=vv (HX.o.below a8);have HB:=vn HB a8;clear a8 f0 f1 fl;obtain⟨c0,c1,c2,c3,c4,c5,c6,c7,c8,cl⟩:=HX.o;cases b
 ·have HO:Hid _:=vv (HO.o.trans (if_pos rfl));rw[q4p] at a2;go_wp2_with fail
  refine(a2.o _ HB.o).mono ?_;rintro e w3 ⟨rfl,a1⟩;have HB:=vn HB a1;clear a1 c0 c1 c2 c3 c4 c5 c6 c7 c8 cl;go_wp2;go_ret3
  rw[HO.o];exact⟨rfl,HB.o⟩
 rw[q4V] at a2;have HO:Hid _:=vv (HO.o.trans (if_neg (by decide)));go_wp2_with fail
 refine(a2.o _ HB.o).mono ?_;rintro e w3 ⟨rfl,a1⟩;have HF:=vv (HF.o.below a1);have HX:=vv (HX.o.below a1);have HB:=vn HB a1;clear a1 c0 c1 c2 c3 c4 c5 c6 c7 c8 cl;by_cases hm:4<mode
 ·have dm:decide ((4:Int)<(mode:Int))=true:=decide_eq_true (by omega);have HO:Hid _:=vv (HO.o.trans (if_pos hm));clear hm;go_wp2;go_ret3
  rw[HO.o];exact⟨rfl,HB.o⟩
 have dm:decide ((4:Int)<(mode:Int))=false:=decide_eq_false (by omega);have HO:Hid _:=vv (HO.o.trans (if_neg hm));have HM:=vv (show mode<=4 by omega);clear hm;obtain⟨f0,f1,fl⟩:=HF.o;obtain⟨c0,c1,c2,c3,c4,c5,c6,c7,c8,cl⟩:=HX.o;rcases R16.numOk_kind c9.o.symm with rfl|rfl|rfl|rfl
 ·have HA:Hid _:=vv (HO.o.trans (if_pos rfl));obtain⟨b1,b2,b3,b4⟩:=R16.decMay_facts (R16.numOk_dec c9.o.symm);have a5:∀w',Below w.heap.size w w'->Calls Tryz.prog 26 #[fm ((G0:Int)+1) ((G1:Int)+1),qa5 dneg s x,.int .u8 (mode:Int)] w' (q2e (q3l (G0+1) (G1+1) dneg s x mode) w'):=by
   intro w' h;obtain⟨g1,g2,g3⟩:=HG.o;rcases b4 with h0|⟨h0,hd,hb⟩
   ·have d8:=R16.bytes_none h0;have eq:q3l (G0+1) (G1+1) dneg s x mode=q0k (G0+1) (G1+1) false dneg mode 0 (t10 (-x)):=by
     unfold q3l;rw[h0,q44,Nat.zero_mul,q4Q]
    have k:=q4D G0 (G1+1) dneg mode x w' (by omega) (by omega) (by omega) (by omega) HM.o (by omega) (by omega) (d3.o.fs (Fs.of_nil h));rw[eq,d8]
    simpa only[HE.o.1,HE.o.2] using k
   ·have k:=q4C G0 (G1+1) dneg mode s x w' (by omega) (by omega) (by omega) (by omega) HM.o hd h0 b3 hb (by omega) (by omega) (d3.o.fs (Fs.of_nil h));unfold q3l
    simpa only[HE.o.1,HE.o.2] using k
  have a6:=vv a5;obtain⟨D,hD⟩:=yx (q3l (G0+1) (G1+1) dneg s x mode);rw[<- hD] at a6 HA;clear a5 hD b1 b2 b3 b4;go_wp2_with fail
  refine(a6.o _ HB.o).mono ?_;rintro e w4 ⟨rfl,a0⟩;have HB:=vn HB a0;clear a0;go_wp2;go_ret3
  rw[HA.o];exact⟨rfl,HB.o⟩
 ·have HA:Hid _:=vv (HO.o.trans ((if_neg (by decide)).trans (if_pos rfl)));have ht:=R16.numOk_hex c9.o.symm;obtain⟨hk,b1,b2⟩:=R16.twoOk_facts ht;obtain⟨d4,d5⟩:=R16.natOk_facts hk;have d2:xs=toL (val xs):=by
   have h5:=q1J HR.o.lim (n:=n) (fun i hi=>by rw[List.getD_eq_getElem?_getD,List.getElem?_eq_none (by rw[HR.o.len];exact hi)];rfl) (d5.imp id (fun h=>⟨by rw[HR.o.len];exact lr,h⟩));rw[<- h5,<- HR.o.len,List.take_length]
  have a5:∀w',Below w.heap.size w w'->Calls Tryz.prog 27 #[fm ((G0:Int)+1) ((G1:Int)+1),q7l hneg A n c hx,.bool neg,.int .u8 (mode:Int)] w' (q2e (q0k (G0+1) (G1+1) hneg neg mode (val xs*p2 hx) (p2 (-hx))) w'):=by
   intro w' h;obtain⟨g1,g2,g3⟩:=HG.o;have d9:Rd w' A n c (toL (val xs)):=by rw[<- d2];exact HR.o.below h rfl
   rw[d2] at ht;have k:=Rnd.Dyadic G0 (G1+1) hneg neg mode A n c (val xs) hx w' (by omega) (by omega) (by omega) (by omega) HM.o d9 d4 ht (by omega) (by omega)
   simpa only[HE.o.1,HE.o.2] using k
  have a6:=vv a5;obtain⟨D,hD⟩:=yx (q0k (G0+1) (G1+1) hneg neg mode (val xs*p2 hx) (p2 (-hx)));rw[<- hD] at a6 HA;clear a5 hD b1 b2 ht hk d4 d5 d2;go_wp2_with fail
  refine(a6.o _ HB.o).mono ?_;rintro e w4 ⟨rfl,a0⟩;have HB:=vn HB a0;clear a0;go_wp2;go_ret3
  rw[HA.o];exact⟨rfl,HB.o⟩
 ·have HA:Hid _:=vv (HO.o.trans ((if_neg (by decide)).trans ((if_neg (by decide)).trans (if_pos rfl))));have a9:=fun w=>Fms.Inf (G0+1) (G1+1) neg w (by have:=HG.o;omega) (by have:=HG.o;omega) (by omega) (by have:=HG.o;omega)
  obtain⟨D,hD⟩:=yx (sgb (G0+1) (G1+1) neg+(2^(G0+1)-1)*2^(G1+1));rw[<- hD] at a9 HA;simp only[HE.o.1,HE.o.2] at a9;have e2:=vv a9;clear a9 hD;go_wp2_with fail
  refine(e2.o _).mono ?_;rintro e w4 ⟨rfl,a0⟩;have HB:=vn HB a0;clear a0;go_wp2;go_ret3
  rw[HA.o];exact⟨rfl,HB.o⟩
 ·have HA:Hid _:=vv (HO.o.trans ((if_neg (by decide)).trans ((if_neg (by decide)).trans (if_neg (by decide)))));have hG:(G1:Int)<=51:=by have:=HG.o;omega
  have b0:(p:Int)/2^G1=((p/R3.tw G1:Nat):Int):=by unfold R3.tw;rw[Int.natCast_ediv,Int.natCast_pow];rfl
  obtain⟨v,hv⟩:=yx (p/R3.tw G1);rw[<- hv] at b0;by_cases hp:R3.tw G1<=p
  ·have b5:0<v:=by rw[hv];exact Nat.div_pos hp (R3.tw_pos G1)
   have dq:((v:Int)==0)=false:=by rw[beq_eq_false_iff_ne];omega
   have HA:Hid _:=vv (HA.o.trans (if_pos hp));clear hv b5 hp;go_wp2;go_ret3
   rw[HA.o];exact⟨rfl,HB.o⟩
  ·have b5:v=0:=by rw[hv];exact Nat.div_eq_of_lt (Nat.lt_of_not_le hp)
   rw[b5] at b0;have e3:(p:Int)/2^G1=0:=b0;have HA:Hid _:=vv (HA.o.trans (if_neg hp));have b6:=fun w=>Fms.NaN (G0+1) G1 p neg w (by have:=HG.o;omega) (by have:=HG.o;omega) (by omega) (Nat.lt_of_not_le hp)
   obtain⟨D,hD⟩:=yx (sgb (G0+1) (G1+1) neg+((2^(G0+1)-1)*2^(G1+1)+(2^G1+p)));rw[<- hD] at b6 HA;simp only[HE.o.1] at b6;have e4:=vv b6;clear b0 b6 hD hv b5 hp;go_wp2_with fail
   refine(e4.o _).mono ?_;rintro e w4 ⟨rfl,a0⟩;have HB:=vn HB a0;clear a0;go_wp2;go_ret3
   rw[HA.o];exact⟨rfl,HB.o⟩
theorem Number(E F:Int)(kind:Nat)(neg dneg:Bool)(s:ByteArray)(x:Int)(hneg:Bool)(A:Option Addr)(n c:Nat)(xs:List Nat)(hx:Int)(p mode:Nat)(w:World)(hr:Rd w A n c xs)(hmax:(s.size:Int)<=4611686018427387904)(hst:Std w):
  Calls Tryz.prog 6 #[fm E F,numV kind neg dneg s x hneg A n c hx p,.int .u8 (mode:Int)] w (q49 (q23 E F kind neg dneg s x hneg n xs hx p mode) w):=by
 rcases(Bool.eq_false_or_eq_true (R3.formOk E F)).symm with hf|hf
 ·have e:q23 E F kind neg dneg s x hneg n xs hx p mode=(0,0,5):=by unfold q23;rw[if_pos hf]
  rw[e];exact q5h E F kind neg dneg s x hneg A n c xs hx p mode w hf
 obtain⟨e,f,rfl,rfl,h1,h2,h3,h4⟩:=R3.formOk_nat hf;obtain⟨g,rfl⟩:∃g,e=g+1:=⟨e-1,by omega⟩;obtain⟨k,rfl⟩:∃k,f=k+1:=⟨f-1,by omega⟩;have eg:((g+1:Nat):Int)=(g:Int)+1:=by omega
 have ek:((k+1:Nat):Int)=(k:Int)+1:=by omega
 rw[eg,ek];exact q7F g k kind neg dneg s x hneg A n c xs hx p mode w (by omega) (by omega) (by omega) hr hmax hst
end Go.Proofs.YtcdimmblnbkjjaaGreatDoor.Rea
