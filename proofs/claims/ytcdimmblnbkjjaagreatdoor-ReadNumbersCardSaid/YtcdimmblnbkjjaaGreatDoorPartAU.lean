/- Lemmas. -/
import Derived.Test.YtcdimmblnbkjjaaGreatDoorPartAT
set_option linter.all false
set_option maxHeartbeats 4000000
set_option maxRecDepth 100000
namespace Go.Proofs.YtcdimmblnbkjjaaGreatDoor.R5
open Go Go.RowKit
theorem q9b(g a b:Nat)(q:Int)(neg:Bool)(mode:Nat)(w:World)(hx:RatAt w g (a:Int) b)(hq:-2147483648<=q)(hq':q<=2147483648)(sa:bl a<=1073741824)(sb:bl b<=1073741824)(hst:Std w)(hm:mode<=4):
  Calls Tryz.prog 121 #[.pointer (some ⟨g,0,none⟩),.int .i64 q,.bool neg,.int .u8 (mode:Int)] w (q1h ((rnd neg mode (a*p2 (-q)) (b*p2 q)*p2 q:Nat):Int) (p2 (-q)) w):=by
 have HX:=vv hx;have a3:=vv hst;have e1:=hx.lt;have c3:bl (p2 q)<=2147483649:=by unfold p2;rw[q1n];omega
 have c4:bl (p2 (-q))<=2147483649:=by unfold p2;rw[q1n];omega
 have hA:=q0z a (p2 (-q));have hB:=q0z b (p2 q);have c5:bl (rnd neg mode (a*p2 (-q)) (b*p2 q))<=3758096384:=by
  have h1:=q7O neg mode (a*p2 (-q)) (b*p2 q);have h2:=Nat.div_le_self (a*p2 (-q)) (b*p2 q);have h3:=q5a (Nat.le_trans h1 (Nat.add_le_add_right h2 1));have h4:=q4O (a*p2 (-q)) 1;have h5:bl 1=1:=rfl;omega
 have a0:Hid (Sz a/\Sz b/\Sz (p2 q)/\Sz (p2 (-q))/\Sm (a*p2 (-q))/\Sm (b*p2 q)/\Sz (rnd neg mode (a*p2 (-q)) (b*p2 q))):=vv (by unfold Sz Sm;exact⟨by omega,by omega,by omega,by omega,by omega,by omega,by omega⟩);have c6:=vv fun w=>q4v (-q) w (by omega) (by omega)
 have c7:=vv fun w=>q4v q w (by omega) (by omega)
 have HE:Hid (- -q=q):=vv (by omega);have HC:Hid (((a:Int)*((p2 (-q):Nat):Int))=((a*p2 (-q):Nat):Int)/\(((rnd neg mode (a*p2 (-q)) (b*p2 q):Nat):Int)*((p2 q:Nat):Int))=((rnd neg mode (a*p2 (-q)) (b*p2 q)*p2 q:Nat):Int)/\1*p2 (-q)=p2 (-q)):=vv ⟨by rw[Int.natCast_mul],by rw[Int.natCast_mul],Nat.one_mul _⟩;clear hx hst sa sb c3 c4 hA hB c5;go_enter Tryz.func121,Tryz.ntmps121
 go_wp2_with fail
 obtain⟨z1,z2⟩:=q0y w;obtain⟨w0,b2⟩:=yx (w.alloc q1H);rw[<- b2] at z1 z2 ⊢;have c8:=vv z1;have c9:=vv z2;clear z1 z2 b2;refine(c6.o _).mono ?_;rintro e w1 ⟨g1,rfl,e2,b3,a4⟩;have d0:=vv b3;have d1:=vv (c8.o.below a4);have a1:=vn c9 a4;clear b3 a4;go_wp2_with fail
 refine(B.MulR w.heap.size g g1 _ _ _ _ _ d1.o.sh (HX.o.below a1.o) d0.o (a3.o.fs (Fs.of_nil a1.o)) (by exact a0.o.1) a0.o.2.1 (by exact a0.o.2.2.2.1) (by rw[HE.o];exact a0.o.2.2.1)).mono ?_;rintro e w2 hP;rw[HE.o,HC.o.1] at hP;have b4:=vv (hP.below a1.o a1.o.size lr);obtain⟨rfl,b5,-⟩:=hP;have d2:=vv b5;clear b5;go_wp2_with fail
 refine(q3T w.heap.size (a*p2 (-q)) (b*p2 q) neg mode _ d2.o a0.o.2.2.2.2.1 a0.o.2.2.2.2.2.1 (a3.o.fs (Fs.of_nil b4.o)) hm).mono ?_;rintro e w3 ⟨g3,rfl,e3,a5,b6⟩;have d3:=vv a5;have b7:=vn b4 b6;have d4:=a5.lt;have d5:=b7.o.size;clear a5 b6;go_wp2_with fail
 obtain⟨z1,z2,z3⟩:=q5i w3;obtain⟨w4,b8⟩:=yx ((w3.alloc q1H).alloc q1H);rw[<- b8] at z1 z2 z3 ⊢;have a6:=vv z1;have a7:=vv z2;have d6:=vv (d3.o.below z3);have b9:=vn b7 z3;clear z1 z2 z3 b8;refine(B.SetInt (w3.heap.size+1) g3 _ _ a7.o.sh d6.o).mono ?_;rintro e w5 hP;have a8:=vv (a6.o.fs1 hP.2.2 (by omega));have d7:=vv (hP.below b9.o b9.o.size (by omega));obtain⟨rfl,c0,-⟩:=hP;have a9:=vv c0;clear c0;go_wp2_with fail
 refine(c7.o _).mono ?_;rintro e w6 ⟨g6,rfl,e4,c1,a2⟩;have d8:=vv c1;have a9:=vv (a9.o.below a2);have b0:=vv (a8.o.below a2);have b1:=vn d7 a2;clear c1 a2;go_wp2_with fail
 refine(B.MulR w3.heap.size (w3.heap.size+1) g6 _ _ _ _ _ b0.o.sh a9.o d8.o (a3.o.fs (Fs.of_nil b1.o)) (by exact a0.o.2.2.2.2.2.2) (by unfold Sz;decide) (by exact a0.o.2.2.1) a0.o.2.2.2.1).mono ?_;rintro e w7 hP;rw[HC.o.2.1,HC.o.2.2] at hP;have d9:=vv (hP.below b1.o b1.o.size (by omega));obtain⟨rfl,c2,-⟩:=hP;have e0:=vv c2;clear c2;go_wp2;go_ret
 exact⟨_,rfl,by omega,e0.o,d9.o⟩
theorem q7H(E:Nat)(F:Int)(w:World)(h1:2<=E)(h2:E<=11):
  Calls Tryz.prog 124 #[fm E F] w (q1h ((p2 (1-q09 E):Nat):Int) (p2 (q09 E-1)) w):=by
 have a4:=q0X h1;have a5:=q1S h2;have HP:=vv fun w=>q4v (1-q09 E) w (by omega) (by omega)
 have HE:Hid (-(1-q09 E)=q09 E-1):=vv (by omega);have HB:=vv fun w=>q8A E F w h1 h2
 clear h1 h2;go_enter Tryz.func124,Tryz.ntmps124
 go_wp2_with fail
 refine(HB.o _).mono ?_;rintro e w1 ⟨rfl,a0⟩;have a1:Hid (Below w.heap.size w w1):=vv (((Below.refl _ w).alloc lr _).trans (a0.mono (by simp)));clear a0;go_wp2_with fail
 refine(HP.o _).mono ?_;rintro e w2 ⟨g,rfl,hg,hR,a2⟩;have hs:=a1.o.size;have HR:=vv hR;have a3:=vn a1 a2;rw[HE.o] at HR;clear hR a2;go_wp2;go_ret
 exact⟨_,rfl,by omega,HR.o,a3.o⟩
theorem q7Y(E F:Nat)(neg:Bool)(mode:Nat)(w:World)(h1:2<=E)(h2:E<=11)(h3:1<=F)(h4:F<=52)(hm:mode<=4):
  Calls Tryz.prog 126 #[fm E F,.bool neg,.int .u8 (mode:Int)] w fun e w'=>e=.returned (.int .u64 ((if q0T neg mode then q1P E F-1 else q1P E F:Nat):Int))/\Below w.heap.size w w':=by
 have HV:Hid (IntKind.u64.wrap (IntKind.u64.wrap (2^(E+F))-IntKind.u64.wrap (2^F))=((q1P E F:Nat):Int)/\IntKind.u64.wrap (((q1P E F:Nat):Int)-1)=((q1P E F-1:Nat):Int)):=by
  have a1:2^(F+1)<=2^(E+F):=Nat.pow_le_pow_right (by omega) (by omega);have a2:2^(E+F)<=2^63:=Nat.pow_le_pow_right (by omega) (by omega);have a3:=Nat.two_pow_pos F;rw[Nat.pow_succ] at a1;refine vv ⟨?_,?_⟩
  ·rw[q5g (by omega),q5g (by omega),IntKind.wrap_u64];unfold q1P;omega
  ·rw[IntKind.wrap_u64];unfold q1P;omega
 rcases(by omega:mode=0\/mode=1\/mode=2\/mode=3\/mode=4) with a0|a0|a0|a0|a0<;>cases neg
 ·have HI:Hid (q0T false mode=false):=vv (by rw[a0];rfl);have t0:((mode:Int)==2)=false:=by rw[a0];rfl
  have t1:((mode:Int)==3)=false:=by rw[a0];rfl
  have t2:((mode:Int)==4)=false:=by rw[a0];rfl
  rw[HI.o,if_neg (by decide)];clear HI a0 hm h1;go_enter Tryz.func126,Tryz.ntmps126
  go_wp2;go_ret
  exact⟨q0i (by rw[HV.o.1]),(Below.refl _ _).alloc lr _⟩
 ·have HI:Hid (q0T true mode=false):=vv (by rw[a0];rfl);have t0:((mode:Int)==2)=false:=by rw[a0];rfl
  have t1:((mode:Int)==3)=false:=by rw[a0];rfl
  have t2:((mode:Int)==4)=false:=by rw[a0];rfl
  rw[HI.o,if_neg (by decide)];clear HI a0 hm h1;go_enter Tryz.func126,Tryz.ntmps126
  go_wp2;go_ret
  exact⟨q0i (by rw[HV.o.1]),(Below.refl _ _).alloc lr _⟩
 ·have HI:Hid (q0T false mode=false):=vv (by rw[a0];rfl);have t0:((mode:Int)==2)=false:=by rw[a0];rfl
  have t1:((mode:Int)==3)=false:=by rw[a0];rfl
  have t2:((mode:Int)==4)=false:=by rw[a0];rfl
  rw[HI.o,if_neg (by decide)];clear HI a0 hm h1;go_enter Tryz.func126,Tryz.ntmps126
  go_wp2;go_ret
  exact⟨q0i (by rw[HV.o.1]),(Below.refl _ _).alloc lr _⟩
 ·have HI:Hid (q0T true mode=false):=vv (by rw[a0];rfl);have t0:((mode:Int)==2)=false:=by rw[a0];rfl
  have t1:((mode:Int)==3)=false:=by rw[a0];rfl
  have t2:((mode:Int)==4)=false:=by rw[a0];rfl
  rw[HI.o,if_neg (by decide)];clear HI a0 hm h1;go_enter Tryz.func126,Tryz.ntmps126
  go_wp2;go_ret
  exact⟨q0i (by rw[HV.o.1]),(Below.refl _ _).alloc lr _⟩
 ·have HI:Hid (q0T false mode=true):=vv (by rw[a0];rfl);have t0:((mode:Int)==2)=true:=by rw[a0];rfl
  have t1:((mode:Int)==3)=false:=by rw[a0];rfl
  have t2:((mode:Int)==4)=false:=by rw[a0];rfl
  rw[HI.o,if_pos rfl];clear HI a0 hm h1;go_enter Tryz.func126,Tryz.ntmps126
  go_wp2;go_ret
  exact⟨q0i (by rw[HV.o.1,HV.o.2]),(Below.refl _ _).alloc lr _⟩
 ·have HI:Hid (q0T true mode=true):=vv (by rw[a0];rfl);have t0:((mode:Int)==2)=true:=by rw[a0];rfl
  have t1:((mode:Int)==3)=false:=by rw[a0];rfl
  have t2:((mode:Int)==4)=false:=by rw[a0];rfl
  rw[HI.o,if_pos rfl];clear HI a0 hm h1;go_enter Tryz.func126,Tryz.ntmps126
  go_wp2;go_ret
  exact⟨q0i (by rw[HV.o.1,HV.o.2]),(Below.refl _ _).alloc lr _⟩
 ·have HI:Hid (q0T false mode=false):=vv (by rw[a0];rfl);have t0:((mode:Int)==2)=false:=by rw[a0];rfl
  have t1:((mode:Int)==3)=true:=by rw[a0];rfl
  have t2:((mode:Int)==4)=false:=by rw[a0];rfl
  rw[HI.o,if_neg (by decide)];clear HI a0 hm h1;go_enter Tryz.func126,Tryz.ntmps126
  go_wp2;go_ret
  exact⟨q0i (by rw[HV.o.1]),(Below.refl _ _).alloc lr _⟩
 ·have HI:Hid (q0T true mode=true):=vv (by rw[a0];rfl);have t0:((mode:Int)==2)=false:=by rw[a0];rfl
  have t1:((mode:Int)==3)=true:=by rw[a0];rfl
  have t2:((mode:Int)==4)=false:=by rw[a0];rfl
  rw[HI.o,if_pos rfl];clear HI a0 hm h1;go_enter Tryz.func126,Tryz.ntmps126
  go_wp2;go_ret
  exact⟨q0i (by rw[HV.o.1,HV.o.2]),(Below.refl _ _).alloc lr _⟩
 ·have HI:Hid (q0T false mode=true):=vv (by rw[a0];rfl);have t0:((mode:Int)==2)=false:=by rw[a0];rfl
  have t1:((mode:Int)==3)=false:=by rw[a0];rfl
  have t2:((mode:Int)==4)=true:=by rw[a0];rfl
  rw[HI.o,if_pos rfl];clear HI a0 hm h1;go_enter Tryz.func126,Tryz.ntmps126
  go_wp2;go_ret
  exact⟨q0i (by rw[HV.o.1,HV.o.2]),(Below.refl _ _).alloc lr _⟩
 ·have HI:Hid (q0T true mode=false):=vv (by rw[a0];rfl);have t0:((mode:Int)==2)=false:=by rw[a0];rfl
  have t1:((mode:Int)==3)=false:=by rw[a0];rfl
  have t2:((mode:Int)==4)=true:=by rw[a0];rfl
  rw[HI.o,if_neg (by decide)];clear HI a0 hm h1;go_enter Tryz.func126,Tryz.ntmps126
  go_wp2;go_ret
  exact⟨q0i (by rw[HV.o.1]),(Below.refl _ _).alloc lr _⟩
structure FmAt(w:World)(g:Nat)(E F:Int):Prop where
 c0:w.cell? ⟨g,0,none⟩=some (.int .i64 E)
 c1:w.cell? ⟨g,1,none⟩=some (.int .i64 F)
 lt:g<w.heap.size
theorem FmAt.made(w:World)(E F:Int)(t:TypeId):FmAt (w.alloc (.cells #[.int .i64 E,.int .i64 F] t)) w.heap.size E F:=
 ⟨by simp only[World.cell?];rw[heap_alloc_new];rfl,by simp only[World.cell?];rw[heap_alloc_new];rfl,by simp⟩
theorem FmAt.below{w w':World}{g:Nat}{E F:Int}(h:FmAt w g E F)(hb:Below w.heap.size w w'):FmAt w' g E F:=
 ⟨(hb.cell (p:=⟨g,0,none⟩) h.lt).trans h.c0,(hb.cell (p:=⟨g,1,none⟩) h.lt).trans h.c1,Nat.lt_of_lt_of_le h.lt hb.size⟩
theorem q7Z{F:Nat}(h:F<=52):wrap64 (wrap64 (2^(F+1))-1)=((2^(F+1)-1:Nat):Int):=by
 have h1:=q5n (k:=F+1) (by omega);have h2:=Nat.two_pow_pos (F+1);have h3:((2^(F+1):Nat):Int)=(2:Int)^(F+1):=by rw[Int.natCast_pow];rfl
 unfold wrap64;omega
theorem q5H(E F:Nat)(w:World)(h1:2<=E)(h2:E<=11)(h3:1<=F)(h4:F<=52)(hst:Std w):
  Calls Tryz.prog 125 #[fm E F] w (q1h (((2^(F+1)-1)*p2 (q09 E-F):Nat):Int) (p2 (F-q09 E)) w):=by
 have d4:=q0X h1;have d5:=q1S h2;have HW:=vv (q7Z h4);have c1:Hid (IntKind.i64.wrap (q09 E-(F:Int))=q09 E-F):=vv (IntWalk.i64_in _ (by omega));have c2:=vv fun w=>q8A E F w h1 h2
 have b8:=vv fun w=>q4v (q09 E-F) w (by omega) (by omega)
 have d0:2^(F+1)<=2^62:=Nat.pow_le_pow_right (by omega) (by omega);have b7:Hid (-9223372036854775808<=((2^(F+1)-1:Nat):Int)/\((2^(F+1)-1:Nat):Int)<=9223372036854775807):=vv (by omega);have c3:Hid (Sz (2^(F+1)-1)/\Sz 1/\Sz (p2 (q09 E-F))/\Sz (p2 (-(q09 E-F)))):=vv ⟨Sz.small (by omega),by unfold Sz;decide,(Sm.p2 (by omega)).sz,(Sm.p2 (by omega)).sz⟩;have HC:Hid ((((2^(F+1)-1:Nat):Int)*((p2 (q09 E-F):Nat):Int))=(((2^(F+1)-1)*p2 (q09 E-F):Nat):Int)/\1*p2 (-(q09 E-F))=p2 (-(q09 E-F))/\p2 (-(q09 E-F))=p2 (F-q09 E)):=vv ⟨by rw[Int.natCast_mul],Nat.one_mul _,by congr 1;omega⟩;obtain⟨w0,c4⟩:=yx (w.alloc (.cells #[.int .i64 (E:Int),.int .i64 (F:Int)] 23));have c5:Hid (Below w.heap.size w w0):=vv (by rw[c4];exact(Below.refl _ w).alloc lr _);have HF:Hid (FmAt w0 w.heap.size E F):=vv (by rw[c4];exact FmAt.made w _ _ _);have d1:=vv (hst.fs (Fs.of_nil c5.o));have d2:=vv c4;clear d0 c4 hst h1 h2;go_enter Tryz.func125,Tryz.ntmps125
 go_wp2_with fail
 rw[HW.o,<- d2.o];refine q02 (fun w'=>w'.cell? ⟨w.heap.size,0,none⟩=some (.int .i64 (E:Int))/\w'.cell? ⟨w.heap.size,1,none⟩=some (.int .i64 (F:Int))) 10
  (.still 2 (.still 4 (.still 6 (.still 7 (.two 0 (.one 1 (.one 3 (.one 5 (.still 8 (.one 9 .done))))) 1 (.two 0 (.one 3 (.one 5 (.still 8 (.one 9 .done)))) 3 (.two 0 (.one 5 (.still 8 (.one 9 .done))) 5 (.still 8 (.two 0 (.one 9 .done) 9 (.one 0 .done))))))))))
  (by kernel_rfl) (by kernel_rfl) (fun _ _ d _ _ h=>by cases d<;>exact h) ⟨HF.o.c0,HF.o.c1⟩ (fun hS0=>?_)
 iterate 4
  refine q00 (v:=?_) rfl (by rfl) ?_ ?_;rotate_left
  ·intro w c6;go_simp;with_reducible rfl
  simp only[Act.put,sa,sb,sc]
 have hB:Below w0.heap.size w0 w0.drew:=q04 (Below.refl _ _);obtain⟨wc,c9⟩:=yx (w0.drew);rw[<- c9] at hB hS0 ⊢;have HB:=vv hB;clear hB c9;refine q0Y rfl (by rfl) rfl (by rfl) (fun K hK=>?_) (fun K hK=>?_)
 focus
  go_simp;obtain⟨z0,a0⟩:=q0y wc;obtain⟨g0,a8⟩:=yx (wc.heap.size);have b3:w0.heap.size<=g0:=by have:=HB.o.size;omega
  have a9:∀g,g<wc.heap.size->g≠g0:=fun g h=>by omega
  have b0:=vv a9;obtain⟨wn,a7⟩:=yx (wc.alloc q1H);rw[<- a7] at z0 a0 ⊢;rw[<- a8] at z0 ⊢
  try have b1:Hid (g1≠g0):=vv (b0.o g1 a4.o.lt)
  try have b1:Hid (g1≠g0):=vv (b0.o g1 a5.o.lt)
  clear a9 a7 a8
  try have a3:=vv (a3.o.below a0)
  try have a4:=vv (a4.o.below a0)
  try have a5:=vv (a5.o.below a0)
  try have a6:=vv (a6.o.below a0)
  have a1:=HB.o.trans (a0.mono HB.o.size);have HB:=vv a1;clear a0 a1;obtain⟨wc,rfl⟩:=yx wn;have a3:=vv z0;clear z0;go_wp2_with fail
  refine hK.out _ _ ⟨(HF.o.below HB.o).c0,(HF.o.below HB.o).c1⟩ (fun a2=>?_);clear hK;refine q03 rfl (by rfl) (fun K hK=>?_);go_simp;obtain⟨z1,a0⟩:=q0y wc;obtain⟨g1,b9⟩:=yx (wc.heap.size);have b4:w0.heap.size<=g1:=by have:=HB.o.size;omega
  have c0:∀g,g<wc.heap.size->g≠g1:=fun g h=>by omega
  have c8:=vv c0;obtain⟨wn,a7⟩:=yx (wc.alloc q1H);rw[<- a7] at z1 a0 ⊢;rw[<- b9] at z1 ⊢
  try have b1:Hid (g1≠g0):=vv (Ne.symm (c8.o g0 a3.o.lt))
  clear c0 a7 b9
  try have a3:=vv (a3.o.below a0)
  try have a4:=vv (a4.o.below a0)
  try have a5:=vv (a5.o.below a0)
  try have a6:=vv (a6.o.below a0)
  have a1:=HB.o.trans (a0.mono HB.o.size);have HB:=vv a1;clear a0 a1;obtain⟨wc,rfl⟩:=yx wn;have a4:=vv z1;clear z1;go_wp2_with fail
  refine hK.out _ _ ⟨(HF.o.below HB.o).c0,(HF.o.below HB.o).c1⟩ (fun a2=>?_);clear hK;refine q03 rfl (by rfl) (fun K hK=>?_);go_simp;refine(B.SetInt64R g1 _ _ a4.o.sh b7.o.1 b7.o.2).mono ?_;rintro e wn hP
  try have a3:=vv (a3.o.fs1 hP.2.2 b1.o)
  have a1:=hP.below HB.o HB.o.size b4;have HB:=vv a1;obtain⟨rfl,b5,-⟩:=hP;have a5:=vv b5;clear b5 a1 a4;obtain⟨wc,rfl⟩:=yx wn;go_wp2_with fail
  refine hK.out _ _ ⟨(HF.o.below HB.o).c0,(HF.o.below HB.o).c1⟩ (fun a2=>?_);clear hK;refine q03 rfl (by rfl) (fun K hK=>?_);go_simp;refine(c2.o _).mono ?_;rintro e wn ⟨rfl,a0⟩
  try have a3:=vv (a3.o.below a0)
  try have a4:=vv (a4.o.below a0)
  try have a5:=vv (a5.o.below a0)
  try have a6:=vv (a6.o.below a0)
  have a1:=HB.o.trans (a0.mono HB.o.size);have HB:=vv a1;clear a0 a1;obtain⟨wc,rfl⟩:=yx wn;go_wp2_with fail
  refine hK.out _ _ ⟨(HF.o.below HB.o).c0,(HF.o.below HB.o).c1⟩ (fun a2=>?_);clear hK;have b6:=c1.o
  iterate 1
   refine q00 (v:=?_) rfl (by rfl) ?_ ?_;rotate_left
   ·intro w c6;go_simp;with_reducible rfl
   simp only[Act.put,sa,sb,sc]
  clear b6;refine q03 rfl (by rfl) (fun K hK=>?_);go_simp;refine(b8.o _).mono ?_;rintro e wn ⟨g9,rfl,c7,b2,a0⟩
  try have a3:=vv (a3.o.below a0)
  try have a4:=vv (a4.o.below a0)
  try have a5:=vv (a5.o.below a0)
  try have a6:=vv (a6.o.below a0)
  have a1:=HB.o.trans (a0.mono HB.o.size);have HB:=vv a1;clear a0 a1;obtain⟨wc,rfl⟩:=yx wn;have a6:=vv b2;clear b2;go_wp2_with fail
  refine hK.out _ _ ⟨(HF.o.below HB.o).c0,(HF.o.below HB.o).c1⟩ (fun a2=>?_);clear hK
 rotate_left 1
 focus
  go_simp;obtain⟨z1,a0⟩:=q0y wc;obtain⟨g1,b9⟩:=yx (wc.heap.size);have b4:w0.heap.size<=g1:=by have:=HB.o.size;omega
  have c0:∀g,g<wc.heap.size->g≠g1:=fun g h=>by omega
  have c8:=vv c0;obtain⟨wn,a7⟩:=yx (wc.alloc q1H);rw[<- a7] at z1 a0 ⊢;rw[<- b9] at z1 ⊢
  try have b1:Hid (g1≠g0):=vv (Ne.symm (c8.o g0 a3.o.lt))
  clear c0 a7 b9
  try have a3:=vv (a3.o.below a0)
  try have a4:=vv (a4.o.below a0)
  try have a5:=vv (a5.o.below a0)
  try have a6:=vv (a6.o.below a0)
  have a1:=HB.o.trans (a0.mono HB.o.size);have HB:=vv a1;clear a0 a1;obtain⟨wc,rfl⟩:=yx wn;have a4:=vv z1;clear z1;go_wp2_with fail
  refine hK.out _ _ ⟨(HF.o.below HB.o).c0,(HF.o.below HB.o).c1⟩ (fun a2=>?_);clear hK;refine q0Y rfl (by rfl) rfl (by rfl) (fun K hK=>?_) (fun K hK=>?_)
  focus
   go_simp;obtain⟨z0,a0⟩:=q0y wc;obtain⟨g0,a8⟩:=yx (wc.heap.size);have b3:w0.heap.size<=g0:=by have:=HB.o.size;omega
   have a9:∀g,g<wc.heap.size->g≠g0:=fun g h=>by omega
   have b0:=vv a9;obtain⟨wn,a7⟩:=yx (wc.alloc q1H);rw[<- a7] at z0 a0 ⊢;rw[<- a8] at z0 ⊢
   try have b1:Hid (g1≠g0):=vv (b0.o g1 a4.o.lt)
   try have b1:Hid (g1≠g0):=vv (b0.o g1 a5.o.lt)
   clear a9 a7 a8
   try have a3:=vv (a3.o.below a0)
   try have a4:=vv (a4.o.below a0)
   try have a5:=vv (a5.o.below a0)
   try have a6:=vv (a6.o.below a0)
   have a1:=HB.o.trans (a0.mono HB.o.size);have HB:=vv a1;clear a0 a1;obtain⟨wc,rfl⟩:=yx wn;have a3:=vv z0;clear z0;go_wp2_with fail
   refine hK.out _ _ ⟨(HF.o.below HB.o).c0,(HF.o.below HB.o).c1⟩ (fun a2=>?_);clear hK;refine q03 rfl (by rfl) (fun K hK=>?_);go_simp;refine(B.SetInt64R g1 _ _ a4.o.sh b7.o.1 b7.o.2).mono ?_;rintro e wn hP
   try have a3:=vv (a3.o.fs1 hP.2.2 b1.o)
   have a1:=hP.below HB.o HB.o.size b4;have HB:=vv a1;obtain⟨rfl,b5,-⟩:=hP;have a5:=vv b5;clear b5 a1 a4;obtain⟨wc,rfl⟩:=yx wn;go_wp2_with fail
   refine hK.out _ _ ⟨(HF.o.below HB.o).c0,(HF.o.below HB.o).c1⟩ (fun a2=>?_);clear hK;refine q03 rfl (by rfl) (fun K hK=>?_);go_simp;refine(c2.o _).mono ?_;rintro e wn ⟨rfl,a0⟩
   try have a3:=vv (a3.o.below a0)
   try have a4:=vv (a4.o.below a0)
   try have a5:=vv (a5.o.below a0)
   try have a6:=vv (a6.o.below a0)
   have a1:=HB.o.trans (a0.mono HB.o.size);have HB:=vv a1;clear a0 a1;obtain⟨wc,rfl⟩:=yx wn;go_wp2_with fail
   refine hK.out _ _ ⟨(HF.o.below HB.o).c0,(HF.o.below HB.o).c1⟩ (fun a2=>?_);clear hK;have b6:=c1.o
   iterate 1
    refine q00 (v:=?_) rfl (by rfl) ?_ ?_;rotate_left
    ·intro w c6;go_simp;with_reducible rfl
    simp only[Act.put,sa,sb,sc]
   clear b6;refine q03 rfl (by rfl) (fun K hK=>?_);go_simp;refine(b8.o _).mono ?_;rintro e wn ⟨g9,rfl,c7,b2,a0⟩
   try have a3:=vv (a3.o.below a0)
   try have a4:=vv (a4.o.below a0)
   try have a5:=vv (a5.o.below a0)
   try have a6:=vv (a6.o.below a0)
   have a1:=HB.o.trans (a0.mono HB.o.size);have HB:=vv a1;clear a0 a1;obtain⟨wc,rfl⟩:=yx wn;have a6:=vv b2;clear b2;go_wp2_with fail
   refine hK.out _ _ ⟨(HF.o.below HB.o).c0,(HF.o.below HB.o).c1⟩ (fun a2=>?_);clear hK
  rotate_left 1
  focus
   go_simp;refine(B.SetInt64R g1 _ _ a4.o.sh b7.o.1 b7.o.2).mono ?_;rintro e wn hP
   try have a3:=vv (a3.o.fs1 hP.2.2 b1.o)
   have a1:=hP.below HB.o HB.o.size b4;have HB:=vv a1;obtain⟨rfl,b5,-⟩:=hP;have a5:=vv b5;clear b5 a1 a4;obtain⟨wc,rfl⟩:=yx wn;go_wp2_with fail
   refine hK.out _ _ ⟨(HF.o.below HB.o).c0,(HF.o.below HB.o).c1⟩ (fun a2=>?_);clear hK;refine q0Y rfl (by rfl) rfl (by rfl) (fun K hK=>?_) (fun K hK=>?_)
   focus
    go_simp;obtain⟨z0,a0⟩:=q0y wc;obtain⟨g0,a8⟩:=yx (wc.heap.size);have b3:w0.heap.size<=g0:=by have:=HB.o.size;omega
    have a9:∀g,g<wc.heap.size->g≠g0:=fun g h=>by omega
    have b0:=vv a9;obtain⟨wn,a7⟩:=yx (wc.alloc q1H);rw[<- a7] at z0 a0 ⊢;rw[<- a8] at z0 ⊢
    try have b1:Hid (g1≠g0):=vv (b0.o g1 a4.o.lt)
    try have b1:Hid (g1≠g0):=vv (b0.o g1 a5.o.lt)
    clear a9 a7 a8
    try have a3:=vv (a3.o.below a0)
    try have a4:=vv (a4.o.below a0)
    try have a5:=vv (a5.o.below a0)
    try have a6:=vv (a6.o.below a0)
    have a1:=HB.o.trans (a0.mono HB.o.size);have HB:=vv a1;clear a0 a1;obtain⟨wc,rfl⟩:=yx wn;have a3:=vv z0;clear z0;go_wp2_with fail
    refine hK.out _ _ ⟨(HF.o.below HB.o).c0,(HF.o.below HB.o).c1⟩ (fun a2=>?_);clear hK;refine q03 rfl (by rfl) (fun K hK=>?_);go_simp;refine(c2.o _).mono ?_;rintro e wn ⟨rfl,a0⟩
    try have a3:=vv (a3.o.below a0)
    try have a4:=vv (a4.o.below a0)
    try have a5:=vv (a5.o.below a0)
    try have a6:=vv (a6.o.below a0)
    have a1:=HB.o.trans (a0.mono HB.o.size);have HB:=vv a1;clear a0 a1;obtain⟨wc,rfl⟩:=yx wn;go_wp2_with fail
    refine hK.out _ _ ⟨(HF.o.below HB.o).c0,(HF.o.below HB.o).c1⟩ (fun a2=>?_);clear hK;have b6:=c1.o
    iterate 1
     refine q00 (v:=?_) rfl (by rfl) ?_ ?_;rotate_left
     ·intro w c6;go_simp;with_reducible rfl
     simp only[Act.put,sa,sb,sc]
    clear b6;refine q03 rfl (by rfl) (fun K hK=>?_);go_simp;refine(b8.o _).mono ?_;rintro e wn ⟨g9,rfl,c7,b2,a0⟩
    try have a3:=vv (a3.o.below a0)
    try have a4:=vv (a4.o.below a0)
    try have a5:=vv (a5.o.below a0)
    try have a6:=vv (a6.o.below a0)
    have a1:=HB.o.trans (a0.mono HB.o.size);have HB:=vv a1;clear a0 a1;obtain⟨wc,rfl⟩:=yx wn;have a6:=vv b2;clear b2;go_wp2_with fail
    refine hK.out _ _ ⟨(HF.o.below HB.o).c0,(HF.o.below HB.o).c1⟩ (fun a2=>?_);clear hK
   rotate_left 1
   focus
    go_simp;refine(c2.o _).mono ?_;rintro e wn ⟨rfl,a0⟩
    try have a3:=vv (a3.o.below a0)
    try have a4:=vv (a4.o.below a0)
    try have a5:=vv (a5.o.below a0)
    try have a6:=vv (a6.o.below a0)
    have a1:=HB.o.trans (a0.mono HB.o.size);have HB:=vv a1;clear a0 a1;obtain⟨wc,rfl⟩:=yx wn;go_wp2_with fail
    refine hK.out _ _ ⟨(HF.o.below HB.o).c0,(HF.o.below HB.o).c1⟩ (fun a2=>?_);clear hK;have b6:=c1.o
    iterate 1
     refine q00 (v:=?_) rfl (by rfl) ?_ ?_;rotate_left
     ·intro w c6;go_simp;with_reducible rfl
     simp only[Act.put,sa,sb,sc]
    clear b6;refine q0Y rfl (by rfl) rfl (by rfl) (fun K hK=>?_) (fun K hK=>?_)
    focus
     go_simp;obtain⟨z0,a0⟩:=q0y wc;obtain⟨g0,a8⟩:=yx (wc.heap.size);have b3:w0.heap.size<=g0:=by have:=HB.o.size;omega
     have a9:∀g,g<wc.heap.size->g≠g0:=fun g h=>by omega
     have b0:=vv a9;obtain⟨wn,a7⟩:=yx (wc.alloc q1H);rw[<- a7] at z0 a0 ⊢;rw[<- a8] at z0 ⊢
     try have b1:Hid (g1≠g0):=vv (b0.o g1 a4.o.lt)
     try have b1:Hid (g1≠g0):=vv (b0.o g1 a5.o.lt)
     clear a9 a7 a8
     try have a3:=vv (a3.o.below a0)
     try have a4:=vv (a4.o.below a0)
     try have a5:=vv (a5.o.below a0)
     try have a6:=vv (a6.o.below a0)
     have a1:=HB.o.trans (a0.mono HB.o.size);have HB:=vv a1;clear a0 a1;obtain⟨wc,rfl⟩:=yx wn;have a3:=vv z0;clear z0;go_wp2_with fail
     refine hK.out _ _ ⟨(HF.o.below HB.o).c0,(HF.o.below HB.o).c1⟩ (fun a2=>?_);clear hK;refine q03 rfl (by rfl) (fun K hK=>?_);go_simp;refine(b8.o _).mono ?_;rintro e wn ⟨g9,rfl,c7,b2,a0⟩
     try have a3:=vv (a3.o.below a0)
     try have a4:=vv (a4.o.below a0)
     try have a5:=vv (a5.o.below a0)
     try have a6:=vv (a6.o.below a0)
     have a1:=HB.o.trans (a0.mono HB.o.size);have HB:=vv a1;clear a0 a1;obtain⟨wc,rfl⟩:=yx wn;have a6:=vv b2;clear b2;go_wp2_with fail
     refine hK.out _ _ ⟨(HF.o.below HB.o).c0,(HF.o.below HB.o).c1⟩ (fun a2=>?_);clear hK
    rotate_left 1
    focus
     go_simp;refine(b8.o _).mono ?_;rintro e wn ⟨g9,rfl,c7,b2,a0⟩
     try have a3:=vv (a3.o.below a0)
     try have a4:=vv (a4.o.below a0)
     try have a5:=vv (a5.o.below a0)
     try have a6:=vv (a6.o.below a0)
     have a1:=HB.o.trans (a0.mono HB.o.size);have HB:=vv a1;clear a0 a1;obtain⟨wc,rfl⟩:=yx wn;have a6:=vv b2;clear b2;go_wp2_with fail
     refine hK.out _ _ ⟨(HF.o.below HB.o).c0,(HF.o.below HB.o).c1⟩ (fun a2=>?_);clear hK;refine q03 rfl (by rfl) (fun K hK=>?_);go_simp;obtain⟨z0,a0⟩:=q0y wc;obtain⟨g0,a8⟩:=yx (wc.heap.size);have b3:w0.heap.size<=g0:=by have:=HB.o.size;omega
     have a9:∀g,g<wc.heap.size->g≠g0:=fun g h=>by omega
     have b0:=vv a9;obtain⟨wn,a7⟩:=yx (wc.alloc q1H);rw[<- a7] at z0 a0 ⊢;rw[<- a8] at z0 ⊢
     try have b1:Hid (g1≠g0):=vv (b0.o g1 a4.o.lt)
     try have b1:Hid (g1≠g0):=vv (b0.o g1 a5.o.lt)
     clear a9 a7 a8
     try have a3:=vv (a3.o.below a0)
     try have a4:=vv (a4.o.below a0)
     try have a5:=vv (a5.o.below a0)
     try have a6:=vv (a6.o.below a0)
     have a1:=HB.o.trans (a0.mono HB.o.size);have HB:=vv a1;clear a0 a1;obtain⟨wc,rfl⟩:=yx wn;have a3:=vv z0;clear z0;go_wp2_with fail
     refine hK.out _ _ ⟨(HF.o.below HB.o).c0,(HF.o.below HB.o).c1⟩ (fun a2=>?_);clear hK
 all_goals
  refine q0a ?_;go_wp2_with fail
  refine(B.MulR g0 g1 g9 _ _ _ _ _ a3.o.sh a5.o a6.o (d1.o.fs (Fs.of_nil HB.o)) (by exact c3.o.1) c3.o.2.1 (by exact c3.o.2.2.1) c3.o.2.2.2).mono ?_;rintro e wn hP;rw[HC.o.1,HC.o.2.1,HC.o.2.2] at hP;have d3:=vv (c5.o.trans ((hP.below HB.o HB.o.size b3).mono c5.o.size));obtain⟨rfl,hR,-⟩:=hP;have HR:=vv hR;clear hR;go_wp2;go_ret
  exact⟨_,rfl,Nat.le_trans c5.o.size b3,HR.o,d3.o⟩
theorem q5Z(gx m E F:Nat)(w:World)(h1:2<=E)(h2:E<=11)(h3:1<=F)(h4:F<=52)(hx:RatAt w gx ((m*p2 (1-q09 E-F):Nat):Int) (p2 (F-(1-q09 E))))(hm:m<2^F)(hst:Std w):
  Calls Tryz.prog 127 #[fm E F,.pointer (some ⟨gx,0,none⟩)] w fun e w'=>e=.returned (.int .u64 (m:Int))/\Below w.heap.size w w':=by
 have e0:=q0X h1;have e2:=q1S h2;have c2:=vv fun w=>q8A E F w h1 h2
 have d2:=vv fun w=>q7H E F w h1 h2
 have b6:=vv fun w=>q4v (q09 E-1+F) w (by omega) (by omega)
 have b1:Hid (IntKind.i64.wrap (q09 E-1)=q09 E-1/\IntKind.i64.wrap (q09 E-1+(F:Int))=q09 E-1+F):=vv ⟨IntWalk.i64_in _ (by omega),IntWalk.i64_in _ (by omega)⟩;have b7:2^F<=2^52:=Nat.pow_le_pow_right (by omega) h4;have e1:m*p2 (1-q09 E-F)=m:=by rw[q0k (n:=1-q09 E-F) (by omega),Nat.mul_one]
 have b2:Hid (Sz (m*p2 (1-q09 E-F))/\Sz (p2 (F-(1-q09 E)))):=vv ⟨by rw[e1];exact Sz.small (by omega),(Sm.p2 (by omega)).sz⟩;have c3:Hid (Sz (p2 (q09 E-1+F))/\Sz (p2 (-(q09 E-1+F)))):=vv ⟨(Sm.p2 (by omega)).sz,(Sm.p2 (by omega)).sz⟩;have c4:Hid (Sz (p2 (1-q09 E))/\Sz (p2 (q09 E-1))):=vv ⟨(Sm.p2 (by omega)).sz,(Sm.p2 (by omega)).sz⟩;have HC:Hid ((((m*p2 (1-q09 E-F):Nat):Int)*((p2 (q09 E-1+F):Nat):Int))=((m*p2 (1-q09 E-F)*p2 (q09 E-1+F):Nat):Int)):=vv (by rw[Int.natCast_mul _ (p2 (q09 E-1+F))]);have d3:=vv (q6i (E:=E) (F:=F) (m:=m) h1);have b8:Hid (m<18446744073709551616):=vv (by omega);have b0:q0J (m*p2 (1-q09 E-F)*p2 (q09 E-1)) (p2 (1-q09 E)*p2 (F-(1-q09 E))) = -1:=by
  have h:=(q4B (F:=F) (m:=m) (l:=1-q09 E) h1 (Int.le_refl _) (fun h=>absurd h (Int.lt_irrefl _))).2 ⟨rfl,hm⟩;have:=q4g (m*p2 (1-q09 E-F)*p2 (q09 E-1)) (p2 (1-q09 E)*p2 (F-(1-q09 E)));omega
 have b9:=vv b0;obtain⟨w0,b3⟩:=yx (w.alloc (.cells #[.int .i64 (E:Int),.int .i64 (F:Int)] 23));have b4:Hid (Below w.heap.size w w0):=vv (by rw[b3];exact(Below.refl _ w).alloc lr _);have HF:Hid (FmAt w0 w.heap.size E F):=vv (by rw[b3];exact FmAt.made w _ _ _);have d4:=vv (hst.fs (Fs.of_nil b4.o));have HX:=vv (hx.below b4.o);have d5:=vv b3;clear b3 hst hx h1 h2 hm b7 e1 b0;go_enter Tryz.func127,Tryz.ntmps127
 have c0:=HF.o.lt;have f0:=HF.o.c0;have f1:=HF.o.c1;go_wp2_with fail
 rw[<- d5.o];go_wp2_with fail
 refine(d2.o _).mono ?_;rintro e w1 ⟨g1,rfl,e3,c5,c6⟩;have d6:=vv c5;have c7:=vv c6;clear c5 c6;go_wp2_with fail
 refine(B.CmpR gx g1 _ _ _ _ _ (HX.o.below c7.o) d6.o b2.o.1 b2.o.2 c4.o.1 c4.o.2).mono ?_;rintro e w2 ⟨rfl,c8⟩;rw[b9.o];have HB:=vn c7 c8;clear c8 f0 f1 c0;go_wp2_with fail
 refine q02 (fun w'=>w'.cell? ⟨w.heap.size,0,none⟩=some (.int .i64 (E:Int))/\w'.cell? ⟨w.heap.size,1,none⟩=some (.int .i64 (F:Int))) 9
  (.still 1 (.still 2 (.still 5 (.still 6 (.two 0 (.one 3 (.still 4 (.still 7 (.one 8 .done)))) 3 (.still 4 (.still 7 (.two 0 (.one 8 .done) 8 (.one 0 .done)))))))))
  (by kernel_rfl) (by kernel_rfl) (fun _ _ d _ _ h=>by cases d<;>exact h) ⟨(HF.o.below HB.o).c0,(HF.o.below HB.o).c1⟩ (fun hS0=>?_)
 iterate 4
  refine q00 (v:=?_) rfl (by rfl) ?_ ?_;rotate_left
  ·intro w b5;go_simp;with_reducible rfl
  simp only[Act.put,sa,sb,sc]
 have hB:=q04 HB.o;obtain⟨wc,c9⟩:=yx (w2.drew);rw[<- c9] at hB hS0 ⊢;have HB:=vv hB;clear hB c9;refine q0Y rfl (by rfl) rfl (by rfl) (fun K hK=>?_) (fun K hK=>?_)
 focus
  go_simp;obtain⟨z0,a0⟩:=q0y wc;obtain⟨g0,a5⟩:=yx (wc.heap.size);have a8:w0.heap.size<=g0:=by have:=HB.o.size;omega
  obtain⟨wn,a6⟩:=yx (wc.alloc q1H);rw[<- a6] at z0 a0 ⊢;rw[<- a5] at z0 ⊢;clear a6 a5
  try have a3:=vv (a3.o.below a0)
  try have a4:=vv (a4.o.below a0)
  have a1:=HB.o.trans (a0.mono HB.o.size);have HB:=vv a1;clear a0 a1;obtain⟨wc,rfl⟩:=yx wn;have a3:=vv z0;clear z0;go_wp2_with fail
  refine hK.out _ _ ⟨(HF.o.below HB.o).c0,(HF.o.below HB.o).c1⟩ (fun a2=>?_);clear hK;refine q03 rfl (by rfl) (fun K hK=>?_);go_simp;refine(c2.o _).mono ?_;rintro e wn ⟨rfl,a0⟩
  try have a3:=vv (a3.o.below a0)
  try have a4:=vv (a4.o.below a0)
  have a1:=HB.o.trans (a0.mono HB.o.size);have HB:=vv a1;clear a0 a1;obtain⟨wc,rfl⟩:=yx wn;go_wp2_with fail
  refine hK.out _ _ ⟨(HF.o.below HB.o).c0,(HF.o.below HB.o).c1⟩ (fun a2=>?_);clear hK;have a9:=b1.o.1
  iterate 1
   refine q00 (v:=?_) rfl (by rfl) ?_ ?_;rotate_left
   ·intro w b5;go_simp;with_reducible rfl
   simp only[Act.put,sa,sb,sc]
  clear a9;have a9:=b1.o.2
  iterate 1
   refine q00 (v:=?_) rfl (by rfl) ?_ ?_;rotate_left
   ·intro w b5;go_simp;with_reducible rfl
   simp only[Act.put,sa,sb,sc]
  clear a9;refine q03 rfl (by rfl) (fun K hK=>?_);go_simp;refine(b6.o _).mono ?_;rintro e wn ⟨g8,rfl,d0,a7,a0⟩
  try have a3:=vv (a3.o.below a0)
  try have a4:=vv (a4.o.below a0)
  have a1:=HB.o.trans (a0.mono HB.o.size);have HB:=vv a1;clear a0 a1;obtain⟨wc,rfl⟩:=yx wn;have a4:=vv a7;clear a7;go_wp2_with fail
  refine hK.out _ _ ⟨(HF.o.below HB.o).c0,(HF.o.below HB.o).c1⟩ (fun a2=>?_);clear hK
 rotate_left 1
 focus
  go_simp;refine(c2.o _).mono ?_;rintro e wn ⟨rfl,a0⟩
  try have a3:=vv (a3.o.below a0)
  try have a4:=vv (a4.o.below a0)
  have a1:=HB.o.trans (a0.mono HB.o.size);have HB:=vv a1;clear a0 a1;obtain⟨wc,rfl⟩:=yx wn;go_wp2_with fail
  refine hK.out _ _ ⟨(HF.o.below HB.o).c0,(HF.o.below HB.o).c1⟩ (fun a2=>?_);clear hK;have a9:=b1.o.1
  iterate 1
   refine q00 (v:=?_) rfl (by rfl) ?_ ?_;rotate_left
   ·intro w b5;go_simp;with_reducible rfl
   simp only[Act.put,sa,sb,sc]
  clear a9;have a9:=b1.o.2
  iterate 1
   refine q00 (v:=?_) rfl (by rfl) ?_ ?_;rotate_left
   ·intro w b5;go_simp;with_reducible rfl
   simp only[Act.put,sa,sb,sc]
  clear a9;refine q0Y rfl (by rfl) rfl (by rfl) (fun K hK=>?_) (fun K hK=>?_)
  focus
   go_simp;obtain⟨z0,a0⟩:=q0y wc;obtain⟨g0,a5⟩:=yx (wc.heap.size);have a8:w0.heap.size<=g0:=by have:=HB.o.size;omega
   obtain⟨wn,a6⟩:=yx (wc.alloc q1H);rw[<- a6] at z0 a0 ⊢;rw[<- a5] at z0 ⊢;clear a6 a5
   try have a3:=vv (a3.o.below a0)
   try have a4:=vv (a4.o.below a0)
   have a1:=HB.o.trans (a0.mono HB.o.size);have HB:=vv a1;clear a0 a1;obtain⟨wc,rfl⟩:=yx wn;have a3:=vv z0;clear z0;go_wp2_with fail
   refine hK.out _ _ ⟨(HF.o.below HB.o).c0,(HF.o.below HB.o).c1⟩ (fun a2=>?_);clear hK;refine q03 rfl (by rfl) (fun K hK=>?_);go_simp;refine(b6.o _).mono ?_;rintro e wn ⟨g8,rfl,d0,a7,a0⟩
   try have a3:=vv (a3.o.below a0)
   try have a4:=vv (a4.o.below a0)
   have a1:=HB.o.trans (a0.mono HB.o.size);have HB:=vv a1;clear a0 a1;obtain⟨wc,rfl⟩:=yx wn;have a4:=vv a7;clear a7;go_wp2_with fail
   refine hK.out _ _ ⟨(HF.o.below HB.o).c0,(HF.o.below HB.o).c1⟩ (fun a2=>?_);clear hK
  rotate_left 1
  focus
   go_simp;refine(b6.o _).mono ?_;rintro e wn ⟨g8,rfl,d0,a7,a0⟩
   try have a3:=vv (a3.o.below a0)
   try have a4:=vv (a4.o.below a0)
   have a1:=HB.o.trans (a0.mono HB.o.size);have HB:=vv a1;clear a0 a1;obtain⟨wc,rfl⟩:=yx wn;have a4:=vv a7;clear a7;go_wp2_with fail
   refine hK.out _ _ ⟨(HF.o.below HB.o).c0,(HF.o.below HB.o).c1⟩ (fun a2=>?_);clear hK;refine q03 rfl (by rfl) (fun K hK=>?_);go_simp;obtain⟨z0,a0⟩:=q0y wc;obtain⟨g0,a5⟩:=yx (wc.heap.size);have a8:w0.heap.size<=g0:=by have:=HB.o.size;omega
   obtain⟨wn,a6⟩:=yx (wc.alloc q1H);rw[<- a6] at z0 a0 ⊢;rw[<- a5] at z0 ⊢;clear a6 a5
   try have a3:=vv (a3.o.below a0)
   try have a4:=vv (a4.o.below a0)
   have a1:=HB.o.trans (a0.mono HB.o.size);have HB:=vv a1;clear a0 a1;obtain⟨wc,rfl⟩:=yx wn;have a3:=vv z0;clear z0;go_wp2_with fail
   refine hK.out _ _ ⟨(HF.o.below HB.o).c0,(HF.o.below HB.o).c1⟩ (fun a2=>?_);clear hK
 all_goals
  refine q0a ?_;go_wp2_with fail
  refine(B.MulR g0 gx g8 _ _ _ _ _ a3.o.sh (HX.o.below HB.o) a4.o (d4.o.fs (Fs.of_nil HB.o)) (by exact b2.o.1) b2.o.2 (by exact c3.o.1) c3.o.2).mono ?_;rintro e wn hP;rw[HC.o] at hP;have d7:=vv (hP.below HB.o HB.o.size a8);obtain⟨rfl,hR,-⟩:=hP;have HR:=vv hR;clear hR;go_wp2_with fail
  refine(B.Num g0 _ _ _ HR.o).mono ?_;rintro e w5 ⟨g5,rfl,e4,c1,d1⟩;rw[d3.o] at c1;have d8:=vv c1;have d9:=vn d7 d1;clear c1 d1;go_wp2_with fail
  refine(B.Uint64 g5 0 _ _ d8.o (by rw[Int.natAbs_natCast];exact b8.o)).mono ?_;rintro e w' ⟨rfl,rfl⟩;go_wp2;go_ret
  exact⟨by simp,b4.o.trans (d9.o.mono b4.o.size)⟩
theorem q5G(gx X Y n K R E F:Nat)(e':Int)(w:World)(h1:2<=E)(h2:E<=11)(h3:1<=F)(h4:F<=52)(hx:RatAt w gx ((X:Nat):Int) Y)(hX:0<X)(sX:Sm X)(sY:Sm Y)
  (hc:¬q0J (X*p2 (q09 E-1)) (p2 (1-q09 E)*Y)<0) (he:q0H X Y=e') (hlp:lp ((X*p2 (F-e'):Nat):Int) (Y*p2 (-(F-e')))=n) (hK:e'+q09 E=K) (hK2:K<=4000) (hn:n<18446744073709551616) (hR:K*2^F+n=R+2^F) (hR2:K*2^F+n<18446744073709551616) (hst:Std w) :
  Calls Tryz.prog 127 #[fm E F,.pointer (some ⟨gx,0,none⟩)] w fun e w'=>e=.returned (.int .u64 (R:Int))/\Below w.heap.size w w':=by
 have f2:=q0X h1;have f3:=q1S h2;have d0:=vv fun w=>q8A E F w h1 h2
 have d1:=vv fun w=>q7H E F w h1 h2
 have f4:-2000<=e':=by omega
 have f5:e'<=4000:=by omega
 have d2:=vv fun w=>q4v (F-e') w (by omega) (by omega)
 have d3:Hid (IntKind.i64.wrap (e'+q09 E)=(K:Int)):=vv (by rw[hK];exact IntWalk.i64_in _ (by omega));have a2:Hid (Sz X/\Sz Y):=vv ⟨sX.sz,sY.sz⟩;have b8:Hid (Sm X/\Sm Y):=vv ⟨sX,sY⟩;have b9:Hid (Sz (p2 (F-e'))/\Sz (p2 (-(F-e')))):=vv ⟨(Sm.p2 (by omega)).sz,(Sm.p2 (by omega)).sz⟩;have c0:Hid (Sz (p2 (1-q09 E))/\Sz (p2 (q09 E-1))):=vv ⟨(Sm.p2 (by omega)).sz,(Sm.p2 (by omega)).sz⟩;have HC:Hid ((X:Int)*((p2 (F-e'):Nat):Int)=((X*p2 (F-e'):Nat):Int)):=vv (by rw[Int.natCast_mul]);have d4:=vv hlp;have a8:=vv hn;have HE:=vv he;have d5:=vv hX;have d6:=vv hc;have a9:Hid (IntKind.u64.wrap (IntKind.u64.wrap (IntKind.u64.wrap ((K:Int)*2^F)+(n:Int))-IntKind.u64.wrap (2^F))=(R:Int)):=by
  refine vv ?_;have e1:(K:Int)*2^F=((K*2^F:Nat):Int):=by rw[Int.natCast_mul,Int.natCast_pow];rfl
  rw[e1,q5g (by omega),IntKind.wrap_u64,IntKind.wrap_u64,IntKind.wrap_u64];clear e1;generalize K*2^F=P at *
  generalize 2^F=T at *
  omega
 obtain⟨w0,a3⟩:=yx (w.alloc (.cells #[.int .i64 (E:Int),.int .i64 (F:Int)] 23));have a4:Hid (Below w.heap.size w w0):=vv (by rw[a3];exact(Below.refl _ w).alloc lr _);have HF:Hid (FmAt w0 w.heap.size E F):=vv (by rw[a3];exact FmAt.made w _ _ _);have d7:=vv (hst.fs (Fs.of_nil a4.o));have HX:=vv (hx.below a4.o);have d8:=vv a3;clear a3 hst hx h1 h2 sX sY he hlp hK hn hR hR2 hX;go_enter Tryz.func127,Tryz.ntmps127
 have b0:=HF.o.lt;have f0:=HF.o.c0;have f1:=HF.o.c1;clear hc;go_wp2_with fail
 rw[<- d8.o];go_wp2_with fail
 refine(d1.o _).mono ?_;rintro e w1 ⟨g1,rfl,f6,c1,c2⟩;have d9:=vv c1;have c3:=vv c2;clear c1 c2;go_wp2_with fail
 refine(B.CmpR gx g1 _ _ _ _ _ (HX.o.below c3.o) d9.o a2.o.1 a2.o.2 c0.o.1 c0.o.2).mono ?_;rintro e w2 ⟨rfl,c4⟩;obtain⟨t,ht⟩:=yx (q0J (X*p2 (q09 E-1)) (p2 (1-q09 E)*Y));have e0:decide (t<0)=false:=by rw[ht];exact decide_eq_false (by have:=d6.o;omega)
 rw[<- ht];have HB:=vn c3 c4;clear c4 f0 f1 b0 ht;go_wp2_with fail
 refine(log gx X Y _ (HX.o.below HB.o) d5.o b8.o.1 b8.o.2).mono ?_;rintro e w3 ⟨rfl,c5⟩;rw[HE.o];have HB:=vn HB c5;have f1:=(HF.o.below HB.o).c1;have e2:=(HF.o.below HB.o).lt;clear c5 e0;go_wp2_with fail
 obtain⟨z0,b1⟩:=q0y w3;obtain⟨w4,c6⟩:=yx (w3.alloc q1H);rw[<- c6] at z0 b1 ⊢;have HZ:=vv z0;have c7:=vn HB b1;have e3:=HB.o.size;have f1':=(HF.o.below c7.o).c1;clear z0 b1 c6 f1;go_wp2_with fail
 refine(d2.o _).mono ?_;rintro e w5 ⟨g5,rfl,f7,c8,b2⟩;have e4:=vv c8;have HZ:=vv (HZ.o.below b2);have a5:=vn c7 b2;clear c8 b2 f1';go_wp2_with fail
 refine(B.MulR w3.heap.size gx g5 _ _ _ _ _ HZ.o.sh (HX.o.below a5.o) e4.o (d7.o.fs (Fs.of_nil a5.o)) (by exact a2.o.1) a2.o.2 (by exact b9.o.1) b9.o.2).mono ?_;rintro e w6 hP;rw[HC.o] at hP;have a6:=vv (hP.below a5.o a5.o.size e3);obtain⟨rfl,hR,-⟩:=hP;have HR:=vv hR;have f0:=(HF.o.below a6.o).c0;have f1:=(HF.o.below a6.o).c1;have c9:=vv (HF.o.below a6.o);have e5:=c9.o.lt;clear hR;go_wp2_with fail
 refine q02 (fun w'=>w'.cell? ⟨w.heap.size,0,none⟩=some (.int .i64 (E:Int))/\w'.cell? ⟨w.heap.size,1,none⟩=some (.int .i64 (F:Int))) 18
  (.still 0 (.still 1 (.still 5 (.still 6 (.still 7 (.still 9 (.still 13 (.still 14 (.still 15 (.still 16 (.one 2 (.still 3 (.still 4 (.still 8 (.one 10 (.one 11 (.still 12 (.still 17 .done)))))))))))))))))) (by kernel_rfl) (by kernel_rfl) (fun _ _ d _ _ h=>by cases d<;>exact h) ⟨f0,f1⟩ (fun hS0=>?_)
 iterate 10
  refine q00 (v:=?_) rfl (by rfl) ?_ ?_;rotate_left
  ·intro w b3;go_simp;with_reducible rfl
  simp only[Act.put,sa,sb,sc]
 refine q03 rfl (by rfl) (fun K hK=>?_);go_simp;refine(d0.o _).mono ?_;rintro e w7 ⟨rfl,a0⟩;have a0:Below w6.heap.size w6 w7:=⟨a0.os,a0.tape,a0.output,a0.size,a0.block⟩;have HR:=vv (HR.o.below a0);have b4:=vv (c9.o.below a0);have e6:=vn a6 a0;clear a0 f0 f1;go_wp2_with fail
 refine hK.out _ _ ⟨b4.o.c0,b4.o.c1⟩ (fun a1=>?_);clear hK;have e7:=d3.o
 iterate 1
  refine q00 (v:=?_) rfl (by rfl) ?_ ?_;rotate_left
  ·intro w b3;go_simp;with_reducible rfl
  simp only[Act.put,sa,sb,sc]
 clear e7
 iterate 2
  refine q00 (v:=?_) rfl (by rfl) ?_ ?_;rotate_left
  ·intro w b3;go_simp;with_reducible rfl
  simp only[Act.put,sa,sb,sc]
 refine q03 rfl (by rfl) (fun K hK=>?_);go_simp;refine(B.Num _ _ _ _ HR.o).mono ?_;rintro e w8 ⟨g8,rfl,f8,b5,b6⟩;rw[d4.o] at b5;have e8:=vv b5;have a7:=vv (b4.o.below b6);have e9:=vn e6 b6;clear b5 b6;go_wp2_with fail
 refine hK.out _ _ ⟨a7.o.c0,a7.o.c1⟩ (fun a1=>?_);clear hK;refine q03 rfl (by rfl) (fun K hK=>?_);go_simp;refine(B.Uint64 g8 0 _ _ e8.o (by rw[Int.natAbs_natCast];exact a8.o)).mono ?_;rintro e w' ⟨rfl,rfl⟩;go_wp2_with fail
 refine hK.out _ _ ⟨a7.o.c0,a7.o.c1⟩ (fun a1=>?_);clear hK
 iterate 2
  refine q00 (v:=?_) rfl (by rfl) ?_ ?_;rotate_left
  ·intro w b3;go_simp;with_reducible rfl
  simp only[Act.put,sa,sb,sc]
 refine q0a ?_;go_wp2;go_ret
 have b7:min F 64=F:=by omega
 exact⟨q0i (by rw[b7];exact a9.o),a4.o.trans (e9.o.mono a4.o.size)⟩
theorem q3u(n:Int)(h:n<=4000):bl (p2 n)<=4001:=by unfold Go.Proofs.YtcdimmblnbkjjaaGreatDoor.p2;rw[q1n];omega
theorem q5b{m k:Nat}(h:m<=2^k):bl m<=k+1:=q15 (by rw[Nat.pow_succ];have:=Nat.two_pow_pos k;omega)
theorem q9y(gx m E F:Nat)(l:Int)(w:World)(h1:2<=E)(h2:E<=11)(h3:1<=F)(h4:F<=52)(hx:RatAt w gx ((m*p2 (l-F):Nat):Int) (p2 (F-l)))(hl:1-q09 E<=l)(hl2:l<=q09 E)(hm:m<=2^(F+1))(hm2:1-q09 E<l->2^F<=m)(hst:Std w):
  Calls Tryz.prog 127 #[fm E F,.pointer (some ⟨gx,0,none⟩)] w fun e w'=>e=.returned (.int .u64 ((m+(l+q09 E-1).toNat*2^F:Nat):Int))/\Below w.heap.size w w':=by
 have a6:=q0X h1;have a7:=q1S h2;have a4:=q4B (F:=F) (m:=m) h1 hl hm2;have a8:2^F<=2^52:=Nat.pow_le_pow_right (by omega) h4;have a9:=Nat.two_pow_pos F;by_cases hs:l=1-q09 E/\m<2^F
 ·obtain⟨rfl,hm⟩:=hs;have:=q5Z gx m E F w h1 h2 h3 h4 hx hm hst;rw[show(1-q09 E+q09 E-1).toNat=0 by omega,Nat.zero_mul,Nat.add_zero];exact this
 have a5:2^F<=m:=by
  rcases Int.lt_or_le (1-q09 E) l with h|h
  ·exact hm2 h
  ·rcases Nat.lt_or_ge m (2^F) with k|k
   ·exact absurd ⟨by omega,k⟩ hs
   ·exact k
 have hc:¬q0J (m*p2 (l-F)*p2 (q09 E-1)) (p2 (1-q09 E)*p2 (F-l))<0:=fun h=>hs (a4.1 h)
 have sX:Sm (m*p2 (l-F)):=by
  have a1:=q0z m (p2 (l-F));have a2:=q3u (l-F) (by omega);have a3:=q5b hm;unfold Sm;omega
 have sY:Sm (p2 (F-l)):=Sm.p2 (by omega);have a0:0<m*p2 (l-F):=Nat.mul_pos (by omega) (q0o _);have b0:(l+q09 E-1).toNat*2^F<=2045*2^F:=Nat.mul_le_mul_right _ (by omega);have b1:2^(F+1)=2*2^F:=by rw[Nat.pow_succ,Nat.mul_comm]
 rcases Nat.lt_or_ge m (2^(F+1)) with h5|h5
 ·have e1:(l+q09 E).toNat=(l+q09 E-1).toNat+1:=by omega
  have e2:(l+q09 E).toNat*2^F=(l+q09 E-1).toNat*2^F+2^F:=by rw[e1,Nat.add_mul,Nat.one_mul]
  exact q5G gx _ _ m (l+q09 E).toNat _ E F l w h1 h2 h3 h4 hx a0 sX sY hc (q5o a5 h5) q7j (by omega) (by omega) (by omega) (by rw[e2];omega) (by rw[e2];omega) hst
 ·obtain rfl:m=2^(F+1):=by omega
  have e1:(l+1+q09 E).toNat=(l+q09 E-1).toNat+2:=by omega
  have e2:(l+1+q09 E).toNat*2^F=(l+q09 E-1).toNat*2^F+2*2^F:=by rw[e1,Nat.add_mul]
  exact q5G gx _ _ (2^F) (l+1+q09 E).toNat _ E F (l+1) w h1 h2 h3 h4 hx a0 sX sY hc q6w q6v (by omega) (by omega) (by omega) (by rw[e2];omega) (by rw[e2];omega) hst
theorem q6I{a b:Nat}:(bl a:Int)-bl b-1<=q0H a b/\q0H a b<=(bl a:Int)-bl b:=by unfold q0H;split<;>omega
def q4Q(S:Nat)(o:Nat × Nat)(w:World)(e:Ending)(w':World):Prop:=e=.returned (.tuple #[.int .u64 ((S+o.1:Nat):Int),.int .u8 (o.2:Int)])/\Below w.heap.size w w'
theorem q3E{k l:IntKind}{a b c d:Int}(h:a=b)(h':c=d):Ending.returned (.tuple #[.int k a,.int l c])=.returned (.tuple #[.int k b,.int l d]):=by rw[h,h']
def sgb(E F:Nat)(b:Bool):Nat:=if b then 2^(E+F) else 0
theorem q7G(gx b E F:Nat)(neg:Bool)(mode:Nat)(w:World)(h1:2<=E)(h2:E<=11)(h3:1<=F)(h4:F<=52)(hx:RatAt w gx 0 b):
  Calls Tryz.prog 74 #[fm E F,.pointer (some ⟨gx,0,none⟩),.bool neg,.int .u8 (mode:Int)] w (q4Q (sgb E F neg) (0,0) w):=by
 obtain⟨w0,a1⟩:=yx (w.alloc (.cells #[.int .i64 (E:Int),.int .i64 (F:Int)] 23));have a0:Hid (Below w.heap.size w w0):=vv (by rw[a1];exact(Below.refl _ w).alloc lr _);have HF:Hid (FmAt w0 w.heap.size E F):=vv (by rw[a1];exact FmAt.made w _ _ _);have HX:=vv (B.RSign gx 0 b w0 (hx.below a0.o));have a4:=vv a1;have a5:=vv fun w=>Sign E F w h1 h2 h3 h4
 have a6:=vv fun w' (hb:Below w0.heap.size w0 w')=>B.RSign gx 0 b w' ((hx.below a0.o).below hb)
 clear hx a1 h1 h2 h3 h4;obtain⟨f0,f1,a7⟩:=HF.o;go_enter Tryz.func74,Tryz.ntmps74
 go_wp2_with fail
 rw[<- a4.o];refine HX.o.mono ?_;rintro e w' ⟨rfl,rfl⟩;rw[Int.sign_zero];go_wp2_with fail
 refine HX.o.mono ?_;rintro e w' ⟨rfl,rfl⟩;rw[Int.sign_zero];cases neg
 ·go_wp2_with fail
  refine HX.o.mono ?_;rintro e w' ⟨rfl,rfl⟩;rw[Int.sign_zero];go_wp2;go_ret2
  exact⟨by simp [sgb],a0.o⟩
 ·go_wp2_with fail
  refine(a5.o _).mono ?_;rintro e w1 ⟨rfl,a2⟩;have a3:=vv a2;clear f0 f1 a7 a2;go_wp2_with fail
  refine(a6.o _ a3.o).mono ?_;rintro e w' ⟨rfl,rfl⟩;rw[Int.sign_zero];go_wp2;go_ret2
  exact⟨by simp [sgb],a0.o.trans (a3.o.mono a0.o.size)⟩
theorem q41{E F:Nat}{neg:Bool}{mode a b:Nat}(h:q2N E F neg mode a b=true):out E F neg mode a b=(if q0T neg mode then q1P E F-1 else q1P E F,3):=by unfold out;rw[if_pos h]
theorem q7P{E F:Nat}{neg:Bool}{mode a b:Nat}(h:q2N E F neg mode a b=false):out E F neg mode a b=(q1D E F neg mode a b,q1e E F neg mode a b):=by unfold out;rw[h];rfl
theorem q7U{E F:Nat}{neg:Bool}{mode a b:Nat}(h:q2N E F neg mode a b=false):q0E E a b<=q09 E:=by
 unfold q2N at h;rw[Bool.or_eq_false_iff,decide_eq_false_iff_not] at h;have:=h.1;omega
theorem q6V{E F:Nat}{neg:Bool}{mode a b:Nat}(h:out E F neg mode a b=(q1D E F neg mode a b,q1e E F neg mode a b)):q2h E F neg mode a b+(q0E E a b+q09 E-1).toNat*2^F<2^(E+F):=by
 have a0:2^F<=2^(E+F):=Nat.pow_le_pow_right (by omega) (by omega);have hF:=Nat.two_pow_pos F;by_cases ho:q2N E F neg mode a b=true
 ·have h2:=q41 ho;rw[h] at h2;have h4:q1D E F neg mode a b=if q0T neg mode then q1P E F-1 else q1P E F:=congrArg Prod.fst h2;show q1D E F neg mode a b<_;rw[h4];unfold q1P;split<;>omega
 ·unfold q2N at ho;have h5:¬q1P E F<=q1D E F neg mode a b:=fun k=>ho (by rw[decide_eq_true k,Bool.or_true])
  show q1D E F neg mode a b<_;unfold q1P at h5;omega
theorem q8s(gx b E F X:Nat)(neg:Bool)(mode:Nat)(w:World)(h1:2<=E)(h2:E<=11)(h3:1<=F)(h4:F<=52)(hx:RatAt w gx (X:Int) b)(hX:0<X)(sX:bl X<=1073741824)(sb:bl b<=1073741824)(hst:Std w)(hm:mode<=4):
  Calls Tryz.prog 74 #[fm E F,.pointer (some ⟨gx,0,none⟩),.bool neg,.int .u8 (mode:Int)] w (q4Q (sgb E F false) (out E F false mode X b) w):=by
 have d0:Hid ((X:Int).sign=1):=vv (Int.sign_eq_one_of_pos (by omega));have d5:Hid (((X:Int).natAbs:Int)=(X:Int)):=vv (by omega);have j2:=q0X h1;have j3:=q1S h2;have a9:=hx.pos;have g5:=q6I (a:=X) (b:=b);have g6:-1073741900<=q0E E X b/\q0E E X b<=1073742900:=by unfold q0E;omega
 have d6:=q3g (E:=E) (F:=F) (neg:=false) (mode:=mode) hX a9;have f6:=q56 (F:=F) (neg:=false) (mode:=mode) hX a9;obtain⟨S,hS⟩:∃S:Nat,S=2^(E+F):=⟨_,rfl⟩;obtain⟨V,hV⟩:∃V:Nat,V=if q0T false mode then q1P E F-1 else q1P E F:=⟨_,rfl⟩;obtain⟨W,hW⟩:∃W:Nat,W=q2h E F false mode X b+(q0E E X b+q09 E-1).toNat*2^F:=⟨_,rfl⟩;have f7:2^(E+F)<=2^63:=Nat.pow_le_pow_right (by omega) (by omega);have c6:Hid (∀v:Nat,v<2^(E+F)->IntKind.u64.wrap ((v:Int))=((sgb E F false+v:Nat):Int)):=vv fun v hv=>by
  rw[<- hS] at f7 hv;rw[IntKind.wrap_u64];show _=((0+v:Nat):Int);omega
 have g7:Hid (V<2^(E+F)):=vv (by
  have:=Nat.two_pow_pos F;have j4:2^F<=2^(E+F):=Nat.pow_le_pow_right (by omega) (by omega);rw[hV];unfold q1P;split<;>omega)
 have g8:Hid (q0E E X b<=q09 E->out E F false mode X b=(q1D E F false mode X b,q1e E F false mode X b)->W<2^(E+F)):=vv fun _ ho=>hW ▸ q6V ho
 have d7:Hid (IntKind.i64.wrap (1-q09 E)=1-q09 E/\IntKind.i64.wrap (q0E E X b-(F:Int))=q0E E X b-F/\IntKind.i64.wrap (q0H X b-(F:Int))=q0H X b-F):=vv ⟨IntWalk.i64_in _ (by omega),IntWalk.i64_in _ (by omega),IntWalk.i64_in _ (by omega)⟩;have d8:Hid (max (q0H X b) (1-q09 E)=q0E E X b):=vv rfl;have HU:Hid (∀g w,RatAt w g (X:Int) b->Std w->Calls Tryz.prog 121 #[.pointer (some ⟨g,0,none⟩),.int .i64 (q0E E X b-F),.bool false,.int .u8 (mode:Int)] w (q1h ((q2h E F false mode X b*p2 (q0E E X b-F):Nat):Int) (p2 (F-q0E E X b)) w)):=vv fun g w hg hs=>by
  have:=q9b g X b (q0E E X b-F) false mode w hg (by omega) (by omega) sX sb hs hm;rw[show -(q0E E X b-(F:Int))=F-q0E E X b by omega] at this;exact this
 have g9:Hid (∀g w,RatAt w g (X:Int) b->Std w->Calls Tryz.prog 121 #[.pointer (some ⟨g,0,none⟩),.int .i64 (q0H X b-F),.bool false,.int .u8 (mode:Int)] w (q1h ((q1X F false mode X b*p2 (q0H X b-F):Nat):Int) (p2 (F-q0H X b)) w)):=vv fun g w hg hs=>by
  have:=q9b g X b (q0H X b-F) false mode w hg (by omega) (by omega) sX sb hs hm;rw[show -(q0H X b-(F:Int))=F-q0H X b by omega] at this;exact this
 have hM:bl (q2h E F false mode X b)<=F+2:=q5b d6;have i0:bl (q1X F false mode X b)<=F+2:=q5b f6;have b1:bl (p2 (q0E E X b-F))<=1073742902:=by unfold Go.Proofs.YtcdimmblnbkjjaaGreatDoor.p2;rw[q1n];omega
 have b2:bl (p2 (F-q0E E X b))<=1073742902:=by unfold Go.Proofs.YtcdimmblnbkjjaaGreatDoor.p2;rw[q1n];omega
 have b3:bl (p2 (q0H X b-F))<=1073742902:=by unfold Go.Proofs.YtcdimmblnbkjjaaGreatDoor.p2;rw[q1n];omega
 have b4:bl (p2 (F-q0H X b))<=1073742902:=by unfold Go.Proofs.YtcdimmblnbkjjaaGreatDoor.p2;rw[q1n];omega
 have b5:bl (p2 (q09 E-F))<=4001:=q3u _ (by omega);have b6:bl (p2 (F-q09 E))<=4001:=q3u _ (by omega);have b7:bl (p2 (1-q09 E))<=4001:=q3u _ (by omega);have b8:bl (p2 (q09 E-1))<=4001:=q3u _ (by omega);have b9:bl (2^(F+1)-1)<=F+2:=q5b (by omega);have c1:=q0z (q2h E F false mode X b) (p2 (q0E E X b-F));have c2:=q0z (q1X F false mode X b) (p2 (q0H X b-F));have c3:=q0z (2^(F+1)-1) (p2 (q09 E-F));have c4:Hid (Sz (q2h E F false mode X b*p2 (q0E E X b-F))/\Sz (p2 (F-q0E E X b))/\Sz ((2^(F+1)-1)*p2 (q09 E-F))/\Sz (p2 (F-q09 E))):=vv (by unfold Sz;exact⟨by omega,by omega,by omega,by omega⟩);have a8:Hid (Sz (q1X F false mode X b*p2 (q0H X b-F))/\Sz (p2 (F-q0H X b))/\Sz (p2 (1-q09 E))/\Sz (p2 (q09 E-1))):=vv (by unfold Sz;exact⟨by omega,by omega,by omega,by omega⟩);have d1:Hid (Sm X/\Sm b):=vv (by unfold Sm;exact⟨by omega,by omega⟩);have i1:=vv hX;have d9:=vv (q5l (E:=E) (F:=F) (neg:=false) (mode:=mode) (a:=X) a9);have e0:=vv (q4m (E:=E) (F:=F) (neg:=false) (mode:=mode) hX a9 h1);have e1:=vv (q5p (E:=E) (F:=F) (neg:=false) (mode:=mode) hX a9 h1);have i2:Hid (∀g w,RatAt w g ((q2h E F false mode X b*p2 (q0E E X b-F):Nat):Int) (p2 (F-q0E E X b))->q0E E X b<=q09 E->Std w->Calls Tryz.prog 127 #[fm E F,.pointer (some ⟨g,0,none⟩)] w fun e w'=>e=.returned (.int .u64 (W:Int))/\Below w.heap.size w w'):=vv fun g w hg hl hs=>hW ▸
  q9y g _ E F _ w h1 h2 h3 h4 hg q6F hl d6 (fun h=>q51 hX a9 (by have:=q6E h;omega)) hs
 have i3:=vv fun w hs=>q5H E F w h1 h2 h3 h4 hs
 have e2:=vv fun w=>q7H E F w h1 h2
 have i4:=vv fun w=>q8A E F w h1 h2
 have i5:Hid (∀w,Calls Tryz.prog 126 #[fm E F,.bool false,.int .u8 (mode:Int)] w fun e w'=>e=.returned (.int .u64 (V:Int))/\Below w.heap.size w w'):=vv fun w=>hV ▸ q7Y E F false mode w h1 h2 h3 h4 hm
 have j5:Hid (∀w,Calls Tryz.prog 118 #[fm E F] w fun e w'=>e=.returned (.int .u64 (S:Int))/\Below w.heap.size w w'):=vv fun w=>hS ▸ Sign E F w h1 h2 h3 h4
 have e3:Hid (q2N E F false mode X b=true->out E F false mode X b=(V,3)):=vv fun h=>hV ▸ q41 h
 have e4:Hid (q2N E F false mode X b=false->out E F false mode X b=(q1D E F false mode X b,q1e E F false mode X b)/\q1D E F false mode X b=W):=vv fun h=>⟨q7P h,hW ▸ rfl⟩
 obtain⟨w0,d2⟩:=yx (w.alloc (.cells #[.int .i64 (E:Int),.int .i64 (F:Int)] 23));have b0:Hid (Below w.heap.size w w0):=vv (by rw[d2];exact(Below.refl _ w).alloc lr _);have HF:Hid (FmAt w0 w.heap.size E F):=vv (by rw[d2];exact FmAt.made w _ _ _);have d3:=vv (hst.fs (Fs.of_nil b0.o));have HX:=vv (hx.below b0.o);have i6:=vv d2;have d4:=vv fun w' (hb:Below w0.heap.size w0 w')=>B.RSign gx _ b w' ((hx.below b0.o).below hb)
 clear hS hV hW f7 hx hst d2 d6 f6 hM i0 b1 b2 b3 b4 b5 b6 b7 b8 b9 c1 c2 c3 g6 g5 sX sb hX h1 h2 hm a9;have HB:Hid (Below w0.heap.size w0 w0):=vv (Below.refl _ _);obtain⟨f0,f1,c0⟩:=HF.o;go_enter Tryz.func74,Tryz.ntmps74
 go_wp2_with fail
 rw[<- i6.o];go_wp2_with fail
 refine(d4.o _ HB.o).mono ?_;rintro e w' ⟨rfl,rfl⟩;rw[d0.o];go_wp2_with fail
 refine(d4.o _ HB.o).mono ?_;rintro e w' ⟨rfl,rfl⟩;rw[d0.o];go_wp2_with fail
 refine(d4.o _ HB.o).mono ?_;rintro e w' ⟨rfl,rfl⟩;rw[d0.o];go_wp2_with fail
 refine(d4.o _ HB.o).mono ?_;rintro e w' ⟨rfl,rfl⟩;rw[d0.o];obtain⟨wc,e5⟩:∃x:World,x=w0:=⟨_,rfl⟩;have HB:Hid (Below w0.heap.size w0 wc):=vv (by rw[e5];exact Below.refl _ _);rw[<- e5];clear e5 f0 f1 c0;go_wp2_with fail
 obtain⟨z0,a0⟩:=q0y wc;obtain⟨gA,f8⟩:=yx (wc.heap.size);have e6:w0.heap.size<=gA:=by have:=HB.o.size;omega
 obtain⟨wn,f9⟩:=yx (wc.alloc q1H);rw[<- f9] at z0 a0 ⊢;rw[<- f8] at z0 ⊢;have HZ:=vv z0;have HB:=vn HB a0;clear f9 f8 z0 a0;refine(B.AbsR gA gx _ _ _ HZ.o.sh (HX.o.below HB.o)).mono ?_;rintro e wc hP;rw[d5.o] at hP;have a1:=hP.below HB.o HB.o.size e6;have HB:=vv a1;obtain⟨rfl,g0,-⟩:=hP;have a2:=vv g0;clear g0 a1;go_wp2_with fail
 refine(log gA X b _ a2.o i1.o d1.o.1 d1.o.2).mono ?_;rintro e wn ⟨rfl,a0⟩;have a2:=vv (a2.o.below a0);have a1:=HB.o.trans (a0.mono HB.o.size);have HB:=vv a1;clear a0 a1;obtain⟨wc,rfl⟩:=yx wn;have f0:=(HF.o.below HB.o).c0;have f1:=(HF.o.below HB.o).c1;go_wp2_with fail
 refine q02 (fun w'=>w'.cell? ⟨w.heap.size,0,none⟩=some (.int .i64 (E:Int))/\w'.cell? ⟨w.heap.size,1,none⟩=some (.int .i64 (F:Int))) 11
  (.still 0 (.still 1 (.still 2 (.still 6 (.still 7 (.still 9 (.still 10 (.one 3 (.still 4 (.still 5 (.still 8 .done))))))))))) (by kernel_rfl) (by kernel_rfl) (fun _ _ d _ _ h=>by cases d<;>exact h) ⟨f0,f1⟩ (fun hS0=>?_)
 iterate 7
  refine q00 (v:=?_) rfl (by rfl) ?_ ?_;rotate_left
  ·intro w c5;go_simp;with_reducible rfl
  simp only[Act.put,sa,sb,sc]
 refine q03 rfl (by rfl) (fun K hK=>?_);go_simp;refine(i4.o _).mono ?_;rintro e wn ⟨rfl,a0⟩;have a0:Below wc.heap.size wc wn:=⟨a0.os,a0.tape,a0.output,a0.size,a0.block⟩;clear f0 f1;have a2:=vv (a2.o.below a0);have a1:=HB.o.trans (a0.mono HB.o.size);have HB:=vv a1;clear a0 a1;obtain⟨wc,rfl⟩:=yx wn;go_wp2_with fail
 refine hK.out _ _ ⟨(HF.o.below HB.o).c0,(HF.o.below HB.o).c1⟩ (fun a6=>?_);clear hK;have c7:=d7.o.1
 iterate 1
  refine q00 (v:=?_) rfl (by rfl) ?_ ?_;rotate_left
  ·intro w c5;go_simp;with_reducible rfl
  simp only[Act.put,sa,sb,sc]
 clear c7
 iterate 1
  refine q00 (v:=?_) rfl (by rfl) ?_ ?_;rotate_left
  ·intro w c5;go_simp;with_reducible rfl
  simp only[Act.put,sa,sb,sc]
 rw[d8.o];have c7:=d7.o.2.1
 iterate 1
  refine q00 (v:=?_) rfl (by rfl) ?_ ?_;rotate_left
  ·intro w c5;go_simp;with_reducible rfl
  simp only[Act.put,sa,sb,sc]
 clear c7;refine q0a ?_;go_wp2_with fail
 refine(HU.o gA _ a2.o (d3.o.fs (Fs.of_nil HB.o))).mono ?_;rintro e wn ⟨gY,rfl,j6,g1,a0⟩;have a2:=vv (a2.o.below a0);have a1:=HB.o.trans (a0.mono HB.o.size);have HB:=vv a1;clear a0 a1;obtain⟨wc,rfl⟩:=yx wn;have a3:=vv g1;clear g1 hS0;go_wp2_with fail
 refine(B.CmpR gY gA _ _ _ _ _ a3.o a2.o c4.o.1 c4.o.2.1 d1.o.1.sz d1.o.2.sz).mono ?_;rintro e wn ⟨rfl,a0⟩
 try have a4:=vv (a4.o.below a0)
 try have a5:=vv (a5.o.below a0)
 have a3:=vv (a3.o.below a0);have a2:=vv (a2.o.below a0);have a1:=HB.o.trans (a0.mono HB.o.size);have HB:=vv a1;clear a0 a1;obtain⟨wc,rfl⟩:=yx wn;obtain⟨t1,e7⟩:=yx (q0J (q2h E F false mode X b*p2 (q0E E X b-F)*b) (X*p2 (F-q0E E X b)));rw[<- e7];have c8:=vv d9.o;rw[<- e7] at c8;clear e7;by_cases hr:q40 E F X b=0
 focus
  have i7:(t1==0)=true:=by rw[c8.o.2 hr];rfl
  have e8:(t1 != 0)=false:=by rw[c8.o.2 hr];rfl
  have e9:Hid (q1e E F false mode X b=0):=vv (if_pos hr);clear hr;obtain⟨f0,f1,c0⟩:=(HF.o.below HB.o)
 rotate_left 1
 focus
  have i7:(t1==0)=false:=by rw[beq_eq_false_iff_ne];exact fun h=>hr (c8.o.1 h)
  have e8:(t1 != 0)=true:=by rw[bne_iff_ne];exact fun h=>hr (c8.o.1 h)
  have c9:Hid (q1e E F false mode X b=if q2g E F false mode X b then 5 else 1):=vv (if_neg hr);clear hr;have f0:=(HF.o.below HB.o).c0;have f1:=(HF.o.below HB.o).c1;go_wp2_with fail
  refine q02 (fun w'=>w'.cell? ⟨w.heap.size,0,none⟩=some (.int .i64 (E:Int))/\w'.cell? ⟨w.heap.size,1,none⟩=some (.int .i64 (F:Int))) 11
   (.still 0 (.still 1 (.still 2 (.still 3 (.still 4 (.still 5 (.still 6 (.still 8 (.one 7 (.one 9 (.one 10 .done))))))))))) (by kernel_rfl) (by kernel_rfl) (fun _ _ d _ _ h=>by cases d<;>exact h) ⟨f0,f1⟩ (fun hS0=>?_)
  iterate 4
   refine q00 (v:=?_) rfl (by rfl) ?_ ?_;rotate_left
   ·intro w c5;go_simp;with_reducible rfl
   simp only[Act.put,sa,sb,sc]
  have c7:=d7.o.2.2
  iterate 1
   refine q00 (v:=?_) rfl (by rfl) ?_ ?_;rotate_left
   ·intro w c5;go_simp;with_reducible rfl
   simp only[Act.put,sa,sb,sc]
  clear c7
  iterate 3
   refine q00 (v:=?_) rfl (by rfl) ?_ ?_;rotate_left
   ·intro w c5;go_simp;with_reducible rfl
   simp only[Act.put,sa,sb,sc]
  refine q03 rfl (by rfl) (fun K hK=>?_);go_simp;refine(g9.o gA _ a2.o.drew ((d3.o.fs (Fs.of_nil HB.o)).drew)).mono ?_;rintro e wn ⟨gU,rfl,j7,g2,a0⟩;have a0:Below wc.heap.size wc wn:=⟨a0.os,a0.tape,a0.output,a0.size,a0.block⟩;clear f0 f1
  try have a4:=vv (a4.o.below a0)
  try have a5:=vv (a5.o.below a0)
  have a3:=vv (a3.o.below a0);have a2:=vv (a2.o.below a0);have a1:=HB.o.trans (a0.mono HB.o.size);have HB:=vv a1;clear a0 a1;obtain⟨wc,rfl⟩:=yx wn;have a4:=vv g2;clear g2;go_wp2_with fail
  refine hK.out _ _ ⟨(HF.o.below HB.o).c0,(HF.o.below HB.o).c1⟩ (fun a6=>?_);clear hK;refine q03 rfl (by rfl) (fun K hK=>?_);go_simp;refine(e2.o _).mono ?_;rintro e wn ⟨gL,rfl,j8,g3,a0⟩
  try have a4:=vv (a4.o.below a0)
  try have a5:=vv (a5.o.below a0)
  have a3:=vv (a3.o.below a0);have a2:=vv (a2.o.below a0);have a1:=HB.o.trans (a0.mono HB.o.size);have HB:=vv a1;clear a0 a1;obtain⟨wc,rfl⟩:=yx wn;have a5:=vv g3;clear g3;go_wp2_with fail
  refine hK.out _ _ ⟨(HF.o.below HB.o).c0,(HF.o.below HB.o).c1⟩ (fun a6=>?_);clear hK;refine q03 rfl (by rfl) (fun K hK=>?_);go_simp;refine(B.CmpR gU gL _ _ _ _ _ a4.o a5.o a8.o.1 a8.o.2.1 a8.o.2.2.1 a8.o.2.2.2).mono ?_;rintro e wn ⟨rfl,a0⟩
  try have a4:=vv (a4.o.below a0)
  try have a5:=vv (a5.o.below a0)
  have a3:=vv (a3.o.below a0);have a2:=vv (a2.o.below a0);have a1:=HB.o.trans (a0.mono HB.o.size);have HB:=vv a1;clear a0 a1;obtain⟨wc,rfl⟩:=yx wn;obtain⟨t3,f2⟩:=yx (q0J (q1X F false mode X b*p2 (q0H X b-F)*p2 (q09 E-1)) (p2 (1-q09 E)*p2 (F-q0H X b)));rw[<- f2];have f3:=vv e0.o;rw[<- f2] at f3;clear f2;go_wp2_with fail
  refine hK.out _ _ ⟨(HF.o.below HB.o).c0,(HF.o.below HB.o).c1⟩ (fun a6=>?_);clear hK;refine q0a ?_;by_cases hu:q2g E F false mode X b=true
  focus
   have i8:decide (t3<0)=true:=decide_eq_true (f3.o.2 hu);have e9:Hid (q1e E F false mode X b=5):=vv (by rw[c9.o,if_pos hu]);clear hu;obtain⟨f0,f1,c0⟩:=(HF.o.below HB.o)
  rotate_left 1
  focus
   have i8:decide (t3<0)=false:=decide_eq_false (fun h=>hu (f3.o.1 h));have e9:Hid (q1e E F false mode X b=1):=vv (by rw[c9.o,if_neg hu]);clear hu;obtain⟨f0,f1,c0⟩:=(HF.o.below HB.o)
 all_goals
  go_wp2_with fail
  refine(i3.o _ (d3.o.fs (Fs.of_nil HB.o))).mono ?_;rintro e wn ⟨gG,rfl,j9,i9,a0⟩;have j0:=vv i9
  try have a4:=vv (a4.o.below a0)
  try have a5:=vv (a5.o.below a0)
  have a3:=vv (a3.o.below a0);have a2:=vv (a2.o.below a0);have a1:=HB.o.trans (a0.mono HB.o.size);have HB:=vv a1;clear a0 a1;obtain⟨wc,rfl⟩:=yx wn;go_wp2_with fail
  refine(B.CmpR gY gG _ _ _ _ _ a3.o j0.o c4.o.1 c4.o.2.1 c4.o.2.2.1 c4.o.2.2.2).mono ?_;rintro e wn ⟨rfl,a0⟩
  try have a4:=vv (a4.o.below a0)
  try have a5:=vv (a5.o.below a0)
  have a3:=vv (a3.o.below a0);have a2:=vv (a2.o.below a0);have a1:=HB.o.trans (a0.mono HB.o.size);have HB:=vv a1;clear a0 a1;obtain⟨wc,rfl⟩:=yx wn;obtain⟨t2,f4⟩:=yx (q0J (q2h E F false mode X b*p2 (q0E E X b-F)*p2 (F-q09 E)) ((2^(F+1)-1)*p2 (q09 E-F)*p2 (F-q0E E X b)));rw[<- f4];have f5:=vv e1.o;rw[<- f4] at f5;obtain⟨f0,f1,c0⟩:=(HF.o.below HB.o);clear f4;by_cases ho:q2N E F false mode X b=true
  ·have j1:decide (0<t2)=true:=decide_eq_true (f5.o.2 ho);have a7:=vv (e3.o ho);clear ho;go_wp2_with fail
   refine(i5.o _).mono ?_;rintro e wn ⟨rfl,a0⟩;have HB:=vn HB a0;clear f0 f1 c0 a0;go_wp2;go_ret2
   rw[a7.o];exact⟨q3E (c6.o _ g7.o) rfl,b0.o.trans (HB.o.mono b0.o.size)⟩
  ·have j1:decide (0<t2)=false:=decide_eq_false (fun h=>ho (f5.o.1 h));have a7:=vv (e4.o (by simpa using ho));have g4:=vv (q7U (by simpa using ho));clear ho;go_wp2_with fail
   refine(i2.o _ _ a3.o g4.o (d3.o.fs (Fs.of_nil HB.o))).mono ?_;rintro e wn ⟨rfl,a0⟩;have HB:=vn HB a0;clear f0 f1 c0 a0;go_wp2;go_ret2
   rw[a7.o.1,e9.o,a7.o.2];exact⟨q3E (c6.o _ (g8.o g4.o a7.o.1)) rfl,b0.o.trans (HB.o.mono b0.o.size)⟩
theorem q8t(gx b E F X:Nat)(neg:Bool)(mode:Nat)(w:World)(h1:2<=E)(h2:E<=11)(h3:1<=F)(h4:F<=52)(hx:RatAt w gx (-(X:Int)) b)(hX:0<X)(sX:bl X<=1073741824)(sb:bl b<=1073741824)(hst:Std w)(hm:mode<=4):
  Calls Tryz.prog 74 #[fm E F,.pointer (some ⟨gx,0,none⟩),.bool neg,.int .u8 (mode:Int)] w (q4Q (sgb E F true) (out E F true mode X b) w):=by
 have d3:Hid ((-(X:Int)).sign = -1):=vv (Int.sign_eq_neg_one_of_neg (by omega));have d4:Hid (((-(X:Int)).natAbs:Int)=(X:Int)):=vv (by omega);have j4:=q0X h1;have j5:=q1S h2;have b0:=hx.pos;have g6:=q6I (a:=X) (b:=b);have g7:-1073741900<=q0E E X b/\q0E E X b<=1073742900:=by unfold q0E;omega
 have d5:=q3g (E:=E) (F:=F) (neg:=true) (mode:=mode) hX b0;have f5:=q56 (F:=F) (neg:=true) (mode:=mode) hX b0;obtain⟨S,hS⟩:∃S:Nat,S=2^(E+F):=⟨_,rfl⟩;obtain⟨V,hV⟩:∃V:Nat,V=if q0T true mode then q1P E F-1 else q1P E F:=⟨_,rfl⟩;obtain⟨W,hW⟩:∃W:Nat,W=q2h E F true mode X b+(q0E E X b+q09 E-1).toNat*2^F:=⟨_,rfl⟩;have f6:2^(E+F)<=2^63:=Nat.pow_le_pow_right (by omega) (by omega);have c6:Hid (∀v:Nat,v<2^(E+F)->IntKind.u64.wrap ((S:Int)+(v:Int))=((sgb E F true+v:Nat):Int)):=vv fun v hv=>by
  rw[<- hS] at f6 hv;rw[IntKind.wrap_u64];show _=((2^(E+F)+v:Nat):Int);rw[<- hS];omega
 have g8:Hid (V<2^(E+F)):=vv (by
  have:=Nat.two_pow_pos F;have j6:2^F<=2^(E+F):=Nat.pow_le_pow_right (by omega) (by omega);rw[hV];unfold q1P;split<;>omega)
 have g9:Hid (q0E E X b<=q09 E->out E F true mode X b=(q1D E F true mode X b,q1e E F true mode X b)->W<2^(E+F)):=vv fun _ ho=>hW ▸ q6V ho
 have d6:Hid (IntKind.i64.wrap (1-q09 E)=1-q09 E/\IntKind.i64.wrap (q0E E X b-(F:Int))=q0E E X b-F/\IntKind.i64.wrap (q0H X b-(F:Int))=q0H X b-F):=vv ⟨IntWalk.i64_in _ (by omega),IntWalk.i64_in _ (by omega),IntWalk.i64_in _ (by omega)⟩;have d7:Hid (max (q0H X b) (1-q09 E)=q0E E X b):=vv rfl;have HU:Hid (∀g w,RatAt w g (X:Int) b->Std w->Calls Tryz.prog 121 #[.pointer (some ⟨g,0,none⟩),.int .i64 (q0E E X b-F),.bool true,.int .u8 (mode:Int)] w (q1h ((q2h E F true mode X b*p2 (q0E E X b-F):Nat):Int) (p2 (F-q0E E X b)) w)):=vv fun g w hg hs=>by
  have:=q9b g X b (q0E E X b-F) true mode w hg (by omega) (by omega) sX sb hs hm;rw[show -(q0E E X b-(F:Int))=F-q0E E X b by omega] at this;exact this
 have i0:Hid (∀g w,RatAt w g (X:Int) b->Std w->Calls Tryz.prog 121 #[.pointer (some ⟨g,0,none⟩),.int .i64 (q0H X b-F),.bool true,.int .u8 (mode:Int)] w (q1h ((q1X F true mode X b*p2 (q0H X b-F):Nat):Int) (p2 (F-q0H X b)) w)):=vv fun g w hg hs=>by
  have:=q9b g X b (q0H X b-F) true mode w hg (by omega) (by omega) sX sb hs hm;rw[show -(q0H X b-(F:Int))=F-q0H X b by omega] at this;exact this
 have hM:bl (q2h E F true mode X b)<=F+2:=q5b d5;have i1:bl (q1X F true mode X b)<=F+2:=q5b f5;have b1:bl (p2 (q0E E X b-F))<=1073742902:=by unfold Go.Proofs.YtcdimmblnbkjjaaGreatDoor.p2;rw[q1n];omega
 have b2:bl (p2 (F-q0E E X b))<=1073742902:=by unfold Go.Proofs.YtcdimmblnbkjjaaGreatDoor.p2;rw[q1n];omega
 have b3:bl (p2 (q0H X b-F))<=1073742902:=by unfold Go.Proofs.YtcdimmblnbkjjaaGreatDoor.p2;rw[q1n];omega
 have b4:bl (p2 (F-q0H X b))<=1073742902:=by unfold Go.Proofs.YtcdimmblnbkjjaaGreatDoor.p2;rw[q1n];omega
 have b5:bl (p2 (q09 E-F))<=4001:=q3u _ (by omega);have b6:bl (p2 (F-q09 E))<=4001:=q3u _ (by omega);have b7:bl (p2 (1-q09 E))<=4001:=q3u _ (by omega);have b8:bl (p2 (q09 E-1))<=4001:=q3u _ (by omega);have b9:bl (2^(F+1)-1)<=F+2:=q5b (by omega);have c1:=q0z (q2h E F true mode X b) (p2 (q0E E X b-F));have c2:=q0z (q1X F true mode X b) (p2 (q0H X b-F));have c3:=q0z (2^(F+1)-1) (p2 (q09 E-F));have c4:Hid (Sz (q2h E F true mode X b*p2 (q0E E X b-F))/\Sz (p2 (F-q0E E X b))/\Sz ((2^(F+1)-1)*p2 (q09 E-F))/\Sz (p2 (F-q09 E))):=vv (by unfold Sz;exact⟨by omega,by omega,by omega,by omega⟩);have a8:Hid (Sz (q1X F true mode X b*p2 (q0H X b-F))/\Sz (p2 (F-q0H X b))/\Sz (p2 (1-q09 E))/\Sz (p2 (q09 E-1))):=vv (by unfold Sz;exact⟨by omega,by omega,by omega,by omega⟩);have d0:Hid (Sm X/\Sm b):=vv (by unfold Sm;exact⟨by omega,by omega⟩);have i2:=vv hX;have d8:=vv (q5l (E:=E) (F:=F) (neg:=true) (mode:=mode) (a:=X) b0);have d9:=vv (q4m (E:=E) (F:=F) (neg:=true) (mode:=mode) hX b0 h1);have e0:=vv (q5p (E:=E) (F:=F) (neg:=true) (mode:=mode) hX b0 h1);have i3:Hid (∀g w,RatAt w g ((q2h E F true mode X b*p2 (q0E E X b-F):Nat):Int) (p2 (F-q0E E X b))->q0E E X b<=q09 E->Std w->Calls Tryz.prog 127 #[fm E F,.pointer (some ⟨g,0,none⟩)] w fun e w'=>e=.returned (.int .u64 (W:Int))/\Below w.heap.size w w'):=vv fun g w hg hl hs=>hW ▸
  q9y g _ E F _ w h1 h2 h3 h4 hg q6F hl d5 (fun h=>q51 hX b0 (by have:=q6E h;omega)) hs
 have i4:=vv fun w hs=>q5H E F w h1 h2 h3 h4 hs
 have e1:=vv fun w=>q7H E F w h1 h2
 have i5:=vv fun w=>q8A E F w h1 h2
 have i6:Hid (∀w,Calls Tryz.prog 126 #[fm E F,.bool true,.int .u8 (mode:Int)] w fun e w'=>e=.returned (.int .u64 (V:Int))/\Below w.heap.size w w'):=vv fun w=>hV ▸ q7Y E F true mode w h1 h2 h3 h4 hm
 have i7:Hid (∀w,Calls Tryz.prog 118 #[fm E F] w fun e w'=>e=.returned (.int .u64 (S:Int))/\Below w.heap.size w w'):=vv fun w=>hS ▸ Sign E F w h1 h2 h3 h4
 have e2:Hid (q2N E F true mode X b=true->out E F true mode X b=(V,3)):=vv fun h=>hV ▸ q41 h
 have e3:Hid (q2N E F true mode X b=false->out E F true mode X b=(q1D E F true mode X b,q1e E F true mode X b)/\q1D E F true mode X b=W):=vv fun h=>⟨q7P h,hW ▸ rfl⟩
 obtain⟨w0,d1⟩:=yx (w.alloc (.cells #[.int .i64 (E:Int),.int .i64 (F:Int)] 23));have c0:Hid (Below w.heap.size w w0):=vv (by rw[d1];exact(Below.refl _ w).alloc lr _);have HF:Hid (FmAt w0 w.heap.size E F):=vv (by rw[d1];exact FmAt.made w _ _ _);have d2:=vv (hst.fs (Fs.of_nil c0.o));have HX:=vv (hx.below c0.o);have i8:=vv d1;have e4:=vv fun w' (hb:Below w0.heap.size w0 w')=>B.RSign gx _ b w' ((hx.below c0.o).below hb)
 clear hS hV hW f6 hx hst d1 d5 f5 hM i1 b1 b2 b3 b4 b5 b6 b7 b8 b9 c1 c2 c3 g7 g6 sX sb hX h1 h2 hm b0;have HB:Hid (Below w0.heap.size w0 w0):=vv (Below.refl _ _);obtain⟨f0,f1,a9⟩:=HF.o;go_enter Tryz.func74,Tryz.ntmps74
 go_wp2_with fail
 rw[<- i8.o];go_wp2_with fail
 refine(e4.o _ HB.o).mono ?_;rintro e w' ⟨rfl,rfl⟩;rw[d3.o];go_wp2_with fail
 refine(i7.o _).mono ?_;rintro e w1 ⟨rfl,f7⟩;have HB:=vv f7;clear f0 f1 a9 f7;have f0:=True.intro;have f1:=True.intro;have a9:=True.intro;go_wp2_with fail
 refine(e4.o _ HB.o).mono ?_;rintro e w' ⟨rfl,rfl⟩;rw[d3.o];go_wp2_with fail
 refine(e4.o _ HB.o).mono ?_;rintro e w' ⟨rfl,rfl⟩;rw[d3.o];obtain⟨wc,f8⟩:∃x:World,x=w1:=⟨_,rfl⟩;rw[<- f8] at HB ⊢;clear f8 f0 f1 a9;go_wp2_with fail
 obtain⟨z0,a0⟩:=q0y wc;obtain⟨gA,f9⟩:=yx (wc.heap.size);have e5:w0.heap.size<=gA:=by have:=HB.o.size;omega
 obtain⟨wn,g0⟩:=yx (wc.alloc q1H);rw[<- g0] at z0 a0 ⊢;rw[<- f9] at z0 ⊢;have HZ:=vv z0;have HB:=vn HB a0;clear g0 f9 z0 a0;refine(B.AbsR gA gx _ _ _ HZ.o.sh (HX.o.below HB.o)).mono ?_;rintro e wc hP;rw[d4.o] at hP;have a1:=hP.below HB.o HB.o.size e5;have HB:=vv a1;obtain⟨rfl,g1,-⟩:=hP;have a2:=vv g1;clear g1 a1;go_wp2_with fail
 refine(log gA X b _ a2.o i2.o d0.o.1 d0.o.2).mono ?_;rintro e wn ⟨rfl,a0⟩;have a2:=vv (a2.o.below a0);have a1:=HB.o.trans (a0.mono HB.o.size);have HB:=vv a1;clear a0 a1;obtain⟨wc,rfl⟩:=yx wn;have f0:=(HF.o.below HB.o).c0;have f1:=(HF.o.below HB.o).c1;go_wp2_with fail
 refine q02 (fun w'=>w'.cell? ⟨w.heap.size,0,none⟩=some (.int .i64 (E:Int))/\w'.cell? ⟨w.heap.size,1,none⟩=some (.int .i64 (F:Int))) 11
  (.still 0 (.still 1 (.still 2 (.still 6 (.still 7 (.still 9 (.still 10 (.one 3 (.still 4 (.still 5 (.still 8 .done))))))))))) (by kernel_rfl) (by kernel_rfl) (fun _ _ d _ _ h=>by cases d<;>exact h) ⟨f0,f1⟩ (fun hS0=>?_)
 iterate 7
  refine q00 (v:=?_) rfl (by rfl) ?_ ?_;rotate_left
  ·intro w c5;go_simp;with_reducible rfl
  simp only[Act.put,sa,sb,sc]
 refine q03 rfl (by rfl) (fun K hK=>?_);go_simp;refine(i5.o _).mono ?_;rintro e wn ⟨rfl,a0⟩;have a0:Below wc.heap.size wc wn:=⟨a0.os,a0.tape,a0.output,a0.size,a0.block⟩;clear f0 f1;have a2:=vv (a2.o.below a0);have a1:=HB.o.trans (a0.mono HB.o.size);have HB:=vv a1;clear a0 a1;obtain⟨wc,rfl⟩:=yx wn;go_wp2_with fail
 refine hK.out _ _ ⟨(HF.o.below HB.o).c0,(HF.o.below HB.o).c1⟩ (fun a6=>?_);clear hK;have c7:=d6.o.1
 iterate 1
  refine q00 (v:=?_) rfl (by rfl) ?_ ?_;rotate_left
  ·intro w c5;go_simp;with_reducible rfl
  simp only[Act.put,sa,sb,sc]
 clear c7
 iterate 1
  refine q00 (v:=?_) rfl (by rfl) ?_ ?_;rotate_left
  ·intro w c5;go_simp;with_reducible rfl
  simp only[Act.put,sa,sb,sc]
 rw[d7.o];have c7:=d6.o.2.1
 iterate 1
  refine q00 (v:=?_) rfl (by rfl) ?_ ?_;rotate_left
  ·intro w c5;go_simp;with_reducible rfl
  simp only[Act.put,sa,sb,sc]
 clear c7;refine q0a ?_;go_wp2_with fail
 refine(HU.o gA _ a2.o (d2.o.fs (Fs.of_nil HB.o))).mono ?_;rintro e wn ⟨gY,rfl,j7,g2,a0⟩;have a2:=vv (a2.o.below a0);have a1:=HB.o.trans (a0.mono HB.o.size);have HB:=vv a1;clear a0 a1;obtain⟨wc,rfl⟩:=yx wn;have a3:=vv g2;clear g2 hS0;go_wp2_with fail
 refine(B.CmpR gY gA _ _ _ _ _ a3.o a2.o c4.o.1 c4.o.2.1 d0.o.1.sz d0.o.2.sz).mono ?_;rintro e wn ⟨rfl,a0⟩
 try have a4:=vv (a4.o.below a0)
 try have a5:=vv (a5.o.below a0)
 have a3:=vv (a3.o.below a0);have a2:=vv (a2.o.below a0);have a1:=HB.o.trans (a0.mono HB.o.size);have HB:=vv a1;clear a0 a1;obtain⟨wc,rfl⟩:=yx wn;obtain⟨t1,e6⟩:=yx (q0J (q2h E F true mode X b*p2 (q0E E X b-F)*b) (X*p2 (F-q0E E X b)));rw[<- e6];have c8:=vv d8.o;rw[<- e6] at c8;clear e6;by_cases hr:q40 E F X b=0
 focus
  have i9:(t1==0)=true:=by rw[c8.o.2 hr];rfl
  have e7:(t1 != 0)=false:=by rw[c8.o.2 hr];rfl
  have e8:Hid (q1e E F true mode X b=0):=vv (if_pos hr);clear hr;obtain⟨f0,f1,a9⟩:=(HF.o.below HB.o)
 rotate_left 1
 focus
  have i9:(t1==0)=false:=by rw[beq_eq_false_iff_ne];exact fun h=>hr (c8.o.1 h)
  have e7:(t1 != 0)=true:=by rw[bne_iff_ne];exact fun h=>hr (c8.o.1 h)
  have c9:Hid (q1e E F true mode X b=if q2g E F true mode X b then 5 else 1):=vv (if_neg hr);clear hr;have f0:=(HF.o.below HB.o).c0;have f1:=(HF.o.below HB.o).c1;go_wp2_with fail
  refine q02 (fun w'=>w'.cell? ⟨w.heap.size,0,none⟩=some (.int .i64 (E:Int))/\w'.cell? ⟨w.heap.size,1,none⟩=some (.int .i64 (F:Int))) 11
   (.still 0 (.still 1 (.still 2 (.still 3 (.still 4 (.still 5 (.still 6 (.still 8 (.one 7 (.one 9 (.one 10 .done))))))))))) (by kernel_rfl) (by kernel_rfl) (fun _ _ d _ _ h=>by cases d<;>exact h) ⟨f0,f1⟩ (fun hS0=>?_)
  iterate 4
   refine q00 (v:=?_) rfl (by rfl) ?_ ?_;rotate_left
   ·intro w c5;go_simp;with_reducible rfl
   simp only[Act.put,sa,sb,sc]
  have c7:=d6.o.2.2
  iterate 1
   refine q00 (v:=?_) rfl (by rfl) ?_ ?_;rotate_left
   ·intro w c5;go_simp;with_reducible rfl
   simp only[Act.put,sa,sb,sc]
  clear c7
  iterate 3
   refine q00 (v:=?_) rfl (by rfl) ?_ ?_;rotate_left
   ·intro w c5;go_simp;with_reducible rfl
   simp only[Act.put,sa,sb,sc]
  refine q03 rfl (by rfl) (fun K hK=>?_);go_simp;refine(i0.o gA _ a2.o.drew ((d2.o.fs (Fs.of_nil HB.o)).drew)).mono ?_;rintro e wn ⟨gU,rfl,j8,g3,a0⟩;have a0:Below wc.heap.size wc wn:=⟨a0.os,a0.tape,a0.output,a0.size,a0.block⟩;clear f0 f1
  try have a4:=vv (a4.o.below a0)
  try have a5:=vv (a5.o.below a0)
  have a3:=vv (a3.o.below a0);have a2:=vv (a2.o.below a0);have a1:=HB.o.trans (a0.mono HB.o.size);have HB:=vv a1;clear a0 a1;obtain⟨wc,rfl⟩:=yx wn;have a4:=vv g3;clear g3;go_wp2_with fail
  refine hK.out _ _ ⟨(HF.o.below HB.o).c0,(HF.o.below HB.o).c1⟩ (fun a6=>?_);clear hK;refine q03 rfl (by rfl) (fun K hK=>?_);go_simp;refine(e1.o _).mono ?_;rintro e wn ⟨gL,rfl,j9,g4,a0⟩
  try have a4:=vv (a4.o.below a0)
  try have a5:=vv (a5.o.below a0)
  have a3:=vv (a3.o.below a0);have a2:=vv (a2.o.below a0);have a1:=HB.o.trans (a0.mono HB.o.size);have HB:=vv a1;clear a0 a1;obtain⟨wc,rfl⟩:=yx wn;have a5:=vv g4;clear g4;go_wp2_with fail
  refine hK.out _ _ ⟨(HF.o.below HB.o).c0,(HF.o.below HB.o).c1⟩ (fun a6=>?_);clear hK;refine q03 rfl (by rfl) (fun K hK=>?_);go_simp;refine(B.CmpR gU gL _ _ _ _ _ a4.o a5.o a8.o.1 a8.o.2.1 a8.o.2.2.1 a8.o.2.2.2).mono ?_;rintro e wn ⟨rfl,a0⟩
  try have a4:=vv (a4.o.below a0)
  try have a5:=vv (a5.o.below a0)
  have a3:=vv (a3.o.below a0);have a2:=vv (a2.o.below a0);have a1:=HB.o.trans (a0.mono HB.o.size);have HB:=vv a1;clear a0 a1;obtain⟨wc,rfl⟩:=yx wn;obtain⟨t3,e9⟩:=yx (q0J (q1X F true mode X b*p2 (q0H X b-F)*p2 (q09 E-1)) (p2 (1-q09 E)*p2 (F-q0H X b)));rw[<- e9];have f2:=vv d9.o;rw[<- e9] at f2;clear e9;go_wp2_with fail
  refine hK.out _ _ ⟨(HF.o.below HB.o).c0,(HF.o.below HB.o).c1⟩ (fun a6=>?_);clear hK;refine q0a ?_;by_cases hu:q2g E F true mode X b=true
  focus
   have j0:decide (t3<0)=true:=decide_eq_true (f2.o.2 hu);have e8:Hid (q1e E F true mode X b=5):=vv (by rw[c9.o,if_pos hu]);clear hu;obtain⟨f0,f1,a9⟩:=(HF.o.below HB.o)
  rotate_left 1
  focus
   have j0:decide (t3<0)=false:=decide_eq_false (fun h=>hu (f2.o.1 h));have e8:Hid (q1e E F true mode X b=1):=vv (by rw[c9.o,if_neg hu]);clear hu;obtain⟨f0,f1,a9⟩:=(HF.o.below HB.o)
 all_goals
  go_wp2_with fail
  refine(i4.o _ (d2.o.fs (Fs.of_nil HB.o))).mono ?_;rintro e wn ⟨gG,rfl,k0,j1,a0⟩;have j2:=vv j1
  try have a4:=vv (a4.o.below a0)
  try have a5:=vv (a5.o.below a0)
  have a3:=vv (a3.o.below a0);have a2:=vv (a2.o.below a0);have a1:=HB.o.trans (a0.mono HB.o.size);have HB:=vv a1;clear a0 a1;obtain⟨wc,rfl⟩:=yx wn;go_wp2_with fail
  refine(B.CmpR gY gG _ _ _ _ _ a3.o j2.o c4.o.1 c4.o.2.1 c4.o.2.2.1 c4.o.2.2.2).mono ?_;rintro e wn ⟨rfl,a0⟩
  try have a4:=vv (a4.o.below a0)
  try have a5:=vv (a5.o.below a0)
  have a3:=vv (a3.o.below a0);have a2:=vv (a2.o.below a0);have a1:=HB.o.trans (a0.mono HB.o.size);have HB:=vv a1;clear a0 a1;obtain⟨wc,rfl⟩:=yx wn;obtain⟨t2,f3⟩:=yx (q0J (q2h E F true mode X b*p2 (q0E E X b-F)*p2 (F-q09 E)) ((2^(F+1)-1)*p2 (q09 E-F)*p2 (F-q0E E X b)));rw[<- f3];have f4:=vv e0.o;rw[<- f3] at f4;obtain⟨f0,f1,a9⟩:=(HF.o.below HB.o);clear f3;by_cases ho:q2N E F true mode X b=true
  ·have j3:decide (0<t2)=true:=decide_eq_true (f4.o.2 ho);have a7:=vv (e2.o ho);clear ho;go_wp2_with fail
   refine(i6.o _).mono ?_;rintro e wn ⟨rfl,a0⟩;have HB:=vn HB a0;clear f0 f1 a9 a0;go_wp2;go_ret2
   rw[a7.o];exact⟨q3E (c6.o _ g8.o) rfl,c0.o.trans (HB.o.mono c0.o.size)⟩
  ·have j3:decide (0<t2)=false:=decide_eq_false (fun h=>ho (f4.o.1 h));have a7:=vv (e3.o (by simpa using ho));have g5:=vv (q7U (by simpa using ho));clear ho;go_wp2_with fail
   refine(i3.o _ _ a3.o g5.o (d2.o.fs (Fs.of_nil HB.o))).mono ?_;rintro e wn ⟨rfl,a0⟩;have HB:=vn HB a0;clear f0 f1 a9 a0;go_wp2;go_ret2
   rw[a7.o.1,e8.o,a7.o.2];exact⟨q3E (c6.o _ (g9.o g5.o a7.o.1)) rfl,c0.o.trans (HB.o.mono c0.o.size)⟩
abbrev q4w(A:Option Addr)(n c:Nat):Value:=.agg #[.slice A n c]
abbrev q1Z(neg:Bool)(A:Option Addr)(n c:Nat)(B:Option Addr)(m d:Nat):Value:=.agg #[.bool neg,.slice A n c,.slice B m d]
abbrev q57(neg:Bool)(A:Option Addr)(n c:Nat)(e:Int):Value:=.agg #[.bool neg,.slice A n c,.int .i64 e]
def q1q(n:Nat)(xs:List Nat):Bool:=decide (n<=16384) && (decide (n=0) || decide (nth xs (n-1)≠0))
theorem May(A:Option Addr)(n c:Nat)(xs:List Nat)(w:World)(hr:Rd w A n c xs):
  Calls Tryz.prog 100 #[q4w A n c] w fun e w'=>e=.returned (.bool (q1q n xs))/\Below w.heap.size w w':=by
 have a0:=hr.sm;rcases Nat.lt_or_ge 16384 n with h|h
 ·have HV:Hid (q1q n xs=false):=vv (by unfold q1q;rw[decide_eq_false (by omega)];rfl);clear hr;go_enter Tryz.func100,Tryz.ntmps100
  go_wp2;go_ret
  exact⟨q1K HV.o.symm,(Below.refl _ _).alloc lr _⟩
 ·rcases Nat.eq_zero_or_pos n with h0|h0
  ·subst h0;have HV:Hid (q1q 0 xs=true):=vv rfl;clear hr;go_enter Tryz.func100,Tryz.ntmps100
   go_wp2;go_ret
   exact⟨q1K HV.o.symm,(Below.refl _ _).alloc lr _⟩
  ·obtain⟨m,rfl⟩:∃m,n=m+1:=⟨n-1,by omega⟩;obtain⟨b,off,rfl,hb,hc⟩:=hr.cell (by omega);have hx:=hc m (by omega);clear hc;have HV:Hid (q1q (m+1) xs=!decide (nth xs m=0)):=vv (by unfold q1q;rw[decide_eq_true h,decide_eq_false (p:=m+1=0) (by omega)];simp);have hi:(m:Int)+1<=16384:=by omega
   have a1:((m:Int)+1==0)=false:=by rw[beq_eq_false_iff_ne];omega
   clear hr h h0 a0;by_cases hz:nth xs m=0
   ·have t1:(((nth xs m:Nat):Int)==0)=true:=by rw[hz];rfl
    have t2:(((nth xs m:Nat):Int) != 0)=false:=by rw[hz];rfl
    have HZ:=vv hz;clear hz;go_enter Tryz.func100,Tryz.ntmps100
    go_wp2;go_ret
    exact⟨q1K (by rw[HV.o,HZ.o];rfl),(Below.refl _ _).alloc lr _⟩
   ·have t1:(((nth xs m:Nat):Int)==0)=false:=by rw[beq_eq_false_iff_ne];omega
    have t2:(((nth xs m:Nat):Int) != 0)=true:=by rw[bne_iff_ne];omega
    have HZ:=vv hz;clear hz;go_enter Tryz.func100,Tryz.ntmps100
    go_wp2;go_ret
    exact⟨q1K (by rw[HV.o,decide_eq_false HZ.o];rfl),(Below.refl _ _).alloc lr _⟩
theorem q97(A:Option Addr)(n c:Nat)(xs:List Nat)(w:World)(hr:Rd w A n c xs):
  Calls Tryz.prog 67 #[q4w A n c] w (q0Z ((val xs:Nat):Int) w):=by
 have HR:=vv hr;clear hr;go_enter Tryz.func67,Tryz.ntmps67
 obtain⟨w0,a0⟩:=yx (w.alloc (.cells #[.slice A n c] 28));have a1:Below w.heap.size w w0:=by rw[a0];exact(Below.refl _ w).alloc lr _
 have a3:w0.cell? ⟨w.heap.size,0,none⟩=some (.slice A n c):=by rw[a0];simp only[World.cell?];rw[heap_alloc_new];rfl
 have a4:w.heap.size<w0.heap.size:=by rw[a0];simp
 have a5:=vv a0;obtain⟨z1,z2⟩:=q43 w0;have a2:w0.heap.size=w.heap.size+1:=by rw[a0];simp
 rw[a2] at z1;have a7:=(z2.cell (p:=⟨w.heap.size,0,none⟩) a4).trans a3;have HZ:=vv z1;have HB:=vv (a1.trans (z2.mono a1.size));have a8:=a1.size;clear a0 z1 z2 a1 a2;go_wp2_with fail
 rw[<- a5.o];refine(B.SetWords _ 0 0 A n c xs _ HZ.o (HR.o.below HB.o rfl)).mono ?_;rintro e w1 hP;have hP:=hP.f HZ.o;have a6:=vv (hP.below HB.o HB.o.size (by omega));obtain⟨rfl,hI,-⟩:=hP;have HI:=vv hI;clear hI;go_wp2;go_ret
 exact⟨_,rfl,by omega,HI.o,a6.o⟩
theorem q9A(n b:Int)(w:World)(h1:-4611686018427387904<=n)(h2:n<=4611686018427387904)(h3:0<=b)(h4:b<=4611686018427387904):
  Calls Tryz.prog 71 #[.int .i64 n,.int .i64 b] w fun e w'=>e=.returned (.int .i64 (q2u n (b+1500)))/\w=w':=by
 go_enter Tryz.func71,Tryz.ntmps71
 go_wp2;go_ret
 exact⟨q0i rfl,rfl⟩
end Go.Proofs.YtcdimmblnbkjjaaGreatDoor.R5
namespace Go.Proofs.YtcdimmblnbkjjaaGreatDoor.B
open Go Go.RowKit
theorem Exp0(g o gx ox gy oy:Nat)(v x:Int)(w:World)(h:IntAt w g o v)(hx:IntAt w gx ox x)(hy:IntAt w gy oy 0):
  Calls Tryz.prog 156 #[.pointer (some ⟨g,o,none⟩),.pointer (some ⟨gx,ox,none⟩),.pointer (some ⟨gy,oy,none⟩),.pointer none] w (q5Y g o 1 w):=by
 have HI:=vv h;have HX:=vv hx;have HY:=vv hy;have a9:=hy.lt;have HB:Hid (∀(w:World) t,Below w.heap.size w (w.alloc (.cells #[.bool false,.slice none 0 0] t))):=vv fun w t=>(Below.refl _ w).alloc lr _
 have HZ:=vv (IntAt.zero w 117);clear h hx hy;go_enter Tryz.func156,Tryz.ntmps156
 go_wp2_with fail
 refine(NewInt 1 _ (by omega) (by omega)).mono ?_;rintro e w1 ⟨g1,rfl,a6,a1,a2⟩;have b0:=vv a1;have a3:=vv ((HB.o w 117).trans (a2.mono (Below.size (HB.o w 117))));have b1:=vv (HZ.o.below a2);have b2:=a1.lt;have b3:w.heap.size<g1:=by simp at a6;omega
 have a4:=a3.o.size;clear a1 a2 a6;go_wp2_with fail
 have a5:=vv (a3.o.trans ((HB.o w1 117).mono a3.o.size));have a7:=vv (IntAt.zero w1 117);refine(Set _ 0 gx ox 0 _ _ a7.o (HX.o.below a5.o)).mono ?_;rintro e w2 hP;have hP:=hP.f a7.o;have a0:=vv (hP.below a5.o (a5.o.size) a4);have b4:=vv ((b0.o.below (HB.o w1 117)).fs1 hP.2.2 (by omega));have a8:=vv ((b1.o.below (HB.o w1 117)).fs1 hP.2.2 (by omega));obtain⟨rfl,-,-⟩:=hP;have b5:=vv (HY.o.below a0.o);go_wp2_with fail
 refine(Sign gy oy _ _ b5.o).mono ?_;rintro e w3 ⟨rfl,rfl⟩;rw[Int.sign_zero];obtain⟨A5,c5,b8⟩:=a8.o.nil;have b6:=a8.o.lt;go_wp2_with fail
 refine(Set g o g1 0 _ _ _ (HI.o.below a0.o) b4.o).mono ?_;rintro e w5 hP;have hF:=vv ((hP.f (HI.o.below a0.o)).after a0.o);obtain⟨rfl,b7,-⟩:=hP;go_wp2;go_ret
 exact⟨rfl,b7,hF.o⟩
theorem ExpN(g o gx ox gy oy:Nat)(v:Int)(x y:Nat)(w:World)(h:IntAt w g o v)(hx:IntAt w gx ox (x:Int))(hy:IntAt w gy oy (y:Int))(hx0:0<x)(hs:Sz (x^y))(hsy:Sz y):
  Calls Tryz.prog 156 #[.pointer (some ⟨g,o,none⟩),.pointer (some ⟨gx,ox,none⟩),.pointer (some ⟨gy,oy,none⟩),.pointer none] w (q5Y g o ((x^y:Nat):Int) w):=by
 rcases Nat.eq_zero_or_pos y with rfl|a0
 ·exact Exp0 g o gx ox gy oy v x w h hx hy
 ·exact Exp g o gx ox gy oy v x y w h hx hy hx0 a0 hs hsy
end Go.Proofs.YtcdimmblnbkjjaaGreatDoor.B
namespace Go.Proofs.YtcdimmblnbkjjaaGreatDoor.R5
open Go Go.RowKit
theorem q1J{w:World}{A:Option Addr}{n c N:Nat}(h:Rd w A n c (toL N))(hn:n<=16384):q1q n (toL N)=true:=by
 unfold q1q;rw[decide_eq_true hn,Bool.true_and];rcases Nat.eq_zero_or_pos n with h0|h0
 ·rw[h0];rfl
 ·have hN:0<N:=by
   rcases Nat.eq_zero_or_pos N with e|e
   ·have:=h.words;rw[e,q0P] at this;omega
   ·exact e
  obtain⟨-,e⟩:=bl_words hN;rw[h.words] at e;rw[decide_eq_false (p:=n=0) (by omega),Bool.false_or,decide_eq_true (by omega)]
structure RatioBox(w:World)(g:Nat)(neg:Bool)(A:Option Addr)(n c:Nat)(B:Option Addr)(m d:Nat):Prop where
 c0:w.cell? ⟨g,0,none⟩=some (.bool neg)
 c1:w.cell? ⟨g,1,none⟩=some (.slice A n c)
 c2:w.cell? ⟨g,2,none⟩=some (.slice B m d)
 lt:g<w.heap.size
theorem RatioBox.made(w:World)(neg:Bool)(A:Option Addr)(n c:Nat)(B:Option Addr)(m d:Nat)(t:TypeId):RatioBox (w.alloc (.cells #[.bool neg,.slice A n c,.slice B m d] t)) w.heap.size neg A n c B m d:=
 ⟨by simp only[World.cell?];rw[heap_alloc_new];rfl,by simp only[World.cell?];rw[heap_alloc_new];rfl,by simp only[World.cell?];rw[heap_alloc_new];rfl,by simp⟩
theorem RatioBox.below{w w':World}{g:Nat}{neg:Bool}{A:Option Addr}{n c:Nat}{B:Option Addr}{m d:Nat}(h:RatioBox w g neg A n c B m d)(hb:Below w.heap.size w w'):RatioBox w' g neg A n c B m d:=
 ⟨(hb.cell (p:=⟨g,0,none⟩) h.lt).trans h.c0,(hb.cell (p:=⟨g,1,none⟩) h.lt).trans h.c1,(hb.cell (p:=⟨g,2,none⟩) h.lt).trans h.c2,Nat.lt_of_lt_of_le h.lt hb.size⟩
theorem q9a(neg:Bool)(A:Option Addr)(n c:Nat)(B':Option Addr)(m d N:Nat)(w:World)(ha:Rd w A n c (toL N))(hb:Rd w B' m d (toL 1))(hn:n<=16384)(h0:N=0->neg=false)(hst:Std w):
  Calls Tryz.prog 105 #[q1Z neg A n c B' m d] w fun e w'=>e=.returned (.int .i64 0)/\Below w.heap.size w w':=by
 have hm:m=1:=hb.words.symm;subst hm;obtain⟨w0,b1⟩:=yx (w.alloc (.cells #[.bool neg,.slice A n c,.slice B' 1 d] 93));have c6:Below w.heap.size w w0:=by rw[b1];exact(Below.refl _ w).alloc lr _
 have a4:RatioBox w0 w.heap.size neg A n c B' 1 d:=by rw[b1];exact RatioBox.made w _ _ _ _ _ _ _ _
 have HX:=vv a4;have HB:=vv c6;have d4:=vv b1;have HA:=vv ha;have e3:=vv hb;have d5:=vv hst;have c7:=q1J ha hn;have a5:q1q 1 (toL 1)=true:=q1J hb (by omega);have HM:=vv fun w' (h:Below w.heap.size w w')=>May A n c (toL N) w' (ha.below h rfl)
 have c8:=vv fun w' (h:Below w.heap.size w w')=>May B' 1 d (toL 1) w' (hb.below h rfl)
 rw[c7] at HM;rw[a5] at c8;have HI:=vv fun w' (h:Below w.heap.size w w')=>q97 A n c (toL N) w' (ha.below h rfl)
 have c9:=vv fun w' (h:Below w.heap.size w w')=>q97 B' 1 d (toL 1) w' (hb.below h rfl)
 rw[q01] at HI c9;have d6:Hid (Sz N):=vv (by
  have h1:=q0d N;rw[ha.words,q21] at h1;have:=q15 h1;unfold Sz;omega)
 have f0:=a4.c0;have f1:=a4.c1;have f2:=a4.c2;have b2:=a4.lt;clear ha hb hn hst c7 a5 b1 c6 a4;go_enter Tryz.func105,Tryz.ntmps105
 go_wp2_with fail
 rw[<- d4.o];refine(HM.o _ HB.o).mono ?_;rintro e w1 ⟨rfl,b5⟩;have HX:=vv (HX.o.below b5);have HB:=vn HB b5;obtain⟨f0,f1,f2,b2⟩:=HX.o;clear b5;go_wp2_with fail
 refine(c8.o _ HB.o).mono ?_;rintro e w2 ⟨rfl,b6⟩;have HX:=vv (HX.o.below b6);have HB:=vn HB b6;obtain⟨f0,f1,f2,b2⟩:=HX.o;clear b6;go_wp2_with fail
 refine(HI.o _ HB.o).mono ?_;rintro e w3 ⟨g1,rfl,e4,d0,b7⟩;have HX:=vv (HX.o.below b7);have HB:=vn HB b7;have HN:=vv d0;obtain⟨f0,f1,f2,b2⟩:=HX.o;clear b7 d0;go_wp2_with fail
 refine(c9.o _ HB.o).mono ?_;rintro e w4 ⟨g2,rfl,e5,d1,b3⟩;have HX:=vv (HX.o.below b3);have HN:=vv (HN.o.below b3);have HD:=vv d1;have HB:=vn HB b3;have f0:=HX.o.c0;have b2:=HX.o.lt;clear b3 d1 f1 f2;go_wp2_with fail
 refine(B.Sign g1 0 _ _ HN.o).mono ?_;rintro e w' ⟨rfl,rfl⟩;have fin:∀w5,Below w4.heap.size w4 w5->∃w6 gz,w6=w5.alloc q90/\gz=w5.heap.size/\Below w.heap.size w w6/\Calls Tryz.prog 153 #[.pointer (some ⟨gz,0,none⟩),.pointer none,.pointer none,.pointer (some ⟨g1,0,none⟩),.pointer (some ⟨g2,0,none⟩)] w6 fun e w'=>e=.returned (.pointer (some ⟨gz,0,none⟩))/\IntAt w' gz 0 1/\Below w.heap.size w w':=by
  intro w5 b8;have b9:=HB.o.trans (b8.mono HB.o.size);obtain⟨z1,z2⟩:=q43 w5;have b4:=b9.trans (z2.mono b9.size);refine⟨_,_,rfl,rfl,b4,?_⟩;refine(B.GCD _ 0 g1 0 g2 0 0 _ _ _ _ _ z1 ((HN.o.below b8).below z2) ((HD.o.below b8).below z2) d6.o (by unfold Sz;decide) (d5.o.fs (Fs.of_nil b4))).mono ?_;rintro e w' hP;have hP:=hP.f z1;refine⟨hP.1,?_,hP.below b4 b4.size b9.size⟩;have:=hP.2.1
  rwa [show((1:Nat):Int).natAbs=1 from rfl,Nat.gcd_one_right] at this
 have Fin:=vv fin;have HC:Hid (q3s 1 1=0):=vv rfl;clear fin;rcases Nat.eq_zero_or_pos N with hN|hN
 ·have hs:((N:Nat):Int).sign=0:=by rw[hN];rfl
  rw[hs];rw[h0 hN] at f0;clear hs hN h0;go_wp2_with fail
  refine(B.NewInt 1 _ (by omega) (by omega)).mono ?_;rintro e w5 ⟨g5,rfl,e6,d2,c0⟩;have d7:=vv d2;have d8:=vv (HD.o.below c0);have d9:=vv c0;clear d2 c0;go_wp2_with fail
  refine(B.Cmp g2 0 g5 0 _ _ _ d8.o d7.o).mono ?_;rintro e w6 ⟨rfl,d3⟩;rw[show q3s ((1:Nat):Int) 1=0 from rfl];have e0:=vn d9 d3;clear d3;obtain⟨w7,gz,a6,a7,e1,hG⟩:=Fin.o _ e0.o;have c1:=vv a6;have c2:=vv a7;have HG:=vv hG;clear a6 a7 hG;go_wp2_with fail
  rw[<- c1.o,<- c2.o];refine HG.o.mono ?_;rintro e w8 ⟨rfl,a8,a9⟩;have a1:=vv a8;have c3:=vv a9;clear a8 a9;go_wp2_with fail
  refine(B.NewInt 1 _ (by omega) (by omega)).mono ?_;rintro e w9 ⟨g9,rfl,e2,b0,a2⟩;have c4:=vv b0;have a1:=vv (a1.o.below a2);have c5:=vn c3 a2;clear b0 a2;go_wp2_with fail
  refine(B.Cmp gz 0 g9 0 _ _ _ a1.o c4.o).mono ?_;rintro e w10 ⟨rfl,a0⟩;rw[HC.o];have a3:=vn c5 a0;clear a0;go_wp2;go_ret
  exact⟨rfl,a3.o⟩
 ·have hs:((N:Nat):Int).sign=1:=Int.sign_eq_one_of_pos (by omega);rw[hs];clear hs hN h0;obtain⟨w7,gz,a6,a7,e1,hG⟩:=Fin.o _ (Below.refl _ _);have c1:=vv a6;have c2:=vv a7;have HG:=vv hG;clear a6 a7 hG;go_wp2_with fail
  rw[<- c1.o,<- c2.o];refine HG.o.mono ?_;rintro e w8 ⟨rfl,a8,a9⟩;have a1:=vv a8;have c3:=vv a9;clear a8 a9;go_wp2_with fail
  refine(B.NewInt 1 _ (by omega) (by omega)).mono ?_;rintro e w9 ⟨g9,rfl,e2,b0,a2⟩;have c4:=vv b0;have a1:=vv (a1.o.below a2);have c5:=vn c3 a2;clear b0 a2;go_wp2_with fail
  refine(B.Cmp gz 0 g9 0 _ _ _ a1.o c4.o).mono ?_;rintro e w10 ⟨rfl,a0⟩;rw[HC.o];have a3:=vn c5 a0;clear a0;go_wp2;go_ret
  exact⟨rfl,a3.o⟩
theorem q9K(neg:Bool)(A:Option Addr)(n c:Nat)(B':Option Addr)(m d N:Nat)(w:World)(ha:Rd w A n c (toL N))(hb:Rd w B' m d (toL 1))(hN:Sz N)(hst:Std w):
  Calls Tryz.prog 107 #[q1Z neg A n c B' m d] w (q1h (sg neg N) 1 w):=by
 obtain⟨w0,a8⟩:=yx (w.alloc (.cells #[.bool neg,.slice A n c,.slice B' m d] 93));have c0:Below w.heap.size w w0:=by rw[a8];exact(Below.refl _ w).alloc lr _
 have a3:RatioBox w0 w.heap.size neg A n c B' m d:=by rw[a8];exact RatioBox.made w _ _ _ _ _ _ _ _
 have HX:=vv a3;have HB:=vv c0;have c3:=vv a8;have c4:=vv hst;have c5:=vv hN;have HI:=vv fun w' (h:Below w.heap.size w w')=>q97 A n c (toL N) w' (ha.below h rfl)
 have a9:=vv fun w' (h:Below w.heap.size w w')=>q97 B' m d (toL 1) w' (hb.below h rfl)
 rw[q01] at HI a9;have f0:=a3.c0;have f1:=a3.c1;have b0:=a3.lt;clear ha hb hst a8 c0 a3 hN;go_enter Tryz.func107,Tryz.ntmps107
 go_wp2_with fail
 rw[<- c3.o];refine(HI.o _ HB.o).mono ?_;rintro e w1 ⟨g1,rfl,d2,c1,b1⟩;have HX:=vv (HX.o.below b1);have HB:=vn HB b1;have HN:=vv c1;have d3:=HB.o.size;have c6:w.heap.size<g1:=by omega
 clear b1 c1 f0 f1 b0;have f0:=HX.o.c0;have b0:=HX.o.lt;have fin:∀wc,Below w.heap.size w wc->RatioBox wc w.heap.size neg A n c B' m d->IntAt wc g1 0 (sg neg N) ->
   ∃w2 gz,w2=wc.alloc q1H/\gz=wc.heap.size/\RatAt w2 gz 0 1/\IntAt w2 g1 0 (sg neg N)/\RatioBox w2 w.heap.size neg A n c B' m d/\Below w.heap.size w w2/\w.heap.size<=gz:=by
  intro wc hb hx hi;obtain⟨z1,z2⟩:=q0y wc;exact⟨_,_,rfl,rfl,z1,hi.below z2,hx.below z2,hb.trans (z2.mono hb.size),hb.size⟩
 have Fin:=vv fin;have fin2:∀w2 gz,RatAt w2 gz 0 1->IntAt w2 g1 0 (sg neg N)->Below w.heap.size w w2->w.heap.size<=gz->∀w3 g3,Below w2.heap.size w2 w3->IntAt w3 g3 0 ((1:Nat):Int) ->
   Calls Tryz.prog 159 #[.pointer (some ⟨gz,0,none⟩),.pointer (some ⟨g1,0,none⟩),.pointer (some ⟨g3,0,none⟩)] w3 fun e w'=>e=.returned (.pointer (some ⟨gz,0,none⟩))/\RatAt w' gz (sg neg N) 1/\Below w.heap.size w w':=by
  intro w2 gz hz hi hb hg w3 g3 b2 c7;have b3:=hb.trans (b2.mono hb.size);refine(B.SetFrac gz g1 g3 (sg neg N) 1 w3 (hz.below b2).sh (hi.below b2) c7 (by omega) (c4.o.fs (Fs.of_nil b3)) (by rw[q0R];exact c5.o) (by unfold Sz;decide)).mono ?_;rintro e w' hP;exact⟨hP.1,hP.2.1,hP.below b3 b3.size hg⟩
 have Fin2:=vv fin2;clear fin fin2;cases neg
 ·obtain⟨w2,gz,a0,a4,hz,hi,hx,hb,hg⟩:=Fin.o w1 HB.o HX.o HN.o;have f2:=hx.c2;have a1:=hx.lt;rw[a0] at f2 a1;have b4:=vv a0;have b5:=vv a4;have HZ:=vv hz;have b6:=vv hi;have c8:=vv hx;have a2:=vv hb;clear a0 a4 hz hi hx hb;go_wp2_with fail
  rw[<- b4.o,<- b5.o];refine(a9.o _ a2.o).mono ?_;rintro e w3 ⟨g3,rfl,c9,a5,a6⟩;have b7:=vv a5;have b8:=vv a6;clear a5 a6;go_wp2_with fail
  refine(Fin2.o w2 gz HZ.o b6.o a2.o hg w3 g3 b8.o b7.o).mono ?_;rintro e w4 ⟨rfl,hR,a7⟩;have HR:=vv hR;have b9:=vv a7;clear hR a7;go_wp2;go_ret
  exact⟨_,rfl,hg,HR.o,b9.o⟩
 ·go_wp2_with fail
  refine(B.Neg g1 0 g1 0 _ _ _ HN.o HN.o).mono ?_;rintro e w2 hP;have hP:=hP.f HN.o;have c2:RatioBox w2 w.heap.size true A n c B' m d:=⟨(hP.2.2.cell w.heap.size 0 HX.o.lt fun q hq e=>by rw[List.mem_singleton.1 hq] at e;simp only at e;omega).trans HX.o.c0,(hP.2.2.cell w.heap.size 1 HX.o.lt fun q hq e=>by rw[List.mem_singleton.1 hq] at e;simp only at e;omega).trans HX.o.c1,(hP.2.2.cell w.heap.size 2 HX.o.lt fun q hq e=>by rw[List.mem_singleton.1 hq] at e;simp only at e;omega).trans HX.o.c2,Nat.lt_of_lt_of_le HX.o.lt hP.2.2.size⟩;have d0:=vv c2;have d1:Hid (IntAt w2 g1 0 (sg true N)):=vv hP.2.1;have a2:=vv (hP.below HB.o HB.o.size (by omega));obtain⟨rfl,-,-⟩:=hP;clear c2 f0 b0;obtain⟨w2',gz,a0,a4,hz,hi,hx,hb,hg⟩:=Fin.o w2 a2.o d0.o d1.o;have f2:=hx.c2;have a1:=hx.lt;rw[a0] at f2 a1;have b4:=vv a0;have b5:=vv a4;have HZ:=vv hz;have b6:=vv hi;have c8:=vv hx;have a2:=vv hb;clear a0 a4 hz hi hx hb;go_wp2_with fail
  rw[<- b4.o,<- b5.o];refine(a9.o _ a2.o).mono ?_;rintro e w3 ⟨g3,rfl,c9,a5,a6⟩;have b7:=vv a5;have b8:=vv a6;clear a5 a6;go_wp2_with fail
  refine(Fin2.o _ gz HZ.o b6.o a2.o hg w3 g3 b8.o b7.o).mono ?_;rintro e w4 ⟨rfl,hR,a7⟩;have HR:=vv hR;have b9:=vv a7;clear hR a7;go_wp2;go_ret
  exact⟨_,rfl,hg,HR.o,b9.o⟩
theorem q4q(k:Nat):bl (10^k)<=4*k+1:=q15 (by
 have h1:(10:Nat)^k<=16^k:=Nat.pow_le_pow_left (by omega) k;have h2:(16:Nat)^k=2^(4*k):=by rw[Nat.pow_mul]
 rw[Nat.pow_succ];have:=Nat.two_pow_pos (4*k);omega)
theorem q9J(gx:Nat)(p n K:Int)(w:World)(hx:RatAt w gx p 1)(hp:bl p.natAbs<=16777216)(hn1:-4611686018427387904<=n)(hn2:n<=4611686018427387904)(hK:K=q2u n (bl p.natAbs+1+1500))(hst:Std w):
  Calls Tryz.prog 106 #[.pointer (some ⟨gx,0,none⟩),.int .i64 n] w (q1h (p*(t10 K:Nat)) (t10 (-K)) w):=by
 have a8:-16778717<=K/\K<=16778717:=by rw[hK];unfold q2u;omega
 have e1:=q7T p;have e2:=q8X p;have HN:=vv fun w' (hw:Below w.heap.size w w')=>B.Num gx _ _ w' (hx.below hw)
 have HD:=vv fun w' (hw:Below w.heap.size w w')=>B.Denom gx _ _ w' (hx.below hw)
 rw[e1] at HN;rw[e2] at HD;have HX:=vv hx;have b5:=vv hst;have b6:=vv fun w=>q9A n ((bl p.natAbs:Int)+1) w hn1 hn2 (by omega) (by omega)
 rw[<- hK] at b6;obtain⟨k,hk⟩:∃k:Nat,k=K.natAbs:=⟨_,rfl⟩;have d5:max K (-K)=(k:Int):=by omega
 have d6:k<=16778717:=by omega
 have d7:=q4q k;have a0:Hid (Sz (10^k)/\Sz k/\Sz p.natAbs/\Sz 1):=vv ⟨by unfold Sz;omega,Sz.small (by omega),by unfold Sz;omega,by unfold Sz;decide⟩;have f6:(k:Int)<=16778717:=by omega
 have f7:=vv hk;have f8:=a8.1;have f9:=a8.2;have g0:(bl p.natAbs:Int)<=16777216:=by omega
 have a9:Hid (0<=K->K=k):=vv (by omega);have b0:Hid (K<0->K = -(k:Int)):=vv (by omega);clear hx hst hK a8 e1 e2 hk hp d7 d6 hn1 hn2;go_enter Tryz.func106,Tryz.ntmps106
 go_wp2_with fail
 refine(HN.o _ (Below.refl _ _)).mono ?_;rintro e w1 ⟨g1,rfl,g3,b7,b8⟩;have d8:=vv b7;have b9:=vv b8;clear b7 b8;go_wp2_with fail
 refine(B.BitLen g1 0 _ _ d8.o).mono ?_;rintro e w' ⟨rfl,rfl⟩;go_wp2_with fail
 refine(HD.o _ b9.o).mono ?_;rintro e w2 ⟨g2,rfl,g6,c0,c1⟩;have d9:=vv c0;have c2:=vn b9 c1;clear c0 c1;go_wp2_with fail
 refine(B.BitLen g2 0 _ _ d9.o).mono ?_;rintro e w' ⟨rfl,rfl⟩;rw[show bl ((1:Nat):Int).natAbs=1 from rfl];go_wp2_with fail
 refine(b6.o _).mono ?_;rintro e w' ⟨rfl,rfl⟩;have e0:=c2.o.size;obtain⟨z1,z2⟩:=q0y w2;obtain⟨y1,y2⟩:=q43 (w2.alloc q1H);have c3:(w2.alloc q1H).heap.size=w2.heap.size+1:=by simp
 rw[c3] at y1;obtain⟨w3,a5⟩:=yx ((w2.alloc q1H).alloc q90);have c4:Below w2.heap.size w2 w3:=by rw[a5];exact z2.trans (y2.mono z2.size)
 have e3:Hid (RatAt w3 w2.heap.size 0 1):=vv (by rw[a5];exact z1.below y2);have e4:Hid (IntAt w3 (w2.heap.size+1) 0 0):=vv (by rw[a5];exact y1);have e5:=vn c2 c4;have e6:=vv a5;clear z1 z2 y1 y2 c3 a5 c4;go_wp2_with fail
 rw[<- e6.o];refine(B.NewInt 10 _ (by omega) (by omega)).mono ?_;rintro e w4 ⟨g4,rfl,g7,c5,a7⟩;have b1:=vv c5;have e7:=vv (e3.o.below a7);have e8:=vv (e4.o.below a7);have e9:=vn e5 a7;clear c5 a7;go_wp2_with fail
 refine(B.NewInt (k:Int) _ (by omega) (by omega)).mono ?_;rintro e w5 ⟨g5,rfl,g8,c6,a6⟩;have f0:=vv c6;have b1:=vv (b1.o.below a6);have f1:=vv (e7.o.below a6);have f2:=vv (e8.o.below a6);have c7:=vn e9 a6;clear c6 a6;go_wp2_with fail
 refine(B.ExpN (w2.heap.size+1) 0 g4 0 g5 0 0 10 k _ f2.o b1.o f0.o (by omega) a0.o.1 a0.o.2.1).mono ?_;rintro e w6 hP;have f3:=vv (f1.o.fs1 hP.2.2 (by omega));have f4:=vv hP.2.1;have c8:=vv (hP.below c7.o c7.o.size (by omega));obtain⟨rfl,-,-⟩:=hP;go_wp2_with fail
 refine(B.SetInt w2.heap.size (w2.heap.size+1) _ _ f3.o.sh f4.o).mono ?_;rintro e w7 hP;have c9:=vv (hP.below c8.o c8.o.size e0);obtain⟨rfl,d0,-⟩:=hP;have f5:=vv d0;have d1:=c9.o.size;clear d0;obtain⟨z1,z2⟩:=q0y w7;obtain⟨w8,b2⟩:=yx (w7.alloc q1H);rw[<- b2] at z1 z2;have d2:=vv z1;have d3:=vv (f5.o.below z2);have a3:=vn c9 z2;have d4:=vv b2;clear z1 z2 b2;by_cases hk0:K<0
 ·have hd:decide (K<0)=true:=decide_eq_true hk0;have HE:=vv (b0.o hk0);clear hk0;go_wp2_with fail
  rw[<- d4.o];refine(B.QuoR w7.heap.size gx w2.heap.size p (10^k) 1 1 _ d2.o.sh (HX.o.below a3.o) d3.o (Nat.pow_pos (by omega)) (b5.o.fs (Fs.of_nil a3.o)) a0.o.2.2.1 a0.o.2.2.2 a0.o.1 a0.o.2.2.2).mono ?_;rintro e w9 hP;have b3:=vv (hP.below a3.o a3.o.size d1);obtain⟨rfl,a4,-⟩:=hP;have b4:Hid (RatAt w9 w7.heap.size (p*(t10 K:Nat)) (t10 (-K))):=vv (by
   have a1:t10 K=1:=by unfold t10;rw[show K.toNat=0 by have:=HE.o;omega]
   have a2:t10 (-K)=10^k:=by unfold t10;congr 1;have:=HE.o;omega
   rw[a1,a2];rw[Nat.one_mul] at a4;exact a4)
  clear a4;go_wp2;go_ret
  exact⟨_,rfl,by omega,b4.o,b3.o⟩
 ·have hd:decide (K<0)=false:=decide_eq_false hk0;have HE:=vv (a9.o (by omega));clear hk0;go_wp2_with fail
  rw[<- d4.o];refine(B.MulR w7.heap.size gx w2.heap.size p ((10^k:Nat):Int) 1 1 _ d2.o.sh (HX.o.below a3.o) d3.o (b5.o.fs (Fs.of_nil a3.o)) a0.o.2.2.1 a0.o.2.2.2 (by exact a0.o.1) a0.o.2.2.2).mono ?_;rintro e w9 hP;have b3:=vv (hP.below a3.o a3.o.size d1);obtain⟨rfl,a4,-⟩:=hP;have b4:Hid (RatAt w9 w7.heap.size (p*(t10 K:Nat)) (t10 (-K))):=vv (by
   have a1:t10 (-K)=1:=by unfold t10;rw[show(-K).toNat=0 by have:=HE.o;omega]
   have a2:t10 K=10^k:=by unfold t10;congr 1;have:=HE.o;omega
   rw[a1,a2];exact a4)
  clear a4;go_wp2;go_ret
  exact⟨_,rfl,by omega,b4.o,b3.o⟩
def q1i(o:Nat × Nat)(w:World)(e:Ending)(w':World):Prop:=e=.returned (.tuple #[.int .u64 (o.1:Int),.int .u8 (o.2:Int),.int .i64 0])/\Below w.heap.size w w'
def q0f(E F:Nat)(below neg:Bool)(mode a b:Nat):Nat × Nat:=
 if a=0 then(sgb E F neg,0) else(sgb E F below+(out E F below mode a b).1,(out E F below mode a b).2)
theorem q9x(gx E F a b:Nat)(below neg:Bool)(mode:Nat)(w:World)(h1:2<=E)(h2:E<=11)(h3:1<=F)(h4:F<=52)(hx:RatAt w gx (sg below a) b)(sX:bl a<=1073741824)(sb:bl b<=1073741824)(hst:Std w)(hm:mode<=4):
  Calls Tryz.prog 74 #[fm E F,.pointer (some ⟨gx,0,none⟩),.bool neg,.int .u8 (mode:Int)] w (q4Q 0 (q0f E F below neg mode a b) w):=by
 rcases Nat.eq_zero_or_pos a with h0|h0
 ·subst h0;have e0:sg below 0=0:=by cases below<;>rfl
  rw[e0] at hx;refine(q7G gx b E F neg mode w h1 h2 h3 h4 hx).mono ?_;rintro e w' ⟨rfl,hB⟩;exact⟨by simp [q0f],hB⟩
 ·have e1:q0f E F below neg mode a b=(sgb E F below+(out E F below mode a b).1,(out E F below mode a b).2):=if_neg (by omega);rw[e1];cases below
  ·refine(q8s gx b E F a neg mode w h1 h2 h3 h4 hx h0 sX sb hst hm).mono ?_;rintro e w' ⟨rfl,hB⟩;exact⟨by simp,hB⟩
  ·refine(q8t gx b E F a neg mode w h1 h2 h3 h4 hx h0 sX sb hst hm).mono ?_;rintro e w' ⟨rfl,hB⟩;exact⟨by simp,hB⟩
theorem q3b{E F N:Nat}{below neg:Bool}{mode:Nat}(c n:Int)(h1:2<=E)(h2:E<=11)(h3:1<=F)(h4:F<=52)(hc:1200<=c):
  q0f E F below neg mode (N*t10 (q2u n (bl N+1+c))) (t10 (-q2u n (bl N+1+c)))=q0f E F below neg mode (N*t10 n) (t10 (-n)):=by
 rcases Nat.eq_zero_or_pos N with h0|h0
 ·subst h0;simp [q0f]
 ·have k:=q6A (E:=E) (F:=F) (neg:=below) (mode:=mode) (a:=N) (b:=1) c n h1 h2 h3 h4 h0 (by omega) hc;rw[Nat.one_mul,Nat.one_mul,show bl 1=1 from rfl] at k;have p1:=Nat.mul_pos h0 (q39 (q2u n (bl N+1+c)));have p2:=Nat.mul_pos h0 (q39 n);unfold q0f;rw[if_neg (by omega),if_neg (by omega)];have k':out E F below mode (N*t10 (q2u n (bl N+1+c))) (t10 (-q2u n (bl N+1+c)))=out E F below mode (N*t10 n) (t10 (-n)):=k;rw[k']
theorem q2L{E F N:Nat}{below neg:Bool}{mode:Nat}(c n:Int)(h1:2<=E)(h2:E<=11)(h3:1<=F)(h4:F<=52)(hc:1200<=c):
  q0f E F below neg mode (N*p2 (q2u n (bl N+c))) (p2 (-q2u n (bl N+c)))=q0f E F below neg mode (N*p2 n) (p2 (-n)):=by
 rcases Nat.eq_zero_or_pos N with h0|h0
 ·subst h0;simp [q0f]
 ·have k:=q6z (E:=E) (F:=F) (neg:=below) (mode:=mode) (a:=N) c n h1 h2 h3 h4 h0 hc;have q1:=Nat.mul_pos h0 (q0o (q2u n (bl N+c)));have q2:=Nat.mul_pos h0 (q0o n);unfold q0f;rw[if_neg (by omega),if_neg (by omega),k]
theorem q6Y(E F:Nat)(below neg:Bool)(mode:Nat)(A:Option Addr)(n c:Nat)(B':Option Addr)(m d N:Nat)(x:Int)(w:World)(h1:2<=E)(h2:E<=11)(h3:1<=F)(h4:F<=52)(hm:mode<=4)
  (ha:Rd w A n c (toL N)) (hb:Rd w B' m d (toL 1)) (hn:n<=16384) (h0:N=0->below=false) (hx1:-4611686018427387904<=x) (hx2:x<=4611686018427387904) (hst:Std w) :
  Calls Tryz.prog 65 #[fm E F,q1Z below A n c B' m d,.int .i64 x,.bool neg,.int .u8 (mode:Int)] w (q1i (q0f E F below neg mode (N*t10 x) (t10 (-x))) w):=by
 have b7:bl N<=524288:=by
  have k1:=q0d N;rw[ha.words,q21] at k1;have:=q15 k1;omega
 obtain⟨w0,a3⟩:=yx (w.alloc (.cells #[.int .i64 (E:Int),.int .i64 (F:Int)] 23));obtain⟨w1,a5⟩:=yx (w0.alloc (.cells #[.bool below,.slice A n c,.slice B' m d] 93));have b0:Below w.heap.size w w0:=by rw[a3];exact(Below.refl _ w).alloc lr _
 have b1:Below w0.heap.size w0 w1:=by rw[a5];exact(Below.refl _ w0).alloc lr _
 have b3:w0.heap.size=w.heap.size+1:=by rw[a3];simp
 have a4:FmAt w1 w.heap.size E F:=(show FmAt w0 w.heap.size E F by rw[a3];exact FmAt.made w _ _ _).below b1;have a2:RatioBox w1 (w.heap.size+1) below A n c B' m d:=by rw[<- b3,a5];exact RatioBox.made w0 _ _ _ _ _ _ _ _
 have hB:Below w.heap.size w w1:=b0.trans (b1.mono b0.size);have HF:=vv a4;have HX:=vv a2;have HB:=vv hB;have b8:Hid (w1=(w.alloc (.cells #[.int .i64 (E:Int),.int .i64 (F:Int)] 23)).alloc (.cells #[.bool below,.slice A n c,.slice B' m d] 93)):=vv (by rw[a5,a3]);have b4:=vv hst;have b9:=vv fun w=>q9B E F w h1 h2 h3 h4
 have c0:=vv fun w' (h:Below w.heap.size w w')=>q9a below A n c B' m d N w' (ha.below h rfl) (hb.below h rfl) hn h0 (hst.fs (Fs.of_nil h))
 have c1:=vv fun w' (h:Below w.heap.size w w')=>q9K below A n c B' m d N w' (ha.below h rfl) (hb.below h rfl) (by unfold Sz;omega) (hst.fs (Fs.of_nil h))
 obtain⟨K,hK⟩:=yx (q2u x (bl N+1+1500));have c2:=vv fun g w' (hg:RatAt w' g (sg below N) 1) (hs:Std w')=>q9J g (sg below N) x K w' hg (by rw[q0R];omega) hx1 hx2 (by rw[q0R];exact hK) hs
 have c3:-16778717<=K/\K<=16778717:=by rw[hK];unfold q2u;omega
 have c4:=q4q K.toNat;have c5:=q4q (-K).toNat;have b5:=q0z N (t10 K);have c6:Hid (sg below N*((t10 K:Nat):Int)=sg below (N*t10 K)):=vv (by
  cases below
  ·show(N:Int)*_=((N*t10 K:Nat):Int);rw[Int.natCast_mul]
  ·show -(N:Int)*_ = -((N*t10 K:Nat):Int);rw[Int.natCast_mul,Int.neg_mul])
 have c7:=vv fun g w' (hg:RatAt w' g (sg below (N*t10 K)) (t10 (-K))) (hs:Std w')=>q9x g E F (N*t10 K) (t10 (-K)) below neg mode w' h1 h2 h3 h4 hg (by unfold t10 at b5 ⊢;omega) (by unfold t10;omega) hs hm
 have HN:=vv (q3b (E:=E) (F:=F) (N:=N) (below:=below) (neg:=neg) (mode:=mode) 1500 x h1 h2 h3 h4 (by omega));rw[<- hK] at HN;have d1:(mode:Int)<=4:=by omega
 have f0:=a4.c0;have f1:=a4.c1;have r0:=a2.c0;have r1:=a2.c1;have r2:=a2.c2;have l0:=a4.lt;have l1:=a2.lt;clear ha hb hn h0 hx1 hx2 hst b7 a3 a5 b0 b1 b3 a4 a2 hB hK c3 c4 c5 b5 h1 h2 hm;go_enter Tryz.func65,Tryz.ntmps65
 go_wp2_with fail
 rw[<- b8.o];refine(b9.o _).mono ?_;rintro e w2 ⟨rfl,a6⟩;have HF:=vv (HF.o.below a6);have HX:=vv (HX.o.below a6);have HB:=vn HB a6;obtain⟨r0,r1,r2,l1⟩:=HX.o;clear a6 f0 f1 l0;go_wp2_with fail
 refine(c0.o _ HB.o).mono ?_;rintro e w3 ⟨rfl,a7⟩;have HF:=vv (HF.o.below a7);have HX:=vv (HX.o.below a7);have HB:=vn HB a7;clear a7 r0 r1 r2 l1;go_wp2_with fail
 refine q02 (fun w'=>w'.cell? ⟨w.heap.size,0,none⟩=some (.int .i64 (E:Int))/\w'.cell? ⟨w.heap.size,1,none⟩=some (.int .i64 (F:Int))/\w'.cell? ⟨w.heap.size+1,0,none⟩=some (.bool below)/\w'.cell? ⟨w.heap.size+1,1,none⟩=some (.slice A n c)/\w'.cell? ⟨w.heap.size+1,2,none⟩=some (.slice B' m d)) 13
  (.still 0 (.still 1 (.still 3 (.still 5 (.still 6 (.one 2 (.one 4 (.one 7 (.still 8 (.still 9 (.still 10 (.still 11 (.still 12 .done))))))))))))) (by kernel_rfl) (by kernel_rfl) (fun _ _ d _ _ h=>by cases d<;>exact h) ⟨HF.o.c0,HF.o.c1,HX.o.c0,HX.o.c1,HX.o.c2⟩ (fun hS0=>?_)
 iterate 5
  refine q00 (v:=?_) rfl (by rfl) ?_ ?_;rotate_left
  ·intro w c8;go_simp;with_reducible rfl
  simp only[Act.put,sa,sb,sc]
 refine q03 rfl (by rfl) (fun K hK=>?_);go_simp;refine(c1.o _ (q04 HB.o)).mono ?_;rintro e w4 ⟨g4,rfl,d2,b6,a0⟩;have a0:Below w3.heap.size w3 w4:=⟨a0.os,a0.tape,a0.output,a0.size,a0.block⟩;have c9:=vv b6;have HF:=vv (HF.o.below a0);have HX:=vv (HX.o.below a0);have HB:=vn HB a0;clear b6 a0;go_wp2_with fail
 refine hK.out _ _ ⟨HF.o.c0,HF.o.c1,HX.o.c0,HX.o.c1,HX.o.c2⟩ (fun a1=>?_);clear hK;refine q03 rfl (by rfl) (fun K hK=>?_);go_simp;refine(c2.o g4 _ c9.o (b4.o.fs (Fs.of_nil HB.o))).mono ?_;rintro e w5 ⟨g5,rfl,d3,b2,a8⟩;rw[c6.o] at b2;have d0:=vv b2;have HF:=vv (HF.o.below a8);have HX:=vv (HX.o.below a8);have HB:=vn HB a8;clear b2 a8;go_wp2_with fail
 refine hK.out _ _ ⟨HF.o.c0,HF.o.c1,HX.o.c0,HX.o.c1,HX.o.c2⟩ (fun a1=>?_);clear hK;refine q03 rfl (by rfl) (fun K hK=>?_);go_simp;refine(c7.o g5 _ d0.o (b4.o.fs (Fs.of_nil HB.o))).mono ?_;rintro e w6 ⟨rfl,a9⟩;rw[HN.o];have HF:=vv (HF.o.below a9);have HX:=vv (HX.o.below a9);have HB:=vn HB a9;clear a9;go_wp2_with fail
 refine hK.out _ _ ⟨HF.o.c0,HF.o.c1,HX.o.c0,HX.o.c1,HX.o.c2⟩ (fun a1=>?_);clear hK
 iterate 5
  refine q00 (v:=?_) rfl (by rfl) ?_ ?_;rotate_left
  ·intro w c8;go_simp;with_reducible rfl
  simp only[Act.put,sa,sb,sc]
 refine q0D rfl ?_;go_wp2;go_ret3
 exact⟨by simp,HB.o⟩
def twoOk(neg:Bool)(n:Nat)(xs:List Nat)(e:Int):Bool:=
 q1q n xs && decide (e<=1073741824) && decide (-1073741824<=e) && (if n=0 then decide (e=0) && !neg else decide (nth xs 0%2=1))
structure DyadBox(w:World)(g:Nat)(neg:Bool)(A:Option Addr)(n c:Nat)(e:Int):Prop where
 c0:w.cell? ⟨g,0,none⟩=some (.bool neg)
 c1:w.cell? ⟨g,1,none⟩=some (.slice A n c)
 c2:w.cell? ⟨g,2,none⟩=some (.int .i64 e)
 lt:g<w.heap.size
theorem DyadBox.made(w:World)(neg:Bool)(A:Option Addr)(n c:Nat)(e:Int)(t:TypeId):DyadBox (w.alloc (.cells #[.bool neg,.slice A n c,.int .i64 e] t)) w.heap.size neg A n c e:=
 ⟨by simp only[World.cell?];rw[heap_alloc_new];rfl,by simp only[World.cell?];rw[heap_alloc_new];rfl,by simp only[World.cell?];rw[heap_alloc_new];rfl,by simp⟩
theorem DyadBox.below{w w':World}{g:Nat}{neg:Bool}{A:Option Addr}{n c:Nat}{e:Int}(h:DyadBox w g neg A n c e)(hb:Below w.heap.size w w'):DyadBox w' g neg A n c e:=
 ⟨(hb.cell (p:=⟨g,0,none⟩) h.lt).trans h.c0,(hb.cell (p:=⟨g,1,none⟩) h.lt).trans h.c1,(hb.cell (p:=⟨g,2,none⟩) h.lt).trans h.c2,Nat.lt_of_lt_of_le h.lt hb.size⟩
theorem q85(x:Nat)(h:x<4294967296):(((x:Nat):Int)%2==1)=decide (x%2=1):=by
 rcases Nat.mod_two_eq_zero_or_one x with e|e
 ·have:((x:Nat):Int)%2=0:=by omega
  rw[this,e];rfl
 ·have:((x:Nat):Int)%2=1:=by omega
  rw[this,e];rfl
theorem Two(neg:Bool)(A:Option Addr)(n c:Nat)(xs:List Nat)(x:Int)(w:World)(hr:Rd w A n c xs):
  Calls Tryz.prog 61 #[q57 neg A n c x] w fun e w'=>e=.returned (.bool (twoOk neg n xs x))/\Below w.heap.size w w':=by
 obtain⟨w0,a6⟩:=yx (w.alloc (.cells #[.bool neg,.slice A n c,.int .i64 x] 30));have a8:Below w.heap.size w w0:=by rw[a6];exact(Below.refl _ w).alloc lr _
 have a2:DyadBox w0 w.heap.size neg A n c x:=by rw[a6];exact DyadBox.made w _ _ _ _ _ _
 have HX:=vv a2;have HB:=vv a8;have a9:=vv a6;have HR:=vv fun w' (h:Below w.heap.size w w')=>hr.below h rfl
 have a0:=vv fun w' (h:Below w.heap.size w w')=>May A n c xs w' (hr.below h rfl)
 have b3:=hr.sm;have f0:=a2.c0;have f1:=a2.c1;have f2:=a2.c2;have b1:=a2.lt;clear hr a6 a8 a2;by_cases hok:q1q n xs=true
 ·rw[hok] at a0;have b2:=vv hok;clear hok;go_enter Tryz.func61,Tryz.ntmps61
  go_wp2_with fail
  rw[<- a9.o];refine(a0.o _ HB.o).mono ?_;rintro e w1 ⟨rfl,a3⟩;have HX:=vv (HX.o.below a3);have HB:=vn HB a3;obtain⟨f0,f1,f2,b1⟩:=HX.o;clear a3;by_cases hx1:1073741824<x
  ·have HV:Hid (twoOk neg n xs x=false):=vv (by unfold twoOk;rw[decide_eq_false (p:=x<=1073741824) (by omega)];simp);have hd:decide (1073741824<x)=true:=decide_eq_true hx1;clear hx1;go_wp2;go_ret
   exact⟨q1K HV.o.symm,HB.o⟩
  by_cases hx2:x < -1073741824
  ·have HV:Hid (twoOk neg n xs x=false):=vv (by unfold twoOk;rw[decide_eq_false (p:=-1073741824<=x) (by omega)];simp);have hd:decide (1073741824<x)=false:=decide_eq_false hx1;have b0:decide (x < -1073741824)=true:=decide_eq_true hx2;clear hx1 hx2;go_wp2;go_ret
   exact⟨q1K HV.o.symm,HB.o⟩
  have HV:Hid (twoOk neg n xs x=if n=0 then decide (x=0) && !neg else decide (nth xs 0%2=1)):=vv (by unfold twoOk;rw[b2.o,decide_eq_true (p:=x<=1073741824) (by omega),decide_eq_true (p:=-1073741824<=x) (by omega)];rfl);have hd:decide (1073741824<x)=false:=decide_eq_false hx1;have b0:decide (x < -1073741824)=false:=decide_eq_false hx2;clear hx1 hx2;rcases Nat.eq_zero_or_pos n with h0|h0
  ·subst h0;by_cases a4:x=0
   ·subst a4;have a5:Hid (twoOk neg 0 xs 0=!neg):=vv (by rw[HV.o];simp);clear hd b0;go_wp2;go_ret
    exact⟨q1K a5.o.symm,HB.o⟩
   ·have a5:Hid (twoOk neg 0 xs x=false):=vv (by rw[HV.o];simp [a4]);have t0:(x==0)=false:=by rw[beq_eq_false_iff_ne];exact a4
    clear a4;go_wp2;go_ret
    exact⟨q1K a5.o.symm,HB.o⟩
  ·have t0:((n:Int)==0)=false:=by rw[beq_eq_false_iff_ne];omega
   obtain⟨b,off,rfl,hb,hc⟩:=(HR.o _ HB.o).cell h0;have a4:=hc 0 h0;rw[Nat.add_zero] at a4;have hl:=(HR.o _ HB.o).nth_lt 0;have a7:=vv (q85 _ hl);have a5:Hid (twoOk neg n xs x=decide (nth xs 0%2=1)):=vv (by rw[HV.o,if_neg (by omega)]);have b4:(0:Int)<(n:Int):=by omega
   clear hc hl;go_wp2;go_ret
   exact⟨q1K (by rw[a5.o];exact a7.o),HB.o⟩
 ·have a1:q1q n xs=false:=by simpa using hok
  rw[a1] at a0;have HV:Hid (twoOk neg n xs x=false):=vv (by unfold twoOk;rw[a1];rfl);clear hok a1;go_enter Tryz.func61,Tryz.ntmps61
  go_wp2_with fail
  rw[<- a9.o];refine(a0.o _ HB.o).mono ?_;rintro e w1 ⟨rfl,a3⟩;have HB:=vn HB a3;clear a3;go_wp2;go_ret
  exact⟨q1K HV.o.symm,HB.o⟩
theorem Dyadic(E F:Nat)(below neg:Bool)(mode:Nat)(A:Option Addr)(n c N:Nat)(x:Int)(w:World)(h1:2<=E)(h2:E<=11)(h3:1<=F)(h4:F<=52)(hm:mode<=4)
  (ha:Rd w A n c (toL N)) (hn:n<=16384) (hok:twoOk below n (toL N) x=true) (hx1:-4611686018427387904<=x) (hx2:x<=4611686018427387904) (hst:Std w) :
  Calls Tryz.prog 32 #[fm E F,q57 below A n c x,.bool neg,.int .u8 (mode:Int)] w (q1i (q0f E F below neg mode (N*p2 x) (p2 (-x))) w):=by
 have e6:bl N<=524288:=by
  have k1:=q0d N;rw[ha.words,q21] at k1;have:=q15 k1;omega
 obtain⟨w0,c3⟩:=yx (w.alloc (.cells #[.int .i64 (E:Int),.int .i64 (F:Int)] 23));obtain⟨w1,d1⟩:=yx (w0.alloc (.cells #[.bool below,.slice A n c,.int .i64 x] 30));have d7:Below w.heap.size w w0:=by rw[c3];exact(Below.refl _ w).alloc lr _
 have d8:Below w0.heap.size w0 w1:=by rw[d1];exact(Below.refl _ w0).alloc lr _
 have e1:w0.heap.size=w.heap.size+1:=by rw[c3];simp
 have c4:FmAt w1 w.heap.size E F:=(show FmAt w0 w.heap.size E F by rw[c3];exact FmAt.made w _ _ _).below d8;have b9:DyadBox w1 (w.heap.size+1) below A n c x:=by rw[<- e1,d1];exact DyadBox.made w0 _ _ _ _ _ _
 have hB:Below w.heap.size w w1:=d7.trans (d8.mono d7.size);have b7:=vv c4;have HX:=vv b9;have HB:=vv hB;have e7:Hid (w1=(w.alloc (.cells #[.int .i64 (E:Int),.int .i64 (F:Int)] 23)).alloc (.cells #[.bool below,.slice A n c,.int .i64 x] 30)):=vv (by rw[d1,c3]);have d9:=vv hst;have e8:=vv fun w=>q9B E F w h1 h2 h3 h4
 have e2:=vv fun w' (h:Below w.heap.size w w')=>Two below A n c (toL N) x w' (ha.below h rfl)
 rw[hok] at e2;have e3:=vv fun w' (h:Below w.heap.size w w')=>q97 A n c (toL N) w' (ha.below h rfl)
 rw[q01] at e3;obtain⟨K,hK⟩:=yx (q2u x (bl N+1500));have e9:-16778717<=K/\K<=16778717:=by rw[hK];unfold q2u;omega
 have c0:=vv fun w=>q9A x (bl N:Int) w hx1 hx2 (by omega) (by omega)
 rw[<- hK] at c0;have c1:=vv fun w=>q4v K w (by omega) (by omega)
 have f2:bl (p2 K)<=16778718:=by unfold Go.Proofs.YtcdimmblnbkjjaaGreatDoor.p2;rw[q1n];omega
 have f3:bl (p2 (-K))<=16778718:=by unfold Go.Proofs.YtcdimmblnbkjjaaGreatDoor.p2;rw[q1n];omega
 have f4:=q0z N (p2 K);have d2:Hid (Sz N/\Sz 1/\Sz (p2 K)/\Sz (p2 (-K))):=vv (by unfold Sz;exact⟨by omega,by decide,by omega,by omega⟩);have e4:=vv fun g w' (hg:RatAt w' g (sg below (N*p2 K)) (p2 (-K))) (hs:Std w')=>q9x g E F (N*p2 K) (p2 (-K)) below neg mode w' h1 h2 h3 h4 hg (by omega) (by omega) hs hm
 have HN:=vv (q2L (E:=E) (F:=F) (N:=N) (below:=below) (neg:=neg) (mode:=mode) 1500 x h1 h2 h3 h4 (by omega));rw[<- hK] at HN;have f6:(mode:Int)<=4:=by omega
 have f0:=c4.c0;have f1:=c4.c1;have r0:=b9.c0;have r1:=b9.c1;have r2:=b9.c2;have l0:=c4.lt;have l1:=b9.lt;clear ha hn hok hx1 hx2 hst e6 c3 d1 d7 d8 e1 c4 b9 hB hK e9 f2 f3 f4 h1 h2 hm;go_enter Tryz.func32,Tryz.ntmps32
 go_wp2_with fail
 rw[<- e7.o];refine(e8.o _).mono ?_;rintro e w2 ⟨rfl,d3⟩;have b7:=vv (b7.o.below d3);have HX:=vv (HX.o.below d3);have HB:=vn HB d3;obtain⟨r0,r1,r2,l1⟩:=HX.o;clear d3 f0 f1 l0;go_wp2_with fail
 refine(e2.o _ HB.o).mono ?_;rintro e w3 ⟨rfl,d4⟩;have b7:=vv (b7.o.below d4);have HX:=vv (HX.o.below d4);have HB:=vn HB d4;have r1:=HX.o.c1;have l1:=HX.o.lt;clear d4 r0 r2;go_wp2_with fail
 refine(e3.o _ HB.o).mono ?_;rintro e w2' ⟨gn,rfl,f7,c2,d5⟩;have b7:=vv (b7.o.below d5);have HX:=vv (HX.o.below d5);have HB:=vn HB d5;have a3:=vv c2;clear d5 c2 r1 l1;obtain⟨w2,rfl⟩:∃x:World,x=w2':=⟨_,rfl⟩;have HF:=vv HX.o;have f5:Hid (sg true (N*p2 K) = -((N*p2 K:Nat):Int)):=vv rfl;have HC:Hid ((N:Int)*((p2 K:Nat):Int)=((N*p2 K:Nat):Int)/\1*p2 (-K)=p2 (-K)):=vv ⟨by rw[Int.natCast_mul],Nat.one_mul _⟩;have b5:=vv HB.o;clear HB;go_wp2_with fail
 refine q02 (fun w'=>w'.cell? ⟨w.heap.size+1,2,none⟩=some (.int .i64 x)) 10
  (.still 2 (.still 4 (.still 5 (.still 6 (.two 0 (.one 1 (.one 3 (.one 7 (.one 8 (.one 9 .done))))) 1 (.two 0 (.one 3 (.one 7 (.one 8 (.one 9 .done)))) 3 (.two 0 (.one 7 (.one 8 (.one 9 .done))) 7 (.two 0 (.one 8 (.one 9 .done)) 8 (.two 0 (.one 9 .done) 9 (.one 0 .done))))))))))
  (by kernel_rfl) (by kernel_rfl) (fun _ _ d _ _ h=>by cases d<;>exact h) HF.o.c2 (fun hS0=>?_)
 iterate 4
  refine q00 (v:=?_) rfl (by rfl) ?_ ?_;rotate_left
  ·intro w f8;go_simp;with_reducible rfl
  simp only[Act.put,sa,sb,sc]
 have hB:Below w2.heap.size w2 w2.drew:=q04 (Below.refl _ _);have c2:IntAt w2.drew gn 0 (N:Int):=a3.o.drew;obtain⟨wc,e5⟩:=yx (w2.drew);rw[<- e5] at hB hS0 c2 ⊢;have HB:=vv hB;have a3:=vv c2;clear hB c2 e5;refine q0Y rfl (by rfl) rfl (by rfl) (fun K hK=>?_) (fun K hK=>?_)
 focus
  go_simp;obtain⟨z0,a0⟩:=q0y wc;obtain⟨g0,a9⟩:=yx (wc.heap.size);have b4:w2.heap.size<=g0:=by have:=HB.o.size;omega
  have b0:∀g,g<wc.heap.size->g≠g0:=fun g h=>by omega
  have b1:=vv b0;obtain⟨wn,a8⟩:=yx (wc.alloc q1H);rw[<- a8] at z0 a0 ⊢;rw[<- a9] at z0 ⊢
  try have b3:Hid (g1≠g0):=vv (b1.o g1 a5.o.lt)
  try have b3:Hid (g1≠g0):=vv (b1.o g1 a6.o.lt)
  clear b0 a8 a9
  try have a4:=vv (a4.o.below a0)
  try have a5:=vv (a5.o.below a0)
  try have a6:=vv (a6.o.below a0)
  try have a7:=vv (a7.o.below a0)
  have a3:=vv (a3.o.below a0);have a2:=HB.o.trans (a0.mono HB.o.size);have HB:=vv a2;clear a0 a2;obtain⟨wc,rfl⟩:=yx wn;have a4:=vv z0;clear z0;go_wp2_with fail
  refine hK.out _ _ (HF.o.below HB.o).c2 (fun a1=>?_);clear hK;refine q03 rfl (by rfl) (fun K hK=>?_);go_simp;obtain⟨z1,a0⟩:=q0y wc;obtain⟨g1,c5⟩:=yx (wc.heap.size);have b6:w2.heap.size<=g1:=by have:=HB.o.size;omega
  have c6:∀g,g<wc.heap.size->g≠g1:=fun g h=>by omega
  have c7:=vv c6;obtain⟨wn,a8⟩:=yx (wc.alloc q1H);rw[<- a8] at z1 a0 ⊢;rw[<- c5] at z1 ⊢
  try have b3:Hid (g1≠g0):=vv (Ne.symm (c7.o g0 a4.o.lt))
  have d6:Hid (g1≠gn):=vv (Ne.symm (c7.o gn a3.o.lt));clear c6 a8 c5
  try have a4:=vv (a4.o.below a0)
  try have a5:=vv (a5.o.below a0)
  try have a6:=vv (a6.o.below a0)
  try have a7:=vv (a7.o.below a0)
  have a3:=vv (a3.o.below a0);have a2:=HB.o.trans (a0.mono HB.o.size);have HB:=vv a2;clear a0 a2;obtain⟨wc,rfl⟩:=yx wn;have a5:=vv z1;clear z1;go_wp2_with fail
  refine hK.out _ _ (HF.o.below HB.o).c2 (fun a1=>?_);clear hK;refine q03 rfl (by rfl) (fun K hK=>?_);go_simp;refine(B.SetInt g1 gn _ _ a5.o.sh a3.o).mono ?_;rintro e wn hP
  try have a4:=vv (a4.o.fs1 hP.2.2 b3.o)
  have a3:=vv (a3.o.fs1 hP.2.2 d6.o);have a2:=hP.below HB.o HB.o.size b6;have HB:=vv a2;obtain⟨rfl,b8,-⟩:=hP;have a6:=vv b8;clear b8 a2 a5;obtain⟨wc,rfl⟩:=yx wn;go_wp2_with fail
  refine hK.out _ _ (HF.o.below HB.o).c2 (fun a1=>?_);clear hK;refine q03 rfl (by rfl) (fun K hK=>?_);go_simp;refine(B.BitLen gn 0 _ _ a3.o).mono ?_;rintro e w' ⟨rfl,rfl⟩;go_wp2_with fail
  refine hK.out _ _ (HF.o.below HB.o).c2 (fun a1=>?_);clear hK;refine q03 rfl (by rfl) (fun K hK=>?_);go_simp;refine(c0.o _).mono ?_;rintro e w' ⟨rfl,rfl⟩;go_wp2_with fail
  refine hK.out _ _ (HF.o.below HB.o).c2 (fun a1=>?_);clear hK;refine q03 rfl (by rfl) (fun K hK=>?_);go_simp;refine(c1.o _).mono ?_;rintro e wn ⟨g9,rfl,c8,b2,a0⟩
  try have a4:=vv (a4.o.below a0)
  try have a5:=vv (a5.o.below a0)
  try have a6:=vv (a6.o.below a0)
  try have a7:=vv (a7.o.below a0)
  have a3:=vv (a3.o.below a0);have a2:=HB.o.trans (a0.mono HB.o.size);have HB:=vv a2;clear a0 a2;obtain⟨wc,rfl⟩:=yx wn;have a7:=vv b2;clear b2;go_wp2_with fail
  refine hK.out _ _ (HF.o.below HB.o).c2 (fun a1=>?_);clear hK
 rotate_left 1
 focus
  go_simp;obtain⟨z1,a0⟩:=q0y wc;obtain⟨g1,c5⟩:=yx (wc.heap.size);have b6:w2.heap.size<=g1:=by have:=HB.o.size;omega
  have c6:∀g,g<wc.heap.size->g≠g1:=fun g h=>by omega
  have c7:=vv c6;obtain⟨wn,a8⟩:=yx (wc.alloc q1H);rw[<- a8] at z1 a0 ⊢;rw[<- c5] at z1 ⊢
  try have b3:Hid (g1≠g0):=vv (Ne.symm (c7.o g0 a4.o.lt))
  have d6:Hid (g1≠gn):=vv (Ne.symm (c7.o gn a3.o.lt));clear c6 a8 c5
  try have a4:=vv (a4.o.below a0)
  try have a5:=vv (a5.o.below a0)
  try have a6:=vv (a6.o.below a0)
  try have a7:=vv (a7.o.below a0)
  have a3:=vv (a3.o.below a0);have a2:=HB.o.trans (a0.mono HB.o.size);have HB:=vv a2;clear a0 a2;obtain⟨wc,rfl⟩:=yx wn;have a5:=vv z1;clear z1;go_wp2_with fail
  refine hK.out _ _ (HF.o.below HB.o).c2 (fun a1=>?_);clear hK;refine q0Y rfl (by rfl) rfl (by rfl) (fun K hK=>?_) (fun K hK=>?_)
  focus
   go_simp;obtain⟨z0,a0⟩:=q0y wc;obtain⟨g0,a9⟩:=yx (wc.heap.size);have b4:w2.heap.size<=g0:=by have:=HB.o.size;omega
   have b0:∀g,g<wc.heap.size->g≠g0:=fun g h=>by omega
   have b1:=vv b0;obtain⟨wn,a8⟩:=yx (wc.alloc q1H);rw[<- a8] at z0 a0 ⊢;rw[<- a9] at z0 ⊢
   try have b3:Hid (g1≠g0):=vv (b1.o g1 a5.o.lt)
   try have b3:Hid (g1≠g0):=vv (b1.o g1 a6.o.lt)
   clear b0 a8 a9
   try have a4:=vv (a4.o.below a0)
   try have a5:=vv (a5.o.below a0)
   try have a6:=vv (a6.o.below a0)
   try have a7:=vv (a7.o.below a0)
   have a3:=vv (a3.o.below a0);have a2:=HB.o.trans (a0.mono HB.o.size);have HB:=vv a2;clear a0 a2;obtain⟨wc,rfl⟩:=yx wn;have a4:=vv z0;clear z0;go_wp2_with fail
   refine hK.out _ _ (HF.o.below HB.o).c2 (fun a1=>?_);clear hK;refine q03 rfl (by rfl) (fun K hK=>?_);go_simp;refine(B.SetInt g1 gn _ _ a5.o.sh a3.o).mono ?_;rintro e wn hP
   try have a4:=vv (a4.o.fs1 hP.2.2 b3.o)
   have a3:=vv (a3.o.fs1 hP.2.2 d6.o);have a2:=hP.below HB.o HB.o.size b6;have HB:=vv a2;obtain⟨rfl,b8,-⟩:=hP;have a6:=vv b8;clear b8 a2 a5;obtain⟨wc,rfl⟩:=yx wn;go_wp2_with fail
   refine hK.out _ _ (HF.o.below HB.o).c2 (fun a1=>?_);clear hK;refine q03 rfl (by rfl) (fun K hK=>?_);go_simp;refine(B.BitLen gn 0 _ _ a3.o).mono ?_;rintro e w' ⟨rfl,rfl⟩;go_wp2_with fail
   refine hK.out _ _ (HF.o.below HB.o).c2 (fun a1=>?_);clear hK;refine q03 rfl (by rfl) (fun K hK=>?_);go_simp;refine(c0.o _).mono ?_;rintro e w' ⟨rfl,rfl⟩;go_wp2_with fail
   refine hK.out _ _ (HF.o.below HB.o).c2 (fun a1=>?_);clear hK;refine q03 rfl (by rfl) (fun K hK=>?_);go_simp;refine(c1.o _).mono ?_;rintro e wn ⟨g9,rfl,c8,b2,a0⟩
   try have a4:=vv (a4.o.below a0)
   try have a5:=vv (a5.o.below a0)
   try have a6:=vv (a6.o.below a0)
   try have a7:=vv (a7.o.below a0)
   have a3:=vv (a3.o.below a0);have a2:=HB.o.trans (a0.mono HB.o.size);have HB:=vv a2;clear a0 a2;obtain⟨wc,rfl⟩:=yx wn;have a7:=vv b2;clear b2;go_wp2_with fail
   refine hK.out _ _ (HF.o.below HB.o).c2 (fun a1=>?_);clear hK
  rotate_left 1
  focus
   go_simp;refine(B.SetInt g1 gn _ _ a5.o.sh a3.o).mono ?_;rintro e wn hP
   try have a4:=vv (a4.o.fs1 hP.2.2 b3.o)
   have a3:=vv (a3.o.fs1 hP.2.2 d6.o);have a2:=hP.below HB.o HB.o.size b6;have HB:=vv a2;obtain⟨rfl,b8,-⟩:=hP;have a6:=vv b8;clear b8 a2 a5;obtain⟨wc,rfl⟩:=yx wn;go_wp2_with fail
   refine hK.out _ _ (HF.o.below HB.o).c2 (fun a1=>?_);clear hK;refine q0Y rfl (by rfl) rfl (by rfl) (fun K hK=>?_) (fun K hK=>?_)
   focus
    go_simp;obtain⟨z0,a0⟩:=q0y wc;obtain⟨g0,a9⟩:=yx (wc.heap.size);have b4:w2.heap.size<=g0:=by have:=HB.o.size;omega
    have b0:∀g,g<wc.heap.size->g≠g0:=fun g h=>by omega
    have b1:=vv b0;obtain⟨wn,a8⟩:=yx (wc.alloc q1H);rw[<- a8] at z0 a0 ⊢;rw[<- a9] at z0 ⊢
    try have b3:Hid (g1≠g0):=vv (b1.o g1 a5.o.lt)
    try have b3:Hid (g1≠g0):=vv (b1.o g1 a6.o.lt)
    clear b0 a8 a9
    try have a4:=vv (a4.o.below a0)
    try have a5:=vv (a5.o.below a0)
    try have a6:=vv (a6.o.below a0)
    try have a7:=vv (a7.o.below a0)
    have a3:=vv (a3.o.below a0);have a2:=HB.o.trans (a0.mono HB.o.size);have HB:=vv a2;clear a0 a2;obtain⟨wc,rfl⟩:=yx wn;have a4:=vv z0;clear z0;go_wp2_with fail
    refine hK.out _ _ (HF.o.below HB.o).c2 (fun a1=>?_);clear hK;refine q03 rfl (by rfl) (fun K hK=>?_);go_simp;refine(B.BitLen gn 0 _ _ a3.o).mono ?_;rintro e w' ⟨rfl,rfl⟩;go_wp2_with fail
    refine hK.out _ _ (HF.o.below HB.o).c2 (fun a1=>?_);clear hK;refine q03 rfl (by rfl) (fun K hK=>?_);go_simp;refine(c0.o _).mono ?_;rintro e w' ⟨rfl,rfl⟩;go_wp2_with fail
    refine hK.out _ _ (HF.o.below HB.o).c2 (fun a1=>?_);clear hK;refine q03 rfl (by rfl) (fun K hK=>?_);go_simp;refine(c1.o _).mono ?_;rintro e wn ⟨g9,rfl,c8,b2,a0⟩
    try have a4:=vv (a4.o.below a0)
    try have a5:=vv (a5.o.below a0)
    try have a6:=vv (a6.o.below a0)
    try have a7:=vv (a7.o.below a0)
    have a3:=vv (a3.o.below a0);have a2:=HB.o.trans (a0.mono HB.o.size);have HB:=vv a2;clear a0 a2;obtain⟨wc,rfl⟩:=yx wn;have a7:=vv b2;clear b2;go_wp2_with fail
    refine hK.out _ _ (HF.o.below HB.o).c2 (fun a1=>?_);clear hK
   rotate_left 1
   focus
    go_simp;refine(B.BitLen gn 0 _ _ a3.o).mono ?_;rintro e w' ⟨rfl,rfl⟩;go_wp2_with fail
    refine hK.out _ _ (HF.o.below HB.o).c2 (fun a1=>?_);clear hK;refine q0Y rfl (by rfl) rfl (by rfl) (fun K hK=>?_) (fun K hK=>?_)
    focus
     go_simp;obtain⟨z0,a0⟩:=q0y wc;obtain⟨g0,a9⟩:=yx (wc.heap.size);have b4:w2.heap.size<=g0:=by have:=HB.o.size;omega
     have b0:∀g,g<wc.heap.size->g≠g0:=fun g h=>by omega
     have b1:=vv b0;obtain⟨wn,a8⟩:=yx (wc.alloc q1H);rw[<- a8] at z0 a0 ⊢;rw[<- a9] at z0 ⊢
     try have b3:Hid (g1≠g0):=vv (b1.o g1 a5.o.lt)
     try have b3:Hid (g1≠g0):=vv (b1.o g1 a6.o.lt)
     clear b0 a8 a9
     try have a4:=vv (a4.o.below a0)
     try have a5:=vv (a5.o.below a0)
     try have a6:=vv (a6.o.below a0)
     try have a7:=vv (a7.o.below a0)
     have a3:=vv (a3.o.below a0);have a2:=HB.o.trans (a0.mono HB.o.size);have HB:=vv a2;clear a0 a2;obtain⟨wc,rfl⟩:=yx wn;have a4:=vv z0;clear z0;go_wp2_with fail
     refine hK.out _ _ (HF.o.below HB.o).c2 (fun a1=>?_);clear hK;refine q03 rfl (by rfl) (fun K hK=>?_);go_simp;refine(c0.o _).mono ?_;rintro e w' ⟨rfl,rfl⟩;go_wp2_with fail
     refine hK.out _ _ (HF.o.below HB.o).c2 (fun a1=>?_);clear hK;refine q03 rfl (by rfl) (fun K hK=>?_);go_simp;refine(c1.o _).mono ?_;rintro e wn ⟨g9,rfl,c8,b2,a0⟩
     try have a4:=vv (a4.o.below a0)
     try have a5:=vv (a5.o.below a0)
     try have a6:=vv (a6.o.below a0)
     try have a7:=vv (a7.o.below a0)
     have a3:=vv (a3.o.below a0);have a2:=HB.o.trans (a0.mono HB.o.size);have HB:=vv a2;clear a0 a2;obtain⟨wc,rfl⟩:=yx wn;have a7:=vv b2;clear b2;go_wp2_with fail
     refine hK.out _ _ (HF.o.below HB.o).c2 (fun a1=>?_);clear hK
    rotate_left 1
    focus
     go_simp;refine(c0.o _).mono ?_;rintro e w' ⟨rfl,rfl⟩;go_wp2_with fail
     refine hK.out _ _ (HF.o.below HB.o).c2 (fun a1=>?_);clear hK;refine q0Y rfl (by rfl) rfl (by rfl) (fun K hK=>?_) (fun K hK=>?_)
     focus
      go_simp;obtain⟨z0,a0⟩:=q0y wc;obtain⟨g0,a9⟩:=yx (wc.heap.size);have b4:w2.heap.size<=g0:=by have:=HB.o.size;omega
      have b0:∀g,g<wc.heap.size->g≠g0:=fun g h=>by omega
      have b1:=vv b0;obtain⟨wn,a8⟩:=yx (wc.alloc q1H);rw[<- a8] at z0 a0 ⊢;rw[<- a9] at z0 ⊢
      try have b3:Hid (g1≠g0):=vv (b1.o g1 a5.o.lt)
      try have b3:Hid (g1≠g0):=vv (b1.o g1 a6.o.lt)
      clear b0 a8 a9
      try have a4:=vv (a4.o.below a0)
      try have a5:=vv (a5.o.below a0)
      try have a6:=vv (a6.o.below a0)
      try have a7:=vv (a7.o.below a0)
      have a3:=vv (a3.o.below a0);have a2:=HB.o.trans (a0.mono HB.o.size);have HB:=vv a2;clear a0 a2;obtain⟨wc,rfl⟩:=yx wn;have a4:=vv z0;clear z0;go_wp2_with fail
      refine hK.out _ _ (HF.o.below HB.o).c2 (fun a1=>?_);clear hK;refine q03 rfl (by rfl) (fun K hK=>?_);go_simp;refine(c1.o _).mono ?_;rintro e wn ⟨g9,rfl,c8,b2,a0⟩
      try have a4:=vv (a4.o.below a0)
      try have a5:=vv (a5.o.below a0)
      try have a6:=vv (a6.o.below a0)
      try have a7:=vv (a7.o.below a0)
      have a3:=vv (a3.o.below a0);have a2:=HB.o.trans (a0.mono HB.o.size);have HB:=vv a2;clear a0 a2;obtain⟨wc,rfl⟩:=yx wn;have a7:=vv b2;clear b2;go_wp2_with fail
      refine hK.out _ _ (HF.o.below HB.o).c2 (fun a1=>?_);clear hK
     rotate_left 1
     focus
      go_simp;refine(c1.o _).mono ?_;rintro e wn ⟨g9,rfl,c8,b2,a0⟩
      try have a4:=vv (a4.o.below a0)
      try have a5:=vv (a5.o.below a0)
      try have a6:=vv (a6.o.below a0)
      try have a7:=vv (a7.o.below a0)
      have a3:=vv (a3.o.below a0);have a2:=HB.o.trans (a0.mono HB.o.size);have HB:=vv a2;clear a0 a2;obtain⟨wc,rfl⟩:=yx wn;have a7:=vv b2;clear b2;go_wp2_with fail
      refine hK.out _ _ (HF.o.below HB.o).c2 (fun a1=>?_);clear hK;refine q03 rfl (by rfl) (fun K hK=>?_);go_simp;obtain⟨z0,a0⟩:=q0y wc;obtain⟨g0,a9⟩:=yx (wc.heap.size);have b4:w2.heap.size<=g0:=by have:=HB.o.size;omega
      have b0:∀g,g<wc.heap.size->g≠g0:=fun g h=>by omega
      have b1:=vv b0;obtain⟨wn,a8⟩:=yx (wc.alloc q1H);rw[<- a8] at z0 a0 ⊢;rw[<- a9] at z0 ⊢
      try have b3:Hid (g1≠g0):=vv (b1.o g1 a5.o.lt)
      try have b3:Hid (g1≠g0):=vv (b1.o g1 a6.o.lt)
      clear b0 a8 a9
      try have a4:=vv (a4.o.below a0)
      try have a5:=vv (a5.o.below a0)
      try have a6:=vv (a6.o.below a0)
      try have a7:=vv (a7.o.below a0)
      have a3:=vv (a3.o.below a0);have a2:=HB.o.trans (a0.mono HB.o.size);have HB:=vv a2;clear a0 a2;obtain⟨wc,rfl⟩:=yx wn;have a4:=vv z0;clear z0;go_wp2_with fail
      refine hK.out _ _ (HF.o.below HB.o).c2 (fun a1=>?_);clear hK
 all_goals
  refine q0a ?_;go_wp2_with fail
  refine(B.MulR g0 g1 g9 _ _ _ _ _ a4.o.sh a6.o a7.o (d9.o.fs (Fs.of_nil (b5.o.trans (HB.o.mono b5.o.size)))) (by exact d2.o.1) d2.o.2.1 (by exact d2.o.2.2.1) d2.o.2.2.2).mono ?_;rintro e wn hP;rw[HC.o.1,HC.o.2] at hP;have a2:=hP.below HB.o HB.o.size b4;have HB:=vv a2;obtain⟨rfl,hR,-⟩:=hP;have HR:=vv hR;clear hR a2;have d0:=(HF.o.below HB.o).c0;have ld:=(HF.o.below HB.o).lt;obtain⟨f0,f1,l0⟩:=(b7.o.below HB.o);cases below
  ·go_wp2_with fail
   refine(e4.o g0 _ HR.o (d9.o.fs (Fs.of_nil (b5.o.trans (HB.o.mono b5.o.size))))).mono ?_;rintro e w8 ⟨rfl,c9⟩;rw[HN.o];have e0:=vn HB c9;clear c9 d0 ld f0 f1 l0;go_wp2;go_ret3
   exact⟨by simp,b5.o.trans (e0.o.mono b5.o.size)⟩
  ·go_wp2_with fail
   refine(B.NegR g0 g0 _ _ _ HR.o.sh HR.o).mono ?_;rintro e w7 hP;rw[<- f5.o] at hP;have a2:=hP.below HB.o HB.o.size b4;have HB:=vv a2;obtain⟨rfl,hR,-⟩:=hP;have HR:=vv hR;clear hR a2 d0 ld f0 f1 l0;obtain⟨f0,f1,l0⟩:=(b7.o.below HB.o);go_wp2_with fail
   refine(e4.o g0 _ HR.o (d9.o.fs (Fs.of_nil (b5.o.trans (HB.o.mono b5.o.size))))).mono ?_;rintro e w8 ⟨rfl,c9⟩;rw[HN.o];have e0:=vn HB c9;clear c9 f0 f1 l0;go_wp2;go_ret3
   exact⟨by simp,b5.o.trans (e0.o.mono b5.o.size)⟩
end Go.Proofs.YtcdimmblnbkjjaaGreatDoor.R5
