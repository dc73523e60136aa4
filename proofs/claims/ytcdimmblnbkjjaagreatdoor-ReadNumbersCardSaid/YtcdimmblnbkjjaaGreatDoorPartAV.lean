/- Lemmas. -/
import Derived.Test.YtcdimmblnbkjjaaGreatDoorPartAS
import Derived.Test.YtcdimmblnbkjjaaGreatDoorPartAK
import Derived.Test.YtcdimmblnbkjjaaGreatDoorPartAI
import Derived.Test.YtcdimmblnbkjjaaGreatDoorPartAJ
import Derived.Test.YtcdimmblnbkjjaaGreatDoorPartAC
import Derived.Test.YtcdimmblnbkjjaaGreatDoorPartAP
set_option linter.all false
set_option maxRecDepth 100000
namespace Go.Proofs.YtcdimmblnbkjjaaGreatDoor.A
open Go Go.RowKit
theorem Mul(g o gx ox gy oy:Nat)(v u1 u2:Int)(w:World)(h:IntAt w g o v)(hx:IntAt w gx ox u1)(hy:IntAt w gy oy u2)(hn:Sz u1.natAbs)(hm:Sz u2.natAbs):
  Calls Tryz.prog 91 #[.pointer (some ⟨g,o,none⟩),.pointer (some ⟨gx,ox,none⟩),.pointer (some ⟨gy,oy,none⟩)] w (q0j g o (u1*u2) w):=by
 have HI:=vv h;have a0:=hx.lt;have a1:=hy.lt;obtain⟨A,n,c,h0,h1,hr,hz⟩:=hx.ex;obtain⟨B,m,d,k0,k1,hs,hy⟩:=hy.ex;have HM:=vv (q1j A B n m c d _ _ _ hr.drew hs.drew (by have:=hr.sz hn;have:=hs.sz hm;omega));clear hr hz hs hy h hx hn hm;go_enter Tryz.func91,Tryz.ntmps91
 go_wp2_with fail
 refine q02 (fun w'=>w'.cell? ⟨gx,ox,none⟩=some (.bool (decide (u1<0)))/\w'.cell? ⟨gx,ox+1,none⟩=some (.slice A n c)/\w'.cell? ⟨gy,oy,none⟩=some (.bool (decide (u2<0)))/\w'.cell? ⟨gy,oy+1,none⟩=some (.slice B m d)) 19
  (.still 0 (.still 1 (.still 2 (.still 3 (.still 4 (.still 5 (.still 6 (.still 7 (.still 8 (.still 9 (.still 10 (.still 11 (.still 12 (.still 13 (.still 14 (.still 15 (.still 16 (.still 17 (.one 18 .done))))))))))))))))))) (by kernel_rfl) (by kernel_rfl) (fun _ _ d _ _ h=>by cases d<;>exact h) ⟨h0,h1,k0,k1⟩ (fun hS0=>?_)
 iterate 18
  refine q00 (v:=?_) rfl (by rfl) ?_ ?_;rotate_left
  ·intro w a4;go_simp;with_reducible rfl
  simp only[Act.put,sa,sb,sc]
 refine q03 rfl (by rfl) (fun K hK=>?_);go_simp;refine HM.o.mono ?_;rintro e w1 ⟨A',m',c',rfl,hR,a3,hB⟩;go_wp2_with fail
 refine hK.out _ _ ⟨(hB.cell (p:=⟨gx,ox,none⟩) a0).trans h0,(hB.cell (p:=⟨gx,ox+1,none⟩) a0).trans h1,(hB.cell (p:=⟨gy,oy,none⟩) a1).trans k0,(hB.cell (p:=⟨gy,oy+1,none⟩) a1).trans k1⟩ (fun a2=>?_);clear hK;refine q0a ?_;go_wp2_with fail
 refine(q0r g o v (u1*u2) _ A' m' c' (u1.natAbs*u2.natAbs) _ (HI.o.drew.below hB) (by rw[q01,q01] at hR;exact hR) (fun a e=>(a3 a e).2) (Int.natAbs_mul u1 u2) ?_).mono ?_
 ·rw[q4r];rfl
 rintro e w2 ⟨rfl,hI,hF⟩;go_wp2;go_ret
 exact⟨rfl,hI,((Fm.of_below hB HI.o.lt).trans hF).undrew⟩
theorem q2I(g o:Nat)(v u:Int)(b:Bool)(N M:Nat)(A B:Option Addr)(n m c d:Nat)(w:World)(h:IntAt w g o v)(ha:Rd w A n c (toL N))(hb:Rd w B m d (toL M))(hn:Sz N)(hm:Sz M)(hu:u=sg b (N+M)):
  Calls Tryz.prog 253 #[.pointer (some ⟨g,o,none⟩),.slice A n c,.bool b,.slice B m d,.bool b] w (q0j g o u w):=by
 have HI:=vv h;have HM:=vv (q1d A B n m c d _ _ w ha hb (by have:=ha.sz hn;omega) (by have:=hb.sz hm;omega));have HU:=vv hu;clear ha hb hn hm h hu;have a1:(b==b)=true:=by cases b<;>rfl
 go_enter Tryz.func253,Tryz.ntmps253
 go_wp2_with fail
 refine HM.o.mono ?_;rintro e w1 ⟨A',m',c',rfl,hR,a0,hB⟩;rw[q01,q01] at hR;have HR:=vv hR;clear hR;go_wp2_with fail
 refine(q0r g o v u b A' m' c' (N+M) _ (HI.o.below hB) HR.o (fun a e=>(a0 a e).2) (by rw[HU.o,q0R]) (by rw[HU.o,q1a])).mono ?_;rintro e w2 ⟨rfl,hI,hF⟩;go_wp2;go_ret
 exact⟨rfl,hI,(Fm.of_below hB HI.o.lt).trans hF⟩
theorem q2D(g o:Nat)(v u:Int)(b:Bool)(N M:Nat)(t:Int)(A B:Option Addr)(n m c d:Nat)(w:World)(h:IntAt w g o v)(ha:Rd w A n c (toL N))(hb:Rd w B m d (toL M))(ht:q0J N M=t)(h0:t=0\/t=1)(hle:M<=N)(hu:u=sg b (N-M)):
  Calls Tryz.prog 253 #[.pointer (some ⟨g,o,none⟩),.slice A n c,.bool b,.slice B m d,.bool (!b)] w (q0j g o u w):=by
 have HI:=vv h;have HC:=vv (q0F A B n m c d _ _ w ha hb (by rw[q01]) (by rw[q01]));have HA:=vv ha;have HB:=vv hb;have HU:=vv hu;have HL:=vv hle;have HT:=vv ht;have a3:(b==!b)=false:=by cases b<;>rfl
 clear ha hb h hu hle ht;rcases h0 with rfl|rfl;all_goals
  go_enter Tryz.func253,Tryz.ntmps253
  go_wp2_with fail
  refine HC.o.mono ?_;rintro e w1 ⟨rfl,hB⟩;rw[q01,q01,HT.o];go_wp2_with fail
  refine(q0N A B n m c d _ _ _ (HA.o.below hB rfl) (HB.o.below hB rfl) (by rw[q01,q01];exact HL.o) (HB.o.le_of HA.o HL.o)).mono ?_;rintro e w2 ⟨A',m',c',rfl,hR,a2,a0⟩;rw[q01,q01] at hR;have HR:=vv hR;have a1:=vv (hB.trans (a0.mono hB.size));clear hR a0;go_wp2_with fail
  refine(q0r g o v u b A' m' c' (N-M) _ (HI.o.below a1.o) HR.o (fun a e=>(a2 a e).2) (by rw[HU.o,q0R]) (by rw[HU.o,q1a])).mono ?_;rintro e w3 ⟨rfl,hI,hF⟩;go_wp2;go_ret
  exact⟨rfl,hI,(Fm.of_below a1.o HI.o.lt).trans hF⟩
theorem q4i(g o:Nat)(v u:Int)(b:Bool)(N M:Nat)(A B:Option Addr)(n m c d:Nat)(w:World)(h:IntAt w g o v)(ha:Rd w A n c (toL N))(hb:Rd w B m d (toL M))(ht:q0J N M = -1)(hle:N<=M)(hu:u=sg (!b) (M-N)):
  Calls Tryz.prog 253 #[.pointer (some ⟨g,o,none⟩),.slice A n c,.bool b,.slice B m d,.bool (!b)] w (q0j g o u w):=by
 have HI:=vv h;have HC:=vv (q0F A B n m c d _ _ w ha hb (by rw[q01]) (by rw[q01]));have HA:=vv ha;have HB:=vv hb;have HU:=vv hu;have HL:=vv hle;have HT:=vv ht;have a3:(b==!b)=false:=by cases b<;>rfl
 clear ha hb h hu hle ht;go_enter Tryz.func253,Tryz.ntmps253
 go_wp2_with fail
 refine HC.o.mono ?_;rintro e w1 ⟨rfl,hB⟩;rw[q01,q01,HT.o];go_wp2_with fail
 refine(q0N B A m n d c _ _ _ (HB.o.below hB rfl) (HA.o.below hB rfl) (by rw[q01,q01];exact HL.o) (HA.o.le_of HB.o HL.o)).mono ?_;rintro e w2 ⟨A',m',c',rfl,hR,a2,a0⟩;rw[q01,q01] at hR;have HR:=vv hR;have a1:=vv (hB.trans (a0.mono hB.size));clear hR a0;go_wp2_with fail
 refine(q0r g o v u (!b) A' m' c' (M-N) _ (HI.o.below a1.o) HR.o (fun a e=>(a2 a e).2) (by rw[HU.o,q0R]) (by rw[HU.o,q1a])).mono ?_;rintro e w3 ⟨rfl,hI,hF⟩;go_wp2;go_ret
 exact⟨rfl,hI,(Fm.of_below a1.o HI.o.lt).trans hF⟩
theorem q7E(g o:Nat)(v:Int)(a b:Bool)(N M:Nat)(A B:Option Addr)(n m c d:Nat)(w:World)(h:IntAt w g o v)(ha:Rd w A n c (toL N))(hb:Rd w B m d (toL M))(hn:Sz N)(hm:Sz M):
  Calls Tryz.prog 253 #[.pointer (some ⟨g,o,none⟩),.slice A n c,.bool a,.slice B m d,.bool b] w (q0j g o (sg a N+sg b M) w):=by
 by_cases e:b=a
 ·subst e;exact q2I g o v _ b N M A B n m c d w h ha hb hn hm (by cases b<;>simp [sg]<;>omega)
 ·obtain rfl:b=!a:=by cases a<;>cases b<;>simp_all
  rcases Nat.lt_trichotomy N M with k|k|k
  ·exact q4i g o v _ a N M A B n m c d w h ha hb (by unfold q0J;simp [k]) (by omega) (by cases a<;>simp [sg]<;>omega)
  ·exact q2D g o v _ a N M 0 A B n m c d w h ha hb (by unfold q0J;simp [k]) (.inl rfl) (by omega) (by cases a<;>simp [sg]<;>omega)
  ·exact q2D g o v _ a N M 1 A B n m c d w h ha hb (by unfold q0J;simp [k];omega) (.inr rfl) (by omega) (by cases a<;>simp [sg]<;>omega)
theorem Add(g o gx ox gy oy:Nat)(v u1 u2:Int)(w:World)(h:IntAt w g o v)(hx:IntAt w gx ox u1)(hy:IntAt w gy oy u2)(hn:Sz u1.natAbs)(hm:Sz u2.natAbs):
  Calls Tryz.prog 199 #[.pointer (some ⟨g,o,none⟩),.pointer (some ⟨gx,ox,none⟩),.pointer (some ⟨gy,oy,none⟩)] w (q0j g o (u1+u2) w):=by
 obtain⟨A,n,c,h0,h1,hr,hz⟩:=hx.ex;obtain⟨B,m,d,k0,k1,hs,hy⟩:=hy.ex;have HM:=vv (q7E g o v (decide (u1<0)) (decide (u2<0)) _ _ A B n m c d w.drew h.drew hr.drew hs.drew hn hm);clear hr hz hs hy h hx hn hm;go_enter Tryz.func199,Tryz.ntmps199
 go_wp2_with fail
 refine q02 (fun w'=>w'.cell? ⟨gx,ox,none⟩=some (.bool (decide (u1<0)))/\w'.cell? ⟨gx,ox+1,none⟩=some (.slice A n c)/\w'.cell? ⟨gy,oy,none⟩=some (.bool (decide (u2<0)))/\w'.cell? ⟨gy,oy+1,none⟩=some (.slice B m d)) 17
  (.still 0 (.still 1 (.still 2 (.still 3 (.still 4 (.still 5 (.still 6 (.still 7 (.still 8 (.still 9 (.still 10 (.still 11 (.still 12 (.still 13 (.still 14 (.still 15 (.still 16 .done))))))))))))))))) (by kernel_rfl) (by kernel_rfl) (fun _ _ d _ _ h=>by cases d<;>exact h) ⟨h0,h1,k0,k1⟩ (fun hS0=>?_)
 iterate 17
  refine q00 (v:=?_) rfl (by rfl) ?_ ?_;rotate_left
  ·intro w a0;go_simp;with_reducible rfl
  simp only[Act.put,sa,sb,sc]
 refine q0a ?_;go_wp2_with fail
 refine HM.o.mono ?_;rintro e w1 ⟨rfl,hI,hF⟩;rw[q3Z,q3Z] at hI;go_wp2;go_ret
 exact⟨rfl,hI,hF.undrew⟩
theorem Lsh(g o gx ox k:Nat)(v u:Int)(w:World)(h:IntAt w g o v)(hx:IntAt w gx ox u)(hn:Sz u.natAbs)(hk:k<30000000000000):
  Calls Tryz.prog 92 #[.pointer (some ⟨g,o,none⟩),.pointer (some ⟨gx,ox,none⟩),.int .u64 (k:Int)] w (q0j g o (u*2^k) w):=by
 have HI:=vv h;have a0:=hx.lt;obtain⟨A,n,c,h0,h1,hr,hz⟩:=hx.ex;have HM:=vv (up A n c _ k _ rfl _ hr.drew (by have:=hr.sz hn;omega));have a3:IntKind.i64.wrap (k:Int)=(k:Int):=by rw[IntKind.wrap_i64];omega
 clear hr hz h hx hn;go_enter Tryz.func92,Tryz.ntmps92
 go_wp2_with fail
 refine q02 (fun w'=>w'.cell? ⟨gx,ox,none⟩=some (.bool (decide (u<0)))/\w'.cell? ⟨gx,ox+1,none⟩=some (.slice A n c)) 12
  (.still 0 (.still 1 (.still 2 (.still 3 (.still 4 (.still 5 (.still 6 (.still 7 (.still 8 (.still 9 (.still 10 (.one 11 .done)))))))))))) (by kernel_rfl) (by kernel_rfl) (fun _ _ d _ _ h=>by cases d<;>exact h) ⟨h0,h1⟩ (fun hS0=>?_)
 iterate 11
  refine q00 (v:=?_) rfl (by rfl) ?_ ?_;rotate_left
  ·intro w a4;go_simp;with_reducible rfl
  simp only[Act.put,sa,sb,sc]
 refine q03 rfl (by rfl) (fun K hK=>?_);go_simp;refine HM.o.mono ?_;rintro e w1 ⟨A',m',c',rfl,hR,a2,hB⟩;go_wp2_with fail
 refine hK.out _ _ ⟨(hB.cell (p:=⟨gx,ox,none⟩) a0).trans h0,(hB.cell (p:=⟨gx,ox+1,none⟩) a0).trans h1⟩ (fun a1=>?_);clear hK;refine q0a ?_;go_wp2_with fail
 refine(q0r g o v (u*2^k) _ A' m' c' (u.natAbs*2^k) _ (HI.o.drew.below hB) (by rw[q01] at hR;exact hR) (fun a e=>(a2 a e).2) (by rw[Int.natAbs_mul,Int.natAbs_pow];rfl) ?_).mono ?_
 ·exact q5k u k
 rintro e w2 ⟨rfl,hI,hF⟩;go_wp2;go_ret
 exact⟨rfl,hI,((Fm.of_below hB HI.o.lt).trans hF).undrew⟩
theorem Uint64(g o:Nat)(u:Int)(w:World)(h:IntAt w g o u)(hu:u.natAbs<18446744073709551616):
  Calls Tryz.prog 149 #[.pointer (some ⟨g,o,none⟩)] w fun e w'=>e=.returned (.int .u64 ((u.natAbs:Nat):Int))/\w=w':=by
 obtain⟨A,n,c,h0,h1,hr,hz⟩:=h.ex;have HM:=vv (q37 A n c _ w hr);have HV:=vv (two_words hu);clear hr hz h;go_enter Tryz.func149,Tryz.ntmps149
 go_wp2_with fail
 refine HM.o.mono ?_;rintro e w1 ⟨rfl,rfl⟩;rw[HV.o];go_wp2;go_ret
 exact⟨rfl,rfl⟩
theorem NewInt(x:Int)(w:World)(h1:-9223372036854775808<=x)(h2:x<=9223372036854775807):
  Calls Tryz.prog 51 #[.int .i64 x] w (q0Z x w):=by
 go_enter Tryz.func51,Tryz.ntmps51
 go_wp2_with fail
 refine(q4j _ _ 0 x _ (IntAt.zero w 143) h1 h2).mono ?_;rintro e w1 ⟨rfl,hI,hF⟩;go_wp2;go_ret
 exact⟨_,rfl,lr,hI,hF.below ((Below.refl _ w).alloc lr _) (by simp) lr⟩
theorem q72(g o gx ox N M n c m d:Nat)(A B:Option Addr)(w:World)(h0:w.cell? ⟨g,o,none⟩=some (.bool false))(h1:w.cell? ⟨g,o+1,none⟩=some (.slice A n c))(k0:w.cell? ⟨gx,ox,none⟩=some (.bool false))(k1:w.cell? ⟨gx,ox+1,none⟩=some (.slice B m d))
  (ha:Rd w A n c (toL N)) (hb:Rd w B m d (toL M)) :
  Calls Tryz.prog 190 #[.pointer (some ⟨g,o,none⟩),.pointer (some ⟨gx,ox,none⟩)] w fun e w'=>e=.returned (.int .i64 (q0J N M))/\Below w.heap.size w w':=by
 have HC:=vv (q0F A B n m c d _ _ w.drew.drew (ha.like rfl) (hb.like rfl) (by rw[q01]) (by rw[q01]));clear ha hb;go_enter Tryz.func190,Tryz.ntmps190
 go_wp2_with fail
 refine q02 (fun w'=>w'.cell? ⟨g,o,none⟩=some (.bool false)/\w'.cell? ⟨gx,ox,none⟩=some (.bool false)) 9
  (.still 0 (.still 1 (.still 2 (.still 3 (.still 4 (.still 5 (.still 6 (.still 7 (.still 8 .done))))))))) (by kernel_rfl) (by kernel_rfl) (fun _ _ d _ _ h=>by cases d<;>exact h) ⟨h0,k0⟩ (fun hS0=>?_)
 iterate 9
  refine q00 (v:=?_) rfl (by rfl) ?_ ?_;rotate_left
  ·intro w a0;go_simp;with_reducible rfl
  simp only[Act.put,sa,sb,sc]
 refine q0D rfl ?_;go_wp2_with fail
 refine q02 (fun w'=>w'.cell? ⟨g,o+1,none⟩=some (.slice A n c)/\w'.cell? ⟨gx,ox+1,none⟩=some (.slice B m d)) 8
  (.still 0 (.still 1 (.still 2 (.still 3 (.still 4 (.still 5 (.still 6 (.still 7 .done)))))))) (by kernel_rfl) (by kernel_rfl) (fun _ _ d _ _ h=>by cases d<;>exact h) ⟨h1,k1⟩ (fun hS0=>?_)
 iterate 8
  refine q00 (v:=?_) rfl (by rfl) ?_ ?_;rotate_left
  ·intro w a0;go_simp;with_reducible rfl
  simp only[Act.put,sa,sb,sc]
 refine q0a ?_;go_wp2_with fail
 refine HC.o.mono ?_;rintro e w1 ⟨rfl,hB⟩;rw[q01,q01];go_wp2;go_ret
 exact⟨rfl,⟨hB.os,hB.tape,hB.output,hB.size,hB.block⟩⟩
theorem q71(g o gx ox N M n c m d:Nat)(A B:Option Addr)(w:World)(h0:w.cell? ⟨g,o,none⟩=some (.bool true))(h1:w.cell? ⟨g,o+1,none⟩=some (.slice A n c))(k0:w.cell? ⟨gx,ox,none⟩=some (.bool true))(k1:w.cell? ⟨gx,ox+1,none⟩=some (.slice B m d))
  (ha:Rd w A n c (toL N)) (hb:Rd w B m d (toL M)) :
  Calls Tryz.prog 190 #[.pointer (some ⟨g,o,none⟩),.pointer (some ⟨gx,ox,none⟩)] w fun e w'=>e=.returned (.int .i64 (-q0J N M))/\Below w.heap.size w w':=by
 have HC:=vv (q0F A B n m c d _ _ w.drew.drew (ha.like rfl) (hb.like rfl) (by rw[q01]) (by rw[q01]));have HW:IntKind.i64.wrap (-q0J N M) = -q0J N M:=by have:=q4g N M;rw[IntKind.wrap_i64];omega
 clear ha hb;go_enter Tryz.func190,Tryz.ntmps190
 go_wp2_with fail
 refine q02 (fun w'=>w'.cell? ⟨g,o,none⟩=some (.bool true)/\w'.cell? ⟨gx,ox,none⟩=some (.bool true)) 9
  (.still 0 (.still 1 (.still 2 (.still 3 (.still 4 (.still 5 (.still 6 (.still 7 (.still 8 .done))))))))) (by kernel_rfl) (by kernel_rfl) (fun _ _ d _ _ h=>by cases d<;>exact h) ⟨h0,k0⟩ (fun hS0=>?_)
 iterate 9
  refine q00 (v:=?_) rfl (by rfl) ?_ ?_;rotate_left
  ·intro w a0;go_simp;with_reducible rfl
  simp only[Act.put,sa,sb,sc]
 refine q0D rfl ?_;go_wp2_with fail
 refine q02 (fun w'=>w'.cell? ⟨g,o+1,none⟩=some (.slice A n c)/\w'.cell? ⟨gx,ox+1,none⟩=some (.slice B m d)) 8
  (.still 0 (.still 1 (.still 2 (.still 3 (.still 4 (.still 5 (.still 6 (.still 7 .done)))))))) (by kernel_rfl) (by kernel_rfl) (fun _ _ d _ _ h=>by cases d<;>exact h) ⟨h1,k1⟩ (fun hS0=>?_)
 iterate 8
  refine q00 (v:=?_) rfl (by rfl) ?_ ?_;rotate_left
  ·intro w a0;go_simp;with_reducible rfl
  simp only[Act.put,sa,sb,sc]
 refine q0a ?_;go_wp2_with fail
 refine HC.o.mono ?_;rintro e w1 ⟨rfl,hB⟩;rw[q01,q01];go_wp2;go_ret
 exact⟨rfl,⟨hB.os,hB.tape,hB.output,hB.size,hB.block⟩⟩
theorem q4P(g o gx ox:Nat)(a:Bool)(w:World)(h0:w.cell? ⟨g,o,none⟩=some (.bool a))(k0:w.cell? ⟨gx,ox,none⟩=some (.bool !a)):
  Calls Tryz.prog 190 #[.pointer (some ⟨g,o,none⟩),.pointer (some ⟨gx,ox,none⟩)] w fun e w'=>e=.returned (.int .i64 (if a then -1 else 1))/\Below w.heap.size w w':=by
 cases a
 all_goals
  go_enter Tryz.func190,Tryz.ntmps190
  go_wp2_with fail
 ·refine q02 (fun w'=>w'.cell? ⟨g,o,none⟩=some (.bool false)/\w'.cell? ⟨gx,ox,none⟩=some (.bool true)) 9
   (.still 0 (.still 1 (.still 2 (.still 3 (.still 4 (.still 5 (.still 6 (.still 7 (.still 8 .done))))))))) (by kernel_rfl) (by kernel_rfl) (fun _ _ d _ _ h=>by cases d<;>exact h) ⟨h0,k0⟩ (fun hS0=>?_)
  iterate 9
   refine q00 (v:=?_) rfl (by rfl) ?_ ?_;rotate_left
   ·intro w a0;go_simp;with_reducible rfl
   simp only[Act.put,sa,sb,sc]
  refine q0D rfl ?_;go_wp2;go_ret
  exact⟨rfl,q04 (Below.refl _ _)⟩
 ·refine q02 (fun w'=>w'.cell? ⟨g,o,none⟩=some (.bool true)/\w'.cell? ⟨gx,ox,none⟩=some (.bool false)) 9
   (.still 0 (.still 1 (.still 2 (.still 3 (.still 4 (.still 5 (.still 6 (.still 7 (.still 8 .done))))))))) (by kernel_rfl) (by kernel_rfl) (fun _ _ d _ _ h=>by cases d<;>exact h) ⟨h0,k0⟩ (fun hS0=>?_)
  iterate 9
   refine q00 (v:=?_) rfl (by rfl) ?_ ?_;rotate_left
   ·intro w a0;go_simp;with_reducible rfl
   simp only[Act.put,sa,sb,sc]
  refine q0D rfl ?_;go_wp2;go_ret
  exact⟨rfl,q04 (Below.refl _ _)⟩
theorem Cmp(g o gx ox:Nat)(u1 u2:Int)(w:World)(h:IntAt w g o u1)(hx:IntAt w gx ox u2):
  Calls Tryz.prog 190 #[.pointer (some ⟨g,o,none⟩),.pointer (some ⟨gx,ox,none⟩)] w fun e w'=>e=.returned (.int .i64 (q3s u1 u2))/\Below w.heap.size w w':=by
 obtain⟨A,n,c,h0,h1,hr,hz⟩:=h.ex;obtain⟨B,m,d,k0,k1,hs,hy⟩:=hx.ex;by_cases e1:u1<0<;>by_cases e2:u2<0
 ·rw[decide_eq_true e1] at h0;rw[decide_eq_true e2] at k0;rw[q6T e1 e2];exact q71 g o gx ox _ _ n c m d A B w h0 h1 k0 k1 hr hs
 ·rw[decide_eq_true e1] at h0;rw[decide_eq_false e2] at k0;rw[q2G (by omega)];exact q4P g o gx ox true w h0 k0
 ·rw[decide_eq_false e1] at h0;rw[decide_eq_true e2] at k0;rw[q2H (by omega)];exact q4P g o gx ox false w h0 k0
 ·rw[decide_eq_false e1] at h0;rw[decide_eq_false e2] at k0;rw[q3q e1 e2];exact q72 g o gx ox _ _ n c m d A B w h0 h1 k0 k1 hr hs
theorem Bit0(g o:Nat)(u:Int)(w:World)(h:IntAt w g o u):
  Calls Tryz.prog 197 #[.pointer (some ⟨g,o,none⟩),.int .i64 0] w fun e w'=>e=.returned (.int .u64 ((u.natAbs%2:Nat):Int))/\w=w':=by
 obtain⟨A,n,c,h0,h1,hr,hz⟩:=h.ex;have a1:=hr.sm;have hw:=hr.words;clear hz h h0;rcases Nat.eq_zero_or_pos n with rfl|hn
 ·have hu:=q07.1 hw;rw[hu];clear hw hr;go_enter Tryz.func197,Tryz.ntmps197
  go_wp2;go_ret
  exact⟨rfl,rfl⟩
 ·obtain⟨b,off,rfl,hb,hc⟩:=hr.cell hn;have a0:=hc 0 hn;rw[Nat.add_zero] at a0;have hl:=hr.nth_lt 0;have HB:=vv (q5c (nth (toL u.natAbs) 0) hl);have HE:=vv (q2P u.natAbs);clear hc hw hr;go_enter Tryz.func197,Tryz.ntmps197
  go_wp2;go_ret
  refine⟨q0i ?_,rfl⟩;rw[HB.o,HE.o,IntKind.wrap_u64];omega
def q3S(g o gr or:Nat)(q r:Int)(w:World)(e:Ending)(w':World):Prop:=
 e=.returned (.tuple #[.pointer (some ⟨g,o,none⟩),.pointer (some ⟨gr,or,none⟩)])/\IntAt w' g o q/\IntAt w' gr or r/\Fs [(gr,or,2),(g,o,2)] w w'
theorem QuoRem(g o gx ox gy oy gr or:Nat)(v u1 u2 ur:Int)(w:World)(h:IntAt w g o v)(hx:IntAt w gx ox u1)(hy:IntAt w gy oy u2)(hr:IntAt w gr or ur)(hne:g≠gr)(h0:u2≠0)(hn:Sz u1.natAbs):
  Calls Tryz.prog 196 #[.pointer (some ⟨g,o,none⟩),.pointer (some ⟨gx,ox,none⟩),.pointer (some ⟨gy,oy,none⟩),.pointer (some ⟨gr,or,none⟩)] w
   (q3S g o gr or (sg (decide (u1<0) != decide (u2<0)) (u1.natAbs/u2.natAbs)) (sg (decide (u1<0)) (u1.natAbs%u2.natAbs)) w):=by
 have HI:=vv h;have HR:=vv hr;have a8:=hx.lt;have a9:=hy.lt;obtain⟨A,n,c,h0,h1,ha,hz⟩:=hx.ex;obtain⟨B,m,d,k0,k1,hb,hy⟩:=hy.ex;have HM:=vv (q1r A B n m c d _ _ w.drew.drew (ha.like rfl) (hb.like rfl) (by omega) (by have:=ha.sz hn;omega));clear ha hz hb hy h hx hn hr;go_enter Tryz.func196,Tryz.ntmps196
 go_wp2_with fail
 refine q02 (fun w'=>w'.cell? ⟨gx,ox,none⟩=some (.bool (decide (u1<0)))/\w'.cell? ⟨gy,oy,none⟩=some (.bool (decide (u2<0)))) 9
  (.still 0 (.still 1 (.still 2 (.still 3 (.still 4 (.still 5 (.still 6 (.still 7 (.still 8 .done))))))))) (by kernel_rfl) (by kernel_rfl) (fun _ _ d _ _ h=>by cases d<;>exact h) ⟨h0,k0⟩ (fun hS0=>?_)
 iterate 9
  refine q00 (v:=?_) rfl (by rfl) ?_ ?_;rotate_left
  ·intro w a0;go_simp;with_reducible rfl
  simp only[Act.put,sa,sb,sc]
 refine q0a ?_;go_wp2_with fail
 refine q02 (fun w'=>w'.cell? ⟨gx,ox+1,none⟩=some (.slice A n c)/\w'.cell? ⟨gy,oy+1,none⟩=some (.slice B m d)) 14
  (.still 0 (.still 1 (.still 2 (.still 3 (.still 4 (.still 5 (.still 6 (.still 7 (.one 8 (.still 9 (.still 10 (.still 11 (.still 12 (.still 13 .done)))))))))))))) (by kernel_rfl) (by kernel_rfl) (fun _ _ d _ _ h=>by cases d<;>exact h) ⟨h1,k1⟩ (fun hS0=>?_)
 iterate 8
  refine q00 (v:=?_) rfl (by rfl) ?_ ?_;rotate_left
  ·intro w a0;go_simp;with_reducible rfl
  simp only[Act.put,sa,sb,sc]
 refine q03 rfl (by rfl) (fun K hK=>?_);go_simp;refine HM.o.mono ?_;rintro e w1 ⟨A1,m1,c1,A2,m2,c2,rfl,a1,a2,a3,b0,hB⟩;have HB:Hid (Below w.heap.size w w1):=vv ⟨hB.os,hB.tape,hB.output,hB.size,hB.block⟩;have b1:=vv a1;have b2:=vv a2;clear a1 a2 hB;go_wp2_with fail
 refine hK.out _ _ ⟨(HB.o.cell (p:=⟨gx,ox+1,none⟩) a8).trans h1,(HB.o.cell (p:=⟨gy,oy+1,none⟩) a9).trans k1⟩ (fun a4=>?_);clear hK
 iterate 5
  refine q00 (v:=?_) rfl (by rfl) ?_ ?_;rotate_left
  ·intro w a0;go_simp;with_reducible rfl
  simp only[Act.put,sa,sb,sc]
 refine q0D rfl ?_;go_wp2_with fail
 refine(q0r gr or ur (sg (decide (u1<0)) (u1.natAbs%u2.natAbs)) _ A2 m2 c2 _ _ (HR.o.below HB.o) b2.o (fun a e=>(b0 a e).2) (q0R _ _) (q1a _ _)).mono ?_;rintro e w2 hP;have HF:=vv (hP.fs (HR.o.below HB.o));obtain⟨rfl,a5,hF⟩:=hP;have b3:=vv a5;clear a5;go_wp2_with fail
 refine(q0r g o v (sg (decide (u1<0) != decide (u2<0)) (u1.natAbs/u2.natAbs)) _ A1 m1 c1 _ _ ((HI.o.below HB.o).fs1 HF.o (Ne.symm hne)) (b1.o.fs (fun a e=>(a3 a e).2) HF.o) (fun a e=>(a3 a e).2) (q0R _ _) (q1a _ _)).mono ?_;rintro e w3 hP;have a6:=vv (hP.fs ((HI.o.below HB.o).fs1 HF.o (Ne.symm hne)));obtain⟨rfl,a7,b5⟩:=hP;have b4:=vv a7;clear a7;go_wp2;go_ret2
 exact⟨rfl,b4.o,b3.o.fs1 a6.o hne,((Fs.of_below [] HB.o (fun _ hp=>by cases hp)).trans HF.o).trans a6.o⟩
set_option maxHeartbeats 400000 in
theorem Exp(g o gx ox gy oy:Nat)(v:Int)(x y:Nat)(w:World)(h:IntAt w g o v)(hx:IntAt w gx ox (x:Int))(hy:IntAt w gy oy (y:Int))(hx0:0<x)(hy0:0<y)(hs:Sz (x^y))(hsy:Sz y):
  Calls Tryz.prog 90 #[.pointer (some ⟨g,o,none⟩),.pointer (some ⟨gx,ox,none⟩),.pointer (some ⟨gy,oy,none⟩),.pointer none] w (q5Y g o ((x^y:Nat):Int) w):=by
 have HI:=vv h;have HX:=vv hx;have HY:=vv hy;have b9:=hy.lt;have HP:Hid (∀q,q<=y->Sz (x^q)):=vv fun q hq=>hs.mono (Nat.pow_le_pow_right hx0 hq)
 have c0:Hid ((y:Int).sign=1):=vv (Int.sign_eq_one_of_pos (by omega));have c1:=vv hsy;have d7:=vv hx0;have c2:=vv hy0;have HB:Hid (∀(w:World) t,Below w.heap.size w (w.alloc (.cells #[.bool false,.slice none 0 0] t))):=vv fun w t=>(Below.refl _ w).alloc lr _
 have HZ:=vv (IntAt.zero w 143);clear h hx hy hs hsy hx0 hy0;go_enter Tryz.func90,Tryz.ntmps90
 go_wp2_with fail
 refine(NewInt 1 _ (by omega) (by omega)).mono ?_;rintro e w1 ⟨g1,rfl,b3,a4,a5⟩;have c3:=vv a4;have a6:=vv ((HB.o w 143).trans (a5.mono (Below.size (HB.o w 143))));have c4:=vv (HZ.o.below a5);have c6:=a4.lt;have c7:w.heap.size<g1:=by simp at b3;omega
 have a7:=a6.o.size;clear a4 a5 b3;go_wp2_with fail
 have a8:=vv (a6.o.trans ((HB.o w1 143).mono a6.o.size));have b4:=vv (IntAt.zero w1 143);refine(Set _ 0 gx ox 0 _ _ b4.o (HX.o.below a8.o)).mono ?_;rintro e w2 hP;have hP:=hP.f b4.o;have a9:=vv (hP.below a8.o (a8.o.size) a7);have c8:=vv ((c3.o.below (HB.o w1 143)).fs1 hP.2.2 (by omega));have c9:=vv ((c4.o.below (HB.o w1 143)).fs1 hP.2.2 (by omega));have d0:=vv hP.2.1;obtain⟨rfl,-,-⟩:=hP;have b0:=vv (HY.o.below a9.o);go_wp2_with fail
 refine(Sign gy oy _ _ b0.o).mono ?_;rintro e w3 ⟨rfl,rfl⟩;rw[c0.o];obtain⟨B,m,d,k0,k1,hr,hz⟩:=b0.o.ex;have HR:=vv hr;have hm:=hr.words;have HM:=vv hm;have d8:=hr.sz c1.o;have b5:=b0.o.lt;clear hr hz k0 hm;go_wp2_with fail
 refine(q0I _ _ _ _ _ HR.o).mono ?_;rintro e w3 ⟨rfl,hO,hB⟩;have d1:Hid (ExpInv w w.heap.size g1 w1.heap.size (some ⟨w2.heap.size,0,none⟩) m x y 0 w3):=vv
  ⟨c9.o.below hB,by simpa using c8.o.below hB,d0.o.below hB,hO.rd HR.o.len.symm lr HR.o.sm,fun a e=>by cases e;rfl,a9.o.trans (hB.mono a9.o.size)⟩
 clear hO hB;go_wp2;go_loopw [13] (fun i wr=>∃(z:Int) (j:Nat),i=.int .i64 z/\z+1=j/\j<=32*m/\ExpInv w w.heap.size g1 w1.heap.size (some ⟨w2.heap.size,0,none⟩) m x y (y/2^j) wr) (fun i _=>(intOf i+1).toNat)
 case atStart =>
  refine⟨_,32*m,rfl,by omega,lr,?_⟩;have b6:=q0d y;have d2:words y=m:=HM.o;rw[d2,q21] at b6;rw[Nat.div_eq_of_lt b6];exact d1.o
 case round =>
  obtain⟨z,j,rfl,hz,hj,hE⟩:=hrel;have HE:=vv hE;clear hE;rcases Nat.eq_zero_or_pos j with rfl|d3
  ·obtain rfl:z = -1:=by omega
   clear hz;go_wp2_with fail
   have b7:=HE.o.o;rw[Nat.pow_zero,Nat.div_one] at b7;refine(Set g o g1 0 _ _ _ (HI.o.below HE.o.bel) b7).mono ?_;rintro e w5 hP;have hF:=vv ((hP.f (HI.o.below HE.o.bel)).after HE.o.bel);obtain⟨rfl,d4,-⟩:=hP;go_wp2;go_ret
   exact⟨rfl,d4,hF.o⟩
  ·obtain⟨i,rfl⟩:∃i,j=i+1:=⟨j-1,by omega⟩;obtain rfl:z=(i:Int):=by omega
   clear hz;have i1:(0:Int)<=(i:Int):=by omega
   have i2:(i:Int)<32*(m:Int):=by omega
   go_wp2_with fail
   refine(Mul g1 0 g1 0 g1 0 _ _ _ _ HE.o.o HE.o.o HE.o.o (by simpa using HP.o _ (Nat.div_le_self _ _)) (by simpa using HP.o _ (Nat.div_le_self _ _))).mono ?_;rintro e w4 hP;have a1:=vv (HE.o.step hP (q':=2*(y/2^(i+1))) (by rw[<- Int.natCast_mul,<- Nat.pow_add];congr 2;omega) (by omega) (by omega) (by omega));obtain⟨rfl,-,-⟩:=hP;obtain⟨b,off,d5,d9,hc⟩:=a1.o.words.cell (by omega);cases d5
   have b8:=hc (i/32) (by omega);rw[Nat.zero_add] at b8;clear hc;have a0:=q3P (nth (toL y) (i/32)) (i%32) (a1.o.words.nth_lt _);rw[q6y] at a0;have HQ:=vv (q2R y i);by_cases hb:y/2^i%2=1
   ·rw[decide_eq_true hb] at a0;have a3:Hid (y/2^i=2*(y/2^(i+1))+1):=vv (by have:=HQ.o;omega);clear hb;go_wp2_with fail
    refine(Mul g1 0 g1 0 w1.heap.size 0 _ _ _ _ a1.o.o a1.o.o a1.o.base (by simpa using HP.o _ (by have:=Nat.div_le_self y (2^i);have:=a3.o;omega)) (by simpa using HP.o 1 c2.o)).mono ?_;rintro e w5 hP;have a2:=vv (a1.o.step hP (q':=y/2^i) (by rw[a3.o,Nat.pow_add x _ 1,Nat.pow_one,Int.natCast_mul]) (by omega) (by omega) (by omega));obtain⟨rfl,-,-⟩:=hP;obtain⟨A5,c5,d6⟩:=a2.o.by_.nil;have b1:=a2.o.by_.lt;clear b8 a0;go_wp2;go_roundw
    case rel=>exact⟨_,i,rfl,by omega,by omega,a2.o⟩
    case measure=>simp [intOf]
   ·rw[decide_eq_false hb] at a0;have a3:Hid (y/2^i=2*(y/2^(i+1))):=vv (by have:=HQ.o;omega);clear hb;have b2:=a1.o;rw[<- a3.o] at b2;have a2:=vv b2;obtain⟨A5,c5,d6⟩:=a2.o.by_.nil;have b1:=a2.o.by_.lt;clear b2;go_wp2;go_roundw
    case rel=>exact⟨_,i,rfl,by omega,by omega,a2.o⟩
    case measure=>simp [intOf]
theorem Exp0(g o gx ox gy oy:Nat)(v x:Int)(w:World)(h:IntAt w g o v)(hx:IntAt w gx ox x)(hy:IntAt w gy oy 0):
  Calls Tryz.prog 90 #[.pointer (some ⟨g,o,none⟩),.pointer (some ⟨gx,ox,none⟩),.pointer (some ⟨gy,oy,none⟩),.pointer none] w (q5Y g o 1 w):=by
 have HI:=vv h;have HX:=vv hx;have HY:=vv hy;have a9:=hy.lt;have HB:Hid (∀(w:World) t,Below w.heap.size w (w.alloc (.cells #[.bool false,.slice none 0 0] t))):=vv fun w t=>(Below.refl _ w).alloc lr _
 have HZ:=vv (IntAt.zero w 143);clear h hx hy;go_enter Tryz.func90,Tryz.ntmps90
 go_wp2_with fail
 refine(NewInt 1 _ (by omega) (by omega)).mono ?_;rintro e w1 ⟨g1,rfl,a6,a1,a2⟩;have b0:=vv a1;have a3:=vv ((HB.o w 143).trans (a2.mono (Below.size (HB.o w 143))));have b1:=vv (HZ.o.below a2);have b2:=a1.lt;have b3:w.heap.size<g1:=by simp at a6;omega
 have a4:=a3.o.size;clear a1 a2 a6;go_wp2_with fail
 have a5:=vv (a3.o.trans ((HB.o w1 143).mono a3.o.size));have a7:=vv (IntAt.zero w1 143);refine(Set _ 0 gx ox 0 _ _ a7.o (HX.o.below a5.o)).mono ?_;rintro e w2 hP;have hP:=hP.f a7.o;have a0:=vv (hP.below a5.o (a5.o.size) a4);have b4:=vv ((b0.o.below (HB.o w1 143)).fs1 hP.2.2 (by omega));have a8:=vv ((b1.o.below (HB.o w1 143)).fs1 hP.2.2 (by omega));obtain⟨rfl,-,-⟩:=hP;have b5:=vv (HY.o.below a0.o);go_wp2_with fail
 refine(Sign gy oy _ _ b5.o).mono ?_;rintro e w3 ⟨rfl,rfl⟩;rw[Int.sign_zero];obtain⟨A5,c5,b8⟩:=a8.o.nil;have b6:=a8.o.lt;go_wp2_with fail
 refine(Set g o g1 0 _ _ _ (HI.o.below a0.o) b4.o).mono ?_;rintro e w5 hP;have hF:=vv ((hP.f (HI.o.below a0.o)).after a0.o);obtain⟨rfl,b7,-⟩:=hP;go_wp2;go_ret
 exact⟨rfl,b7,hF.o⟩
def q3z(d:Nat)(w:World)(e:Ending)(w':World):Prop:=∃A n c,e=.returned (.slice A n c)/\Rd w' A n c (toL d)/\(∀a,A=some a->a.off=0)/\Below w.heap.size w w'
theorem below(g:Nat)(p:Int)(d:Nat)(w:World)(h:RatAt w g p d):
  Calls Tryz.prog 244 #[.pointer (some ⟨g,0,none⟩)] w (q3z (ld p d) w):=by
 have a0:=h.lt;have hp:=q1m (p:=p) h.pos;obtain⟨A,n,c,e,⟨hd,hz⟩⟩:=h.den;clear h;rcases hd with ⟨rfl,hd⟩|⟨hn,hr⟩
 ·rw[hd];clear hd hp;go_enter Tryz.func244,Tryz.ntmps244
  go_wp2;go_ret
  have hO:Own (w.alloc (.cells #[.int .u32 1] 34)) w.heap.size 34 [1]:=Own.lit _ (q0w.2 ⟨by omega,q0K⟩) (by simp [q0p]);exact⟨_,1,1,rfl,hO.rd rfl lr (by omega),fun a e=>by cases e;rfl,(Below.refl _ _).alloc lr _⟩
 ·have a1:=hr.sm;have h0:((n:Int)==0)=false:=by simp;omega
  have HR:=vv hr;clear hr hp;go_enter Tryz.func244,Tryz.ntmps244
  go_wp2;go_ret
  exact⟨_,n,c,rfl,HR.o,hz,Below.refl _ _⟩
theorem Num(g:Nat)(p:Int)(d:Nat)(w:World)(h:RatAt w g p d):
  Calls Tryz.prog 241 #[.pointer (some ⟨g,0,none⟩)] w (q0Z (lp p d) w):=by
 have a0:=h.lt;have HB:Hid (∀t,Below w.heap.size w (w.alloc (.cells #[.bool false,.slice none 0 0] t))):=vv fun t=>(Below.refl _ w).alloc lr _
 have HN:=vv h.num;clear h;go_enter Tryz.func241,Tryz.ntmps241
 go_wp2_with fail
 refine(Set _ 0 g 0 0 _ _ (IntAt.zero w 143) (HN.o.below (HB.o _))).mono ?_;rintro e w1 ⟨rfl,hI,hF⟩;go_wp2;go_ret
 exact⟨_,rfl,lr,hI,hF.below (HB.o _) (by simp) lr⟩
theorem Denom(g:Nat)(p:Int)(d:Nat)(w:World)(h:RatAt w g p d):
  Calls Tryz.prog 189 #[.pointer (some ⟨g,0,none⟩)] w (q0Z (ld p d:Nat) w):=by
 have a5:=h.lt;have HB:Hid (∀t,Below w.heap.size w (w.alloc (.cells #[.bool false,.slice none 0 0] t))):=vv fun t=>(Below.refl _ w).alloc lr _
 have HN:=vv h;clear h;go_enter Tryz.func189,Tryz.ntmps189
 go_wp2_with fail
 refine(below g p d _ (HN.o.below (HB.o _))).mono ?_;rintro e w1 ⟨A,n,c,rfl,hR,hz,a0⟩;have HZ:=vv ((IntAt.zero w 143).below a0);have HR:=vv hR;have a3:=vv ((HB.o 143).trans (a0.mono (HB.o _).size));clear hR a0;go_wp2_with fail
 refine(q0I _ _ _ _ _ HR.o).mono ?_;rintro e w2 ⟨rfl,hO,a1⟩;have HO:=vv hO;have a4:=vv (HZ.o.below a1);have a2:=vn a3 a1;clear hO a1;go_wp2_with fail
 refine(q0r _ 0 0 (ld p d:Nat) _ _ n n (ld p d) _ a4.o (HO.o.rd HR.o.len.symm lr HR.o.sm) (fun a e=>by cases e;rfl) rfl (q1V (by omega))).mono ?_;rintro e w3 ⟨rfl,hI,hF⟩;go_wp2;go_ret
 exact⟨_,rfl,lr,hI,hF.below a2.o a2.o.size lr⟩
theorem RSign(g:Nat)(p:Int)(d:Nat)(w:World)(h:RatAt w g p d):
  Calls Tryz.prog 242 #[.pointer (some ⟨g,0,none⟩)] w fun e w'=>e=.returned (.int .i64 p.sign)/\w=w':=by
 have a0:=h.lt;have HN:=vv (Sign g 0 _ w h.num);have HS:=vv (q6D (p:=p) h.pos);clear h;go_enter Tryz.func242,Tryz.ntmps242
 go_wp2_with fail
 refine HN.o.mono ?_;rintro e w1 ⟨rfl,rfl⟩;rw[HS.o];go_wp2;go_ret
 exact⟨rfl,rfl⟩
theorem q3v(g:Nat)(b:Bool)(A B:Option Addr)(n c m d:Nat)(xs ys:List Nat)(w:World)(h:RatSh w g)(ha:Rd w A n c xs)(hb:Rd w B m d ys)(hD:0<val ys)(h0:val xs=0):
  Calls Tryz.prog 239 #[.pointer (some ⟨g,0,none⟩),.bool b,.slice A n c,.slice B m d] w (q2E g (sg b (val xs)) (val ys) w):=by
 have HH:=vv h;obtain⟨v,hv⟩:=h.int;have HV:=vv hv;have a2:=hv.lt;have HA:=vv (q10 A n c xs w ha);have HB:=vv (q10 B m d ys w hb);have HD:=vv hD;have H0:=vv h0;clear hv h ha hb hD h0;go_enter Tryz.func239,Tryz.ntmps239
 go_wp2_with fail
 refine HA.o.mono ?_;rintro e w' ⟨n1,rfl,rfl,hR⟩;obtain rfl:n1=0:=by rw[<- hR.words];exact q07.2 H0.o
 clear hR;go_wp2_with fail
 refine HB.o.mono ?_;rintro e w' ⟨m1,rfl,rfl,hR⟩;clear hR;go_wp2_with fail
 refine(q0r g 0 v 0 _ none 0 0 0 _ HV.o (Rd.nil _) (fun a e=>by cases e) rfl rfl).mono ?_;rintro e w1 hP;have hP:=hP.f HV.o;obtain⟨hi,x,hx⟩:=HH.o.num hP;have a0:=hi.lt;have a3:=hi.fz 2;have HF:=vv hP.2.2;have HI:=vv hi;obtain⟨rfl,-,-⟩:=hP;have a1:=vv hx;clear hi;go_wp2;go_ret
 refine⟨rfl,RatAt.made HI.o ⟨x,a1.o⟩ (q1w.nil _) HD.o (by omega) (Nat.gcd_one_right _) ?_,fs3 ?_⟩
 ·rw[H0.o];cases b<;>simp [sg]
 ·exact HF.o.trans (Fs.set2 HI.o _)
theorem q4k(g:Nat)(b:Bool)(A B:Option Addr)(n c m d:Nat)(xs ys:List Nat)(w:World)(h:RatSh w g)(ha:Rd w A n c xs)(hb:Rd w B m d ys)(hD:0<val ys)(h0:0<val xs)(hza:∀a,A=some a->a.off=0)(hzb:∀a,B=some a->a.off=0)
  (hst:Std w) (hn:n<549755813888) (hm:m<549755813888) :
  Calls Tryz.prog 239 #[.pointer (some ⟨g,0,none⟩),.bool b,.slice A n c,.slice B m d] w (q2E g (sg b (val xs)) (val ys) w):=by
 have HH:=vv h;obtain⟨v,hv⟩:=h.int;have HV:=vv hv;have e0:=hv.lt;have HA:=vv (q10 A n c xs w ha);have HB:=vv (q10 B m d ys w hb);have HD:=vv hD;have H0:=vv h0;have b8:=vv hst;have b9:=vv ha.lim;have c0:=vv hb.lim;have c3:=vv ha.len;have c5:=vv hb.len;have HG:=vv (q0B (n:=val xs) hD);have a0:=vv (q7N (b:=b) (N:=val xs) hD);have b0:Hid (0<val ys/Nat.gcd (val xs) (val ys)):=vv (Nat.div_pos (Nat.le_of_dvd hD (Nat.gcd_dvd_right _ _)) HG.o);clear hv h ha hb hD h0 hst;go_enter Tryz.func239,Tryz.ntmps239
 go_wp2_with fail
 refine HA.o.mono ?_;rintro e w' ⟨n1,rfl,rfl,hR⟩;have e1:n1<=n:=hR.trim_le b9.o (by rw[c3.o];exact lr);have e2:0<n1:=by
  rcases Nat.eq_zero_or_pos n1 with e|e
  ·have:=hR.words;rw[e] at this;have:=q07.1 this;have:=H0.o;omega
  ·exact e
 have e3:=hR.sm;have HR:=vv hR;clear hR;go_wp2_with fail
 refine HB.o.mono ?_;rintro e w' ⟨m1,rfl,rfl,hR⟩;have e4:m1<=m:=hR.trim_le c0.o (by rw[c5.o];exact lr);have b1:=vv hR;clear hR;have e5:((n1:Int)==0)=false:=by simp;omega
 go_wp2_with fail
 refine(q2S A B n1 m1 c d _ _ _ HR.o b1.o b8.o (by omega) (by omega)).mono ?_;rintro e w1 ⟨A1,k1,c1,rfl,hG,c6,a8⟩;have b2:=vv hG;have b3:=vv a8;have c7:=vv (HR.o.below a8 rfl);have a9:=vv (b1.o.below a8 rfl);clear hG;go_wp2_with fail
 refine q02 (fun _=>True) 7
  (.still 0 (.still 1 (.still 2 (.still 3 (.still 4 (.still 5 (.one 6 .done))))))) (by kernel_rfl) (by kernel_rfl) (fun _ _ d _ _ h=>by cases d<;>exact h) trivial (fun hS0=>?_)
 clear hS0
 iterate 6
  refine q00 (v:=?_) rfl (by rfl) ?_ ?_;rotate_left
  ·intro w e6;go_simp;with_reducible rfl
  simp only[Act.put,sa,sb,sc]
 refine q03 rfl (by rfl) (fun K hK=>?_);go_simp;refine(by_ A A1 n1 k1 c c1 _ _ _ c7.o.drew b2.o.drew HG.o (by omega)).mono ?_;rintro e w2 ⟨A2,k2,c2,rfl,hQ,a1,a4⟩;have a5:Hid (Below w.heap.size w w2):=vv ((q04 b3.o).trans (a4.mono (by simpa using b3.o.size)));have b4:∀a,A2=some a->a.off=0:=fun a e=>by
  rcases a1 with hf|hf
  ·exact(hf a e).2
  ·exact hza a (hf ▸ e)
 have HQ:=vv hQ;have c8:=vv b4;have c9:=vv (b2.o.drew.below a4 rfl);have a2:=vv (a9.o.drew.below a4 rfl);clear hQ b4 a1 a4;go_wp2_with fail
 refine hK.out _ _ trivial (fun b5=>?_);clear hK;refine q0a ?_;go_wp2_with fail
 refine(q0r g 0 v (sg b (val xs/Nat.gcd (val xs) (val ys))) _ A2 k2 c2 _ _ (HV.o.below a5.o) HQ.o c8.o (q0R _ _) (q1a _ _)).mono ?_;rintro e w3 hP;have hP:=hP.f (HV.o.below a5.o);have d0:=vv hP.2.2;have d1:=vv ((HH.o.below a5.o).num hP);have d2:=vv (c9.o.fs (fun a e=>(c6 a e).2) hP.2.2);have d3:=vv (a2.o.fs hzb hP.2.2);obtain⟨rfl,-,-⟩:=hP;go_wp2_with fail
 refine(by_ B A1 m1 k1 d c1 _ _ _ d3.o d2.o HG.o (by omega)).mono ?_;rintro e w4 ⟨A4,k4,c4,rfl,hQ,a3,a6⟩;have b6:∀a,A4=some a->a.off=0:=fun a e=>by
  rcases a3 with hf|hf
  ·exact(hf a e).2
  ·exact hzb a (hf ▸ e)
 have d4:=vv hQ;have d5:=vv b6;obtain⟨hi,x,hx⟩:=d1.o;have a7:=hi.below a6;have d6:=(a6.cell (p:=⟨g,2,none⟩) hi.lt).trans hx;have d7:=a7.lt;have e7:=a7.fz 2;have b7:=vv a7;have d8:=vv d6;have d9:Hid (Fs [(g,0,2)] w w4):=vv (((d0.o.after a5.o).trans (Fs.of_nil a6)).drop (fun p hp _=>by simpa using hp) (fun p hp=>by simpa using hp));clear hQ b6 a3 a6 hi a7 hx;go_wp2;go_ret
 refine⟨rfl,RatAt.made b7.o ⟨x,d8.o⟩ (d4.o.den b0.o d5.o) HD.o b0.o a0.o.1 a0.o.2,fs3 ?_⟩;exact d9.o.trans (Fs.set2 b7.o _)
theorem q96(g:Nat)(b:Bool)(A B:Option Addr)(n c m d:Nat)(xs ys:List Nat)(w:World)(h:RatSh w g)(ha:Rd w A n c xs)(hb:Rd w B m d ys)(hD:0<val ys)(hza:∀a,A=some a->a.off=0)(hzb:∀a,B=some a->a.off=0)
  (hst:Std w) (hn:n<549755813888) (hm:m<549755813888) :
  Calls Tryz.prog 239 #[.pointer (some ⟨g,0,none⟩),.bool b,.slice A n c,.slice B m d] w (q2E g (sg b (val xs)) (val ys) w):=by
 rcases Nat.eq_zero_or_pos (val xs) with h0|h0
 ·exact q3v g b A B n c m d xs ys w h ha hb hD h0
 ·exact q4k g b A B n c m d xs ys w h ha hb hD h0 hza hzb hst hn hm
theorem SetFrac(g gx gy:Nat)(u:Int)(D:Nat)(w:World)(h:RatSh w g)(hx:IntAt w gx 0 u)(hy:IntAt w gy 0 (D:Int))(hD:0<D)(hst:Std w)(hn:Sz u.natAbs)(hm:Sz D):
  Calls Tryz.prog 186 #[.pointer (some ⟨g,0,none⟩),.pointer (some ⟨gx,0,none⟩),.pointer (some ⟨gy,0,none⟩)] w (q2E g u D w):=by
 have a3:=hx.lt;have a4:=hy.lt;obtain⟨A,n,c,h0,h1,hr,hz⟩:=hx.ex;obtain⟨B,m,d,k0,k1,hs,hy⟩:=hy.ex;rw[decide_eq_false (by omega)] at k0;have a7:Rd w B m d (toL D):=hs;have HA:=vv hr;have HB:=vv a7;have HH:=vv h;have b1:=vv hst;have HD:=vv hD;have HN:=vv (hr.sz hn);have HM:=vv (a7.sz hm);clear hr hz hs a7 hy h hx hn hm hst hD;have fin:∀w1 w2 A' B',Below w.heap.size w w1->Below w1.heap.size w1 w2->Rd w2 A' n n (toL u.natAbs)->Rd w2 B' m m (toL D)->(∀a,A'=some a->a.off=0)->(∀a,B'=some a->a.off=0) ->
   Calls Tryz.prog 239 #[.pointer (some ⟨g,0,none⟩),.bool (decide (u<0)),.slice A' n n,.slice B' m m] w2 (q2E g u D w):=by
  intro w1 w2 A' B' a9 b2 ha hb b3 b4;have a8:=a9.trans (b2.mono a9.size);refine(q96 g _ A' B' n n m m _ _ w2 (HH.o.below a8) ha hb (by rw[q01];exact HD.o) b3 b4 (b1.o.fs (Fs.of_nil a8)) (by have:=HN.o;omega) (by have:=HM.o;omega)).mono ?_;rintro e w' ⟨he,hR,hF⟩;rw[q01,q01,q3Z] at hR;exact⟨he,hR,hF.after a8⟩
 have Fin:=vv fin;clear fin;go_enter Tryz.func186,Tryz.ntmps186
 go_wp2_with fail
 refine q02 (fun w'=>w'.cell? ⟨gx,0,none⟩=some (.bool (decide (u<0)))/\w'.cell? ⟨gx,1,none⟩=some (.slice A n c)/\w'.cell? ⟨gy,0,none⟩=some (.bool false)/\w'.cell? ⟨gy,1,none⟩=some (.slice B m d)) 20
  (.still 0 (.still 1 (.still 2 (.still 3 (.still 4 (.still 5 (.still 6 (.still 7 (.still 8 (.still 9 (.still 10 (.still 11 (.still 12 (.still 13 (.still 15 (.still 16 (.still 17 (.still 18 (.one 14 (.one 19 .done)))))))))))))))))))) (by kernel_rfl) (by kernel_rfl) (fun _ _ d _ _ h=>by cases d<;>exact h) ⟨h0,h1,k0,k1⟩ (fun hS0=>?_)
 iterate 18
  refine q00 (v:=?_) rfl (by rfl) ?_ ?_;rotate_left
  ·intro w b8;go_simp;with_reducible rfl
  simp only[Act.put,sa,sb,sc]
 refine q03 rfl (by rfl) (fun K hK=>?_);go_simp;refine(q0I _ _ _ _ _ HA.o.drew).mono ?_;rintro e w1 ⟨rfl,hO,a1⟩;have HO:=vv (hO.rd HA.o.len.symm lr HA.o.sm);have a0:Hid (Below w.heap.size w w1):=vv ⟨a1.os,a1.tape,a1.output,a1.size,a1.block⟩;clear hO a1;go_wp2_with fail
 refine hK.out _ _ ⟨(a0.o.cell (p:=⟨gx,0,none⟩) a3).trans h0,(a0.o.cell (p:=⟨gx,1,none⟩) a3).trans h1,(a0.o.cell (p:=⟨gy,0,none⟩) a4).trans k0,(a0.o.cell (p:=⟨gy,1,none⟩) a4).trans k1⟩ (fun a2=>?_);clear hK;refine q03 rfl (by rfl) (fun K hK=>?_);go_simp;refine(q0I _ _ _ _ _ (HB.o.below a0.o rfl)).mono ?_;rintro e w2 ⟨rfl,b0,a5⟩;have b5:=vv (b0.rd HB.o.len.symm lr HB.o.sm);have b6:=vv (HO.o.below a5 rfl);have b7:=vv a5;have a6:=vn a0 a5;clear b0 a5;go_wp2_with fail
 refine hK.out _ _ ⟨(a6.o.cell (p:=⟨gx,0,none⟩) a3).trans h0,(a6.o.cell (p:=⟨gx,1,none⟩) a3).trans h1,(a6.o.cell (p:=⟨gy,0,none⟩) a4).trans k0,(a6.o.cell (p:=⟨gy,1,none⟩) a4).trans k1⟩ (fun a2=>?_);clear hK;refine q0a ?_;go_wp2_with fail
 refine(Fin.o w1 w2 _ _ a0.o b7.o b6.o b5.o (fun a e=>by cases e;rfl) (fun a e=>by cases e;rfl)).mono ?_;rintro e w3 ⟨rfl,hR,hF⟩;have HR:=vv hR;go_wp2;go_ret
 exact⟨rfl,HR.o,hF⟩
end Go.Proofs.YtcdimmblnbkjjaaGreatDoor.A
