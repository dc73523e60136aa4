/- Lemmas. -/
import Derived.Test.YtppgcnhlpnmieaaGreatDoorPartAU
import Derived.Test.YtppgcnhlpnmieaaGreatDoorPartAK
import Derived.Test.YtppgcnhlpnmieaaGreatDoorPartAI
import Derived.Test.YtppgcnhlpnmieaaGreatDoorPartAJ
import Derived.Test.YtppgcnhlpnmieaaGreatDoorPartAC
import Derived.Test.YtppgcnhlpnmieaaGreatDoorPartAR
import Derived.Test.YtppgcnhlpnmieaaGreatDoorPartAV
import Derived.Test.YtppgcnhlpnmieaaGreatDoorPartAO
set_option linter.all false
set_option maxHeartbeats 1000000
set_option maxRecDepth 100000
namespace Go.Proofs.YtppgcnhlpnmieaaGreatDoor.A
open Go Go.RowKit
theorem Mul(g o gx ox gy oy:Nat)(v u1 u2:Int)(w:World)(h:IntAt w g o v)(hx:IntAt w gx ox u1)(hy:IntAt w gy oy u2)(hn:Sz u1.natAbs)(hm:Sz u2.natAbs):
  Calls Tryz.prog 191 #[.pointer (some ⟨g,o,none⟩),.pointer (some ⟨gx,ox,none⟩),.pointer (some ⟨gy,oy,none⟩)] w (q0i g o (u1*u2) w):=by
 have HI:=vv h;have a0:=hx.lt;have a1:=hy.lt;obtain⟨A,n,c,h0,h1,hr,hz⟩:=hx.ex;obtain⟨B,m,d,k0,k1,hs,hy⟩:=hy.ex;have HM:=vv (q0I A B n m c d _ _ _ hr.drew hs.drew (by have:=hr.sz hn;have:=hs.sz hm;omega));clear hr hz hs hy h hx hn hm;go_enter Tryz.func191,Tryz.ntmps191
 go_wp2_with fail
 refine q01 (fun w'=>w'.cell? ⟨gx,ox,none⟩=some (.bool (decide (u1<0)))/\w'.cell? ⟨gx,ox+1,none⟩=some (.slice A n c)/\w'.cell? ⟨gy,oy,none⟩=some (.bool (decide (u2<0)))/\w'.cell? ⟨gy,oy+1,none⟩=some (.slice B m d)) 19
  (.still 0 (.still 1 (.still 2 (.still 3 (.still 4 (.still 5 (.still 6 (.still 7 (.still 8 (.still 9 (.still 10 (.still 11 (.still 12 (.still 13 (.still 14 (.still 15 (.still 16 (.still 17 (.one 18 .done))))))))))))))))))) (by kernel_rfl) (by kernel_rfl) (fun _ _ d _ _ h=>by cases d<;>exact h) ⟨h0,h1,k0,k1⟩ (fun hS0=>?_)
 iterate 18
  refine q02 (v:=?_) rfl (by rfl) ?_ ?_;rotate_left
  ·intro w a4;go_simp;with_reducible rfl
  simp only[Act.put,sa,sb,sc]
 refine q03 rfl (by rfl) (fun K hK=>?_);go_simp;refine HM.o.mono ?_;rintro e w1 ⟨A',m',c',rfl,hR,a3,hB⟩;go_wp2_with fail
 refine hK.out _ _ ⟨(hB.cell (p:=⟨gx,ox,none⟩) a0).trans h0,(hB.cell (p:=⟨gx,ox+1,none⟩) a0).trans h1,(hB.cell (p:=⟨gy,oy,none⟩) a1).trans k0,(hB.cell (p:=⟨gy,oy+1,none⟩) a1).trans k1⟩ (fun a2=>?_);clear hK;refine q08 ?_;go_wp2_with fail
 refine(q0m g o v (u1*u2) _ A' m' c' (u1.natAbs*u2.natAbs) _ (HI.o.drew.below hB) (by rw[q00,q00] at hR;exact hR) (fun a e=>(a3 a e).2) (Int.natAbs_mul u1 u2) ?_).mono ?_
 ·rw[q33];rfl
 rintro e w2 ⟨rfl,hI,hF⟩;go_wp2;go_ret
 exact⟨rfl,hI,((Fm.of_below hB HI.o.lt).trans hF).undrew⟩
theorem q3r(g o:Nat)(v u:Int)(b:Bool)(N M:Nat)(A B:Option Addr)(n m c d:Nat)(w:World)(h:IntAt w g o v)(ha:Rd w A n c (toL N))(hb:Rd w B m d (toL M))(hn:Sz N)(hm:Sz M)(hu:u=sg b (N+M)):
  Calls Tryz.prog 314 #[.pointer (some ⟨g,o,none⟩),.slice A n c,.bool b,.slice B m d,.bool b] w (q0i g o u w):=by
 have HI:=vv h;have HM:=vv (q1j A B n m c d _ _ w ha hb (by have:=ha.sz hn;omega) (by have:=hb.sz hm;omega));have HU:=vv hu;clear ha hb hn hm h hu;have a1:(b==b)=true:=by cases b<;>rfl
 go_enter Tryz.func314,Tryz.ntmps314
 go_wp2_with fail
 refine HM.o.mono ?_;rintro e w1 ⟨A',m',c',rfl,hR,a0,hB⟩;rw[q00,q00] at hR;have HR:=vv hR;clear hR;go_wp2_with fail
 refine(q0m g o v u b A' m' c' (N+M) _ (HI.o.below hB) HR.o (fun a e=>(a0 a e).2) (by rw[HU.o,q0C]) (by rw[HU.o,q0W])).mono ?_;rintro e w2 ⟨rfl,hI,hF⟩;go_wp2;go_ret
 exact⟨rfl,hI,(Fm.of_below hB HI.o.lt).trans hF⟩
theorem q3g(g o:Nat)(v u:Int)(b:Bool)(N M:Nat)(t:Int)(A B:Option Addr)(n m c d:Nat)(w:World)(h:IntAt w g o v)(ha:Rd w A n c (toL N))(hb:Rd w B m d (toL M))(ht:q1e N M=t)(h0:t=0\/t=1)(hle:M<=N)(hu:u=sg b (N-M)):
  Calls Tryz.prog 314 #[.pointer (some ⟨g,o,none⟩),.slice A n c,.bool b,.slice B m d,.bool (!b)] w (q0i g o u w):=by
 have HI:=vv h;have HC:=vv (q0N A B n m c d _ _ w ha hb (by rw[q00]) (by rw[q00]));have HA:=vv ha;have HB:=vv hb;have HU:=vv hu;have HL:=vv hle;have HT:=vv ht;have a3:(b==!b)=false:=by cases b<;>rfl
 clear ha hb h hu hle ht;rcases h0 with rfl|rfl;all_goals
  go_enter Tryz.func314,Tryz.ntmps314
  go_wp2_with fail
  refine HC.o.mono ?_;rintro e w1 ⟨rfl,hB⟩;rw[q00,q00,HT.o];go_wp2_with fail
  refine(q0R A B n m c d _ _ _ (HA.o.below hB rfl) (HB.o.below hB rfl) (by rw[q00,q00];exact HL.o) (HB.o.le_of HA.o HL.o)).mono ?_;rintro e w2 ⟨A',m',c',rfl,hR,a2,a0⟩;rw[q00,q00] at hR;have HR:=vv hR;have a1:=vv (hB.trans (a0.mono hB.size));clear hR a0;go_wp2_with fail
  refine(q0m g o v u b A' m' c' (N-M) _ (HI.o.below a1.o) HR.o (fun a e=>(a2 a e).2) (by rw[HU.o,q0C]) (by rw[HU.o,q0W])).mono ?_;rintro e w3 ⟨rfl,hI,hF⟩;go_wp2;go_ret
  exact⟨rfl,hI,(Fm.of_below a1.o HI.o.lt).trans hF⟩
theorem q5d(g o:Nat)(v u:Int)(b:Bool)(N M:Nat)(A B:Option Addr)(n m c d:Nat)(w:World)(h:IntAt w g o v)(ha:Rd w A n c (toL N))(hb:Rd w B m d (toL M))(ht:q1e N M = -1)(hle:N<=M)(hu:u=sg (!b) (M-N)):
  Calls Tryz.prog 314 #[.pointer (some ⟨g,o,none⟩),.slice A n c,.bool b,.slice B m d,.bool (!b)] w (q0i g o u w):=by
 have HI:=vv h;have HC:=vv (q0N A B n m c d _ _ w ha hb (by rw[q00]) (by rw[q00]));have HA:=vv ha;have HB:=vv hb;have HU:=vv hu;have HL:=vv hle;have HT:=vv ht;have a3:(b==!b)=false:=by cases b<;>rfl
 clear ha hb h hu hle ht;go_enter Tryz.func314,Tryz.ntmps314
 go_wp2_with fail
 refine HC.o.mono ?_;rintro e w1 ⟨rfl,hB⟩;rw[q00,q00,HT.o];go_wp2_with fail
 refine(q0R B A m n d c _ _ _ (HB.o.below hB rfl) (HA.o.below hB rfl) (by rw[q00,q00];exact HL.o) (HA.o.le_of HB.o HL.o)).mono ?_;rintro e w2 ⟨A',m',c',rfl,hR,a2,a0⟩;rw[q00,q00] at hR;have HR:=vv hR;have a1:=vv (hB.trans (a0.mono hB.size));clear hR a0;go_wp2_with fail
 refine(q0m g o v u (!b) A' m' c' (M-N) _ (HI.o.below a1.o) HR.o (fun a e=>(a2 a e).2) (by rw[HU.o,q0C]) (by rw[HU.o,q0W])).mono ?_;rintro e w3 ⟨rfl,hI,hF⟩;go_wp2;go_ret
 exact⟨rfl,hI,(Fm.of_below a1.o HI.o.lt).trans hF⟩
theorem qad(g o:Nat)(v:Int)(a b:Bool)(N M:Nat)(A B:Option Addr)(n m c d:Nat)(w:World)(h:IntAt w g o v)(ha:Rd w A n c (toL N))(hb:Rd w B m d (toL M))(hn:Sz N)(hm:Sz M):
  Calls Tryz.prog 314 #[.pointer (some ⟨g,o,none⟩),.slice A n c,.bool a,.slice B m d,.bool b] w (q0i g o (sg a N+sg b M) w):=by
 by_cases e:b=a
 ·subst e;exact q3r g o v _ b N M A B n m c d w h ha hb hn hm (by cases b<;>simp [sg]<;>omega)
 ·obtain rfl:b=!a:=by cases a<;>cases b<;>simp_all
  rcases Nat.lt_trichotomy N M with k|k|k
  ·exact q5d g o v _ a N M A B n m c d w h ha hb (by unfold q1e;simp [k]) (by omega) (by cases a<;>simp [sg]<;>omega)
  ·exact q3g g o v _ a N M 0 A B n m c d w h ha hb (by unfold q1e;simp [k]) (.inl rfl) (by omega) (by cases a<;>simp [sg]<;>omega)
  ·exact q3g g o v _ a N M 1 A B n m c d w h ha hb (by unfold q1e;simp [k];omega) (.inr rfl) (by omega) (by cases a<;>simp [sg]<;>omega)
theorem Add(g o gx ox gy oy:Nat)(v u1 u2:Int)(w:World)(h:IntAt w g o v)(hx:IntAt w gx ox u1)(hy:IntAt w gy oy u2)(hn:Sz u1.natAbs)(hm:Sz u2.natAbs):
  Calls Tryz.prog 258 #[.pointer (some ⟨g,o,none⟩),.pointer (some ⟨gx,ox,none⟩),.pointer (some ⟨gy,oy,none⟩)] w (q0i g o (u1+u2) w):=by
 obtain⟨A,n,c,h0,h1,hr,hz⟩:=hx.ex;obtain⟨B,m,d,k0,k1,hs,hy⟩:=hy.ex;have HM:=vv (qad g o v (decide (u1<0)) (decide (u2<0)) _ _ A B n m c d w.drew h.drew hr.drew hs.drew hn hm);clear hr hz hs hy h hx hn hm;go_enter Tryz.func258,Tryz.ntmps258
 go_wp2_with fail
 refine q01 (fun w'=>w'.cell? ⟨gx,ox,none⟩=some (.bool (decide (u1<0)))/\w'.cell? ⟨gx,ox+1,none⟩=some (.slice A n c)/\w'.cell? ⟨gy,oy,none⟩=some (.bool (decide (u2<0)))/\w'.cell? ⟨gy,oy+1,none⟩=some (.slice B m d)) 17
  (.still 0 (.still 1 (.still 2 (.still 3 (.still 4 (.still 5 (.still 6 (.still 7 (.still 8 (.still 9 (.still 10 (.still 11 (.still 12 (.still 13 (.still 14 (.still 15 (.still 16 .done))))))))))))))))) (by kernel_rfl) (by kernel_rfl) (fun _ _ d _ _ h=>by cases d<;>exact h) ⟨h0,h1,k0,k1⟩ (fun hS0=>?_)
 iterate 17
  refine q02 (v:=?_) rfl (by rfl) ?_ ?_;rotate_left
  ·intro w a0;go_simp;with_reducible rfl
  simp only[Act.put,sa,sb,sc]
 refine q08 ?_;go_wp2_with fail
 refine HM.o.mono ?_;rintro e w1 ⟨rfl,hI,hF⟩;rw[q4j,q4j] at hI;go_wp2;go_ret
 exact⟨rfl,hI,hF.undrew⟩
theorem Lsh(g o gx ox k:Nat)(v u:Int)(w:World)(h:IntAt w g o v)(hx:IntAt w gx ox u)(hn:Sz u.natAbs)(hk:k<1000000000000):
  Calls Tryz.prog 192 #[.pointer (some ⟨g,o,none⟩),.pointer (some ⟨gx,ox,none⟩),.int .u64 (k:Int)] w (q0i g o (u*2^k) w):=by
 have HI:=vv h;have a0:=hx.lt;obtain⟨A,n,c,h0,h1,hr,hz⟩:=hx.ex;have HM:=vv (up A n c _ k _ rfl _ hr.drew (by have:=hr.sz hn;omega));have a3:IntKind.i64.wrap (k:Int)=(k:Int):=by rw[IntKind.wrap_i64];omega
 clear hr hz h hx hn;go_enter Tryz.func192,Tryz.ntmps192
 go_wp2_with fail
 refine q01 (fun w'=>w'.cell? ⟨gx,ox,none⟩=some (.bool (decide (u<0)))/\w'.cell? ⟨gx,ox+1,none⟩=some (.slice A n c)) 12
  (.still 0 (.still 1 (.still 2 (.still 3 (.still 4 (.still 5 (.still 6 (.still 7 (.still 8 (.still 9 (.still 10 (.one 11 .done)))))))))))) (by kernel_rfl) (by kernel_rfl) (fun _ _ d _ _ h=>by cases d<;>exact h) ⟨h0,h1⟩ (fun hS0=>?_)
 iterate 11
  refine q02 (v:=?_) rfl (by rfl) ?_ ?_;rotate_left
  ·intro w a4;go_simp;with_reducible rfl
  simp only[Act.put,sa,sb,sc]
 refine q03 rfl (by rfl) (fun K hK=>?_);go_simp;refine HM.o.mono ?_;rintro e w1 ⟨A',m',c',rfl,hR,a2,hB⟩;go_wp2_with fail
 refine hK.out _ _ ⟨(hB.cell (p:=⟨gx,ox,none⟩) a0).trans h0,(hB.cell (p:=⟨gx,ox+1,none⟩) a0).trans h1⟩ (fun a1=>?_);clear hK;refine q08 ?_;go_wp2_with fail
 refine(q0m g o v (u*2^k) _ A' m' c' (u.natAbs*2^k) _ (HI.o.drew.below hB) (by rw[q00] at hR;exact hR) (fun a e=>(a2 a e).2) (by rw[Int.natAbs_mul,Int.natAbs_pow];rfl) ?_).mono ?_
 ·exact q6D u k
 rintro e w2 ⟨rfl,hI,hF⟩;go_wp2;go_ret
 exact⟨rfl,hI,((Fm.of_below hB HI.o.lt).trans hF).undrew⟩
theorem Uint64(g o:Nat)(u:Int)(w:World)(h:IntAt w g o u)(hu:u.natAbs<18446744073709551616):
  Calls Tryz.prog 261 #[.pointer (some ⟨g,o,none⟩)] w fun e w'=>e=.returned (.int .u64 ((u.natAbs:Nat):Int))/\w=w':=by
 obtain⟨A,n,c,h0,h1,hr,hz⟩:=h.ex;have HM:=vv (q4n A n c _ w hr);have HV:=vv (two_words hu);clear hr hz h;go_enter Tryz.func261,Tryz.ntmps261
 go_wp2_with fail
 refine HM.o.mono ?_;rintro e w1 ⟨rfl,rfl⟩;rw[HV.o];go_wp2;go_ret
 exact⟨rfl,rfl⟩
theorem NewInt(x:Int)(w:World)(h1:-9223372036854775808<=x)(h2:x<=9223372036854775807):
  Calls Tryz.prog 95 #[.int .i64 x] w (q1d x w):=by
 go_enter Tryz.func95,Tryz.ntmps95
 go_wp2_with fail
 refine(SetInt64 _ _ 0 x _ (IntAt.zero w 206) h1 h2).mono ?_;rintro e w1 ⟨rfl,hI,hF⟩;go_wp2;go_ret
 exact⟨_,rfl,lr,hI,hF.below ((Below.refl _ w).alloc lr _) (by simp) lr⟩
theorem q9g(g o gx ox N M n c m d:Nat)(A B:Option Addr)(w:World)(h0:w.cell? ⟨g,o,none⟩=some (.bool false))(h1:w.cell? ⟨g,o+1,none⟩=some (.slice A n c))(k0:w.cell? ⟨gx,ox,none⟩=some (.bool false))(k1:w.cell? ⟨gx,ox+1,none⟩=some (.slice B m d))
  (ha:Rd w A n c (toL N)) (hb:Rd w B m d (toL M)) :
  Calls Tryz.prog 248 #[.pointer (some ⟨g,o,none⟩),.pointer (some ⟨gx,ox,none⟩)] w fun e w'=>e=.returned (.int .i64 (q1e N M))/\Below w.heap.size w w':=by
 have HC:=vv (q0N A B n m c d _ _ w.drew.drew (ha.like rfl) (hb.like rfl) (by rw[q00]) (by rw[q00]));clear ha hb;go_enter Tryz.func248,Tryz.ntmps248
 go_wp2_with fail
 refine q01 (fun w'=>w'.cell? ⟨g,o,none⟩=some (.bool false)/\w'.cell? ⟨gx,ox,none⟩=some (.bool false)) 9
  (.still 0 (.still 1 (.still 2 (.still 3 (.still 4 (.still 5 (.still 6 (.still 7 (.still 8 .done))))))))) (by kernel_rfl) (by kernel_rfl) (fun _ _ d _ _ h=>by cases d<;>exact h) ⟨h0,k0⟩ (fun hS0=>?_)
 iterate 9
  refine q02 (v:=?_) rfl (by rfl) ?_ ?_;rotate_left
  ·intro w a0;go_simp;with_reducible rfl
  simp only[Act.put,sa,sb,sc]
 refine q0G rfl ?_;go_wp2_with fail
 refine q01 (fun w'=>w'.cell? ⟨g,o+1,none⟩=some (.slice A n c)/\w'.cell? ⟨gx,ox+1,none⟩=some (.slice B m d)) 8
  (.still 0 (.still 1 (.still 2 (.still 3 (.still 4 (.still 5 (.still 6 (.still 7 .done)))))))) (by kernel_rfl) (by kernel_rfl) (fun _ _ d _ _ h=>by cases d<;>exact h) ⟨h1,k1⟩ (fun hS0=>?_)
 iterate 8
  refine q02 (v:=?_) rfl (by rfl) ?_ ?_;rotate_left
  ·intro w a0;go_simp;with_reducible rfl
  simp only[Act.put,sa,sb,sc]
 refine q08 ?_;go_wp2_with fail
 refine HC.o.mono ?_;rintro e w1 ⟨rfl,hB⟩;rw[q00,q00];go_wp2;go_ret
 exact⟨rfl,⟨hB.os,hB.tape,hB.output,hB.size,hB.block⟩⟩
theorem q9f(g o gx ox N M n c m d:Nat)(A B:Option Addr)(w:World)(h0:w.cell? ⟨g,o,none⟩=some (.bool true))(h1:w.cell? ⟨g,o+1,none⟩=some (.slice A n c))(k0:w.cell? ⟨gx,ox,none⟩=some (.bool true))(k1:w.cell? ⟨gx,ox+1,none⟩=some (.slice B m d))
  (ha:Rd w A n c (toL N)) (hb:Rd w B m d (toL M)) :
  Calls Tryz.prog 248 #[.pointer (some ⟨g,o,none⟩),.pointer (some ⟨gx,ox,none⟩)] w fun e w'=>e=.returned (.int .i64 (-q1e N M))/\Below w.heap.size w w':=by
 have HC:=vv (q0N A B n m c d _ _ w.drew.drew (ha.like rfl) (hb.like rfl) (by rw[q00]) (by rw[q00]));have HW:IntKind.i64.wrap (-q1e N M) = -q1e N M:=by have:=q6u N M;rw[IntKind.wrap_i64];omega
 clear ha hb;go_enter Tryz.func248,Tryz.ntmps248
 go_wp2_with fail
 refine q01 (fun w'=>w'.cell? ⟨g,o,none⟩=some (.bool true)/\w'.cell? ⟨gx,ox,none⟩=some (.bool true)) 9
  (.still 0 (.still 1 (.still 2 (.still 3 (.still 4 (.still 5 (.still 6 (.still 7 (.still 8 .done))))))))) (by kernel_rfl) (by kernel_rfl) (fun _ _ d _ _ h=>by cases d<;>exact h) ⟨h0,k0⟩ (fun hS0=>?_)
 iterate 9
  refine q02 (v:=?_) rfl (by rfl) ?_ ?_;rotate_left
  ·intro w a0;go_simp;with_reducible rfl
  simp only[Act.put,sa,sb,sc]
 refine q0G rfl ?_;go_wp2_with fail
 refine q01 (fun w'=>w'.cell? ⟨g,o+1,none⟩=some (.slice A n c)/\w'.cell? ⟨gx,ox+1,none⟩=some (.slice B m d)) 8
  (.still 0 (.still 1 (.still 2 (.still 3 (.still 4 (.still 5 (.still 6 (.still 7 .done)))))))) (by kernel_rfl) (by kernel_rfl) (fun _ _ d _ _ h=>by cases d<;>exact h) ⟨h1,k1⟩ (fun hS0=>?_)
 iterate 8
  refine q02 (v:=?_) rfl (by rfl) ?_ ?_;rotate_left
  ·intro w a0;go_simp;with_reducible rfl
  simp only[Act.put,sa,sb,sc]
 refine q08 ?_;go_wp2_with fail
 refine HC.o.mono ?_;rintro e w1 ⟨rfl,hB⟩;rw[q00,q00];go_wp2;go_ret
 exact⟨rfl,⟨hB.os,hB.tape,hB.output,hB.size,hB.block⟩⟩
theorem q5X(g o gx ox:Nat)(a:Bool)(w:World)(h0:w.cell? ⟨g,o,none⟩=some (.bool a))(k0:w.cell? ⟨gx,ox,none⟩=some (.bool !a)):
  Calls Tryz.prog 248 #[.pointer (some ⟨g,o,none⟩),.pointer (some ⟨gx,ox,none⟩)] w fun e w'=>e=.returned (.int .i64 (if a then -1 else 1))/\Below w.heap.size w w':=by
 cases a
 all_goals
  go_enter Tryz.func248,Tryz.ntmps248
  go_wp2_with fail
 ·refine q01 (fun w'=>w'.cell? ⟨g,o,none⟩=some (.bool false)/\w'.cell? ⟨gx,ox,none⟩=some (.bool true)) 9
   (.still 0 (.still 1 (.still 2 (.still 3 (.still 4 (.still 5 (.still 6 (.still 7 (.still 8 .done))))))))) (by kernel_rfl) (by kernel_rfl) (fun _ _ d _ _ h=>by cases d<;>exact h) ⟨h0,k0⟩ (fun hS0=>?_)
  iterate 9
   refine q02 (v:=?_) rfl (by rfl) ?_ ?_;rotate_left
   ·intro w a0;go_simp;with_reducible rfl
   simp only[Act.put,sa,sb,sc]
  refine q0G rfl ?_;go_wp2;go_ret
  exact⟨rfl,q04 (Below.refl _ _)⟩
 ·refine q01 (fun w'=>w'.cell? ⟨g,o,none⟩=some (.bool true)/\w'.cell? ⟨gx,ox,none⟩=some (.bool false)) 9
   (.still 0 (.still 1 (.still 2 (.still 3 (.still 4 (.still 5 (.still 6 (.still 7 (.still 8 .done))))))))) (by kernel_rfl) (by kernel_rfl) (fun _ _ d _ _ h=>by cases d<;>exact h) ⟨h0,k0⟩ (fun hS0=>?_)
  iterate 9
   refine q02 (v:=?_) rfl (by rfl) ?_ ?_;rotate_left
   ·intro w a0;go_simp;with_reducible rfl
   simp only[Act.put,sa,sb,sc]
  refine q0G rfl ?_;go_wp2;go_ret
  exact⟨rfl,q04 (Below.refl _ _)⟩
theorem Cmp(g o gx ox:Nat)(u1 u2:Int)(w:World)(h:IntAt w g o u1)(hx:IntAt w gx ox u2):
  Calls Tryz.prog 248 #[.pointer (some ⟨g,o,none⟩),.pointer (some ⟨gx,ox,none⟩)] w fun e w'=>e=.returned (.int .i64 (q3p u1 u2))/\Below w.heap.size w w':=by
 obtain⟨A,n,c,h0,h1,hr,hz⟩:=h.ex;obtain⟨B,m,d,k0,k1,hs,hy⟩:=hx.ex;by_cases e1:u1<0<;>by_cases e2:u2<0
 ·rw[decide_eq_true e1] at h0;rw[decide_eq_true e2] at k0;rw[q93 e1 e2];exact q9f g o gx ox _ _ n c m d A B w h0 h1 k0 k1 hr hs
 ·rw[decide_eq_true e1] at h0;rw[decide_eq_false e2] at k0;rw[q3n (by omega)];exact q5X g o gx ox true w h0 k0
 ·rw[decide_eq_false e1] at h0;rw[decide_eq_true e2] at k0;rw[q3o (by omega)];exact q5X g o gx ox false w h0 k0
 ·rw[decide_eq_false e1] at h0;rw[decide_eq_false e2] at k0;rw[q4a e1 e2];exact q9g g o gx ox _ _ n c m d A B w h0 h1 k0 k1 hr hs
theorem Bit0(g o:Nat)(u:Int)(w:World)(h:IntAt w g o u):
  Calls Tryz.prog 256 #[.pointer (some ⟨g,o,none⟩),.int .i64 0] w fun e w'=>e=.returned (.int .u64 ((u.natAbs%2:Nat):Int))/\w=w':=by
 obtain⟨A,n,c,h0,h1,hr,hz⟩:=h.ex;have a1:=hr.sm;have hw:=hr.words;clear hz h h0;rcases Nat.eq_zero_or_pos n with rfl|hn
 ·have hu:=q05.1 hw;rw[hu];clear hw hr;go_enter Tryz.func256,Tryz.ntmps256
  go_wp2;go_ret
  exact⟨rfl,rfl⟩
 ·obtain⟨b,off,rfl,hb,hc⟩:=hr.cell hn;have a0:=hc 0 hn;rw[Nat.add_zero] at a0;have hl:=hr.nth_lt 0;have HB:=vv (q6w (nth (toL u.natAbs) 0) hl);have HE:=vv (q3w u.natAbs);clear hc hw hr;go_enter Tryz.func256,Tryz.ntmps256
  go_wp2;go_ret
  refine⟨q0T ?_,rfl⟩;rw[HB.o,HE.o,IntKind.wrap_u64];omega
def q4D(g o gr or:Nat)(q r:Int)(w:World)(e:Ending)(w':World):Prop:=
 e=.returned (.tuple #[.pointer (some ⟨g,o,none⟩),.pointer (some ⟨gr,or,none⟩)])/\IntAt w' g o q/\IntAt w' gr or r/\Fs [(gr,or,2),(g,o,2)] w w'
theorem QuoRem(g o gx ox gy oy gr or:Nat)(v u1 u2 ur:Int)(w:World)(h:IntAt w g o v)(hx:IntAt w gx ox u1)(hy:IntAt w gy oy u2)(hr:IntAt w gr or ur)(hne:g≠gr)(h0:u2≠0)(hn:Sz u1.natAbs):
  Calls Tryz.prog 255 #[.pointer (some ⟨g,o,none⟩),.pointer (some ⟨gx,ox,none⟩),.pointer (some ⟨gy,oy,none⟩),.pointer (some ⟨gr,or,none⟩)] w
   (q4D g o gr or (sg (decide (u1<0) != decide (u2<0)) (u1.natAbs/u2.natAbs)) (sg (decide (u1<0)) (u1.natAbs%u2.natAbs)) w):=by
 have HI:=vv h;have HR:=vv hr;have a8:=hx.lt;have a9:=hy.lt;obtain⟨A,n,c,h0,h1,ha,hz⟩:=hx.ex;obtain⟨B,m,d,k0,k1,hb,hy⟩:=hy.ex;have HM:=vv (q1v A B n m c d _ _ w.drew.drew (ha.like rfl) (hb.like rfl) (by omega) (by have:=ha.sz hn;omega));clear ha hz hb hy h hx hn hr;go_enter Tryz.func255,Tryz.ntmps255
 go_wp2_with fail
 refine q01 (fun w'=>w'.cell? ⟨gx,ox,none⟩=some (.bool (decide (u1<0)))/\w'.cell? ⟨gy,oy,none⟩=some (.bool (decide (u2<0)))) 9
  (.still 0 (.still 1 (.still 2 (.still 3 (.still 4 (.still 5 (.still 6 (.still 7 (.still 8 .done))))))))) (by kernel_rfl) (by kernel_rfl) (fun _ _ d _ _ h=>by cases d<;>exact h) ⟨h0,k0⟩ (fun hS0=>?_)
 iterate 9
  refine q02 (v:=?_) rfl (by rfl) ?_ ?_;rotate_left
  ·intro w a0;go_simp;with_reducible rfl
  simp only[Act.put,sa,sb,sc]
 refine q08 ?_;go_wp2_with fail
 refine q01 (fun w'=>w'.cell? ⟨gx,ox+1,none⟩=some (.slice A n c)/\w'.cell? ⟨gy,oy+1,none⟩=some (.slice B m d)) 14
  (.still 0 (.still 1 (.still 2 (.still 3 (.still 4 (.still 5 (.still 6 (.still 7 (.one 8 (.still 9 (.still 10 (.still 11 (.still 12 (.still 13 .done)))))))))))))) (by kernel_rfl) (by kernel_rfl) (fun _ _ d _ _ h=>by cases d<;>exact h) ⟨h1,k1⟩ (fun hS0=>?_)
 iterate 8
  refine q02 (v:=?_) rfl (by rfl) ?_ ?_;rotate_left
  ·intro w a0;go_simp;with_reducible rfl
  simp only[Act.put,sa,sb,sc]
 refine q03 rfl (by rfl) (fun K hK=>?_);go_simp;refine HM.o.mono ?_;rintro e w1 ⟨A1,m1,c1,A2,m2,c2,rfl,a1,a2,a3,b0,hB⟩;have HB:Hid (Below w.heap.size w w1):=vv ⟨hB.os,hB.tape,hB.output,hB.size,hB.block⟩;have b1:=vv a1;have b2:=vv a2;clear a1 a2 hB;go_wp2_with fail
 refine hK.out _ _ ⟨(HB.o.cell (p:=⟨gx,ox+1,none⟩) a8).trans h1,(HB.o.cell (p:=⟨gy,oy+1,none⟩) a9).trans k1⟩ (fun a4=>?_);clear hK
 iterate 5
  refine q02 (v:=?_) rfl (by rfl) ?_ ?_;rotate_left
  ·intro w a0;go_simp;with_reducible rfl
  simp only[Act.put,sa,sb,sc]
 refine q0G rfl ?_;go_wp2_with fail
 refine(q0m gr or ur (sg (decide (u1<0)) (u1.natAbs%u2.natAbs)) _ A2 m2 c2 _ _ (HR.o.below HB.o) b2.o (fun a e=>(b0 a e).2) (q0C _ _) (q0W _ _)).mono ?_;rintro e w2 hP;have HF:=vv (hP.fs (HR.o.below HB.o));obtain⟨rfl,a5,hF⟩:=hP;have b3:=vv a5;clear a5;go_wp2_with fail
 refine(q0m g o v (sg (decide (u1<0) != decide (u2<0)) (u1.natAbs/u2.natAbs)) _ A1 m1 c1 _ _ ((HI.o.below HB.o).fs1 HF.o (Ne.symm hne)) (b1.o.fs (fun a e=>(a3 a e).2) HF.o) (fun a e=>(a3 a e).2) (q0C _ _) (q0W _ _)).mono ?_;rintro e w3 hP;have a6:=vv (hP.fs ((HI.o.below HB.o).fs1 HF.o (Ne.symm hne)));obtain⟨rfl,a7,b5⟩:=hP;have b4:=vv a7;clear a7;go_wp2;go_ret2
 exact⟨rfl,b4.o,b3.o.fs1 a6.o hne,((Fs.of_below [] HB.o (fun _ hp=>by cases hp)).trans HF.o).trans a6.o⟩
theorem Exp(g o gx ox gy oy:Nat)(v:Int)(x y:Nat)(w:World)(h:IntAt w g o v)(hx:IntAt w gx ox (x:Int))(hy:IntAt w gy oy (y:Int))(hx0:0<x)(hy0:0<y)(hs:Sz (x^y))(hsy:Sz y):
  Calls Tryz.prog 160 #[.pointer (some ⟨g,o,none⟩),.pointer (some ⟨gx,ox,none⟩),.pointer (some ⟨gy,oy,none⟩),.pointer none] w (qah g o ((x^y:Nat):Int) w):=by
 have HI:=vv h;have HX:=vv hx;have HY:=vv hy;have b9:=hy.lt;have HP:Hid (∀q,q<=y->Sz (x^q)):=vv fun q hq=>hs.mono (Nat.pow_le_pow_right hx0 hq)
 have c0:Hid ((y:Int).sign=1):=vv (Int.sign_eq_one_of_pos (by omega));have c1:=vv hsy;have d7:=vv hx0;have c2:=vv hy0;have HB:Hid (∀(w:World) t,Below w.heap.size w (w.alloc (.cells #[.bool false,.slice none 0 0] t))):=vv fun w t=>(Below.refl _ w).alloc lr _
 have HZ:=vv (IntAt.zero w 206);clear h hx hy hs hsy hx0 hy0;go_enter Tryz.func160,Tryz.ntmps160
 go_wp2_with fail
 refine(NewInt 1 _ (by omega) (by omega)).mono ?_;rintro e w1 ⟨g1,rfl,b3,a4,a5⟩;have c3:=vv a4;have a6:=vv ((HB.o w 206).trans (a5.mono (Below.size (HB.o w 206))));have c4:=vv (HZ.o.below a5);have c6:=a4.lt;have c7:w.heap.size<g1:=by simp at b3;omega
 have a7:=a6.o.size;clear a4 a5 b3;go_wp2_with fail
 have a8:=vv (a6.o.trans ((HB.o w1 206).mono a6.o.size));have b4:=vv (IntAt.zero w1 206);refine(Set _ 0 gx ox 0 _ _ b4.o (HX.o.below a8.o)).mono ?_;rintro e w2 hP;have hP:=hP.f b4.o;have a9:=vv (hP.below a8.o (a8.o.size) a7);have c8:=vv ((c3.o.below (HB.o w1 206)).fs1 hP.2.2 (by omega));have c9:=vv ((c4.o.below (HB.o w1 206)).fs1 hP.2.2 (by omega));have d0:=vv hP.2.1;obtain⟨rfl,-,-⟩:=hP;have b0:=vv (HY.o.below a9.o);go_wp2_with fail
 refine(Sign gy oy _ _ b0.o).mono ?_;rintro e w3 ⟨rfl,rfl⟩;rw[c0.o];obtain⟨B,m,d,k0,k1,hr,hz⟩:=b0.o.ex;have HR:=vv hr;have hm:=hr.words;have HM:=vv hm;have d8:=hr.sz c1.o;have b5:=b0.o.lt;clear hr hz k0 hm;go_wp2_with fail
 refine(q0F _ _ _ _ _ HR.o).mono ?_;rintro e w3 ⟨rfl,hO,hB⟩;have d1:Hid (ExpInv w w.heap.size g1 w1.heap.size (some ⟨w2.heap.size,0,none⟩) m x y 0 w3):=vv
  ⟨c9.o.below hB,by simpa using c8.o.below hB,d0.o.below hB,hO.rd HR.o.len.symm lr HR.o.sm,fun a e=>by cases e;rfl,a9.o.trans (hB.mono a9.o.size)⟩
 clear hO hB;go_wp2;go_loopw [13] (fun i wr=>∃(z:Int) (j:Nat),i=.int .i64 z/\z+1=j/\j<=32*m/\ExpInv w w.heap.size g1 w1.heap.size (some ⟨w2.heap.size,0,none⟩) m x y (y/2^j) wr) (fun i _=>(intOf i+1).toNat)
 case atStart =>
  refine⟨_,32*m,rfl,by omega,lr,?_⟩;have b6:=q0h y;have d2:words y=m:=HM.o;rw[d2,q1J] at b6;rw[Nat.div_eq_of_lt b6];exact d1.o
 case round =>
  obtain⟨z,j,rfl,hz,hj,hE⟩:=hrel;have HE:=vv hE;clear hE;rcases Nat.eq_zero_or_pos j with rfl|d3
  ·obtain rfl:z = -1:=by omega
   clear hz;go_wp2_with fail
   have b7:=HE.o.o;rw[Nat.pow_zero,Nat.div_one] at b7;refine(Set g o g1 0 _ _ _ (HI.o.below HE.o.bel) b7).mono ?_;rintro e w5 hP;have hF:=vv ((hP.f (HI.o.below HE.o.bel)).after HE.o.bel);obtain⟨rfl,d4,-⟩:=hP;go_wp2;go_ret
   exact⟨rfl,d4,hF.o⟩
  ·obtain⟨i,rfl⟩:∃i,j=i+1:=⟨j-1,by omega⟩;obtain rfl:z=(i:Int):=by omega
   clear hz;have i1:(0:Int)<=(i:Int):=by omega
   have i2:(i:Int)<32*(m:Int):=by omega
   go_wp2_with fail
   refine(Mul g1 0 g1 0 g1 0 _ _ _ _ HE.o.o HE.o.o HE.o.o (by simpa using HP.o _ (Nat.div_le_self _ _)) (by simpa using HP.o _ (Nat.div_le_self _ _))).mono ?_;rintro e w4 hP;have a1:=vv (HE.o.step hP (q':=2*(y/2^(i+1))) (by rw[<- Int.natCast_mul,<- Nat.pow_add];congr 2;omega) (by omega) (by omega) (by omega));obtain⟨rfl,-,-⟩:=hP;obtain⟨b,off,d5,d9,hc⟩:=a1.o.words.cell (by omega);cases d5
   have b8:=hc (i/32) (by omega);rw[Nat.zero_add] at b8;clear hc;have a0:=q4A (nth (toL y) (i/32)) (i%32) (a1.o.words.nth_lt _);rw[q8o] at a0;have HQ:=vv (q2v y i);by_cases hb:y/2^i%2=1
   ·rw[decide_eq_true hb] at a0;have a3:Hid (y/2^i=2*(y/2^(i+1))+1):=vv (by have:=HQ.o;omega);clear hb;go_wp2_with fail
    refine(Mul g1 0 g1 0 w1.heap.size 0 _ _ _ _ a1.o.o a1.o.o a1.o.base (by simpa using HP.o _ (by have:=Nat.div_le_self y (2^i);have:=a3.o;omega)) (by simpa using HP.o 1 c2.o)).mono ?_;rintro e w5 hP;have a2:=vv (a1.o.step hP (q':=y/2^i) (by rw[a3.o,Nat.pow_add x _ 1,Nat.pow_one,Int.natCast_mul]) (by omega) (by omega) (by omega));obtain⟨rfl,-,-⟩:=hP;obtain⟨A5,c5,d6⟩:=a2.o.by_.nil;have b1:=a2.o.by_.lt;clear b8 a0;go_wp2;go_roundw
    case rel=>exact⟨_,i,rfl,by omega,by omega,a2.o⟩
    case measure=>simp [intOf]
   ·rw[decide_eq_false hb] at a0;have a3:Hid (y/2^i=2*(y/2^(i+1))):=vv (by have:=HQ.o;omega);clear hb;have b2:=a1.o;rw[<- a3.o] at b2;have a2:=vv b2;obtain⟨A5,c5,d6⟩:=a2.o.by_.nil;have b1:=a2.o.by_.lt;clear b2;go_wp2;go_roundw
    case rel=>exact⟨_,i,rfl,by omega,by omega,a2.o⟩
    case measure=>simp [intOf]
def q4h(d:Nat)(w:World)(e:Ending)(w':World):Prop:=∃A n c,e=.returned (.slice A n c)/\Rd w' A n c (toL d)/\(∀a,A=some a->a.off=0)/\Below w.heap.size w w'
theorem below(g:Nat)(p:Int)(d:Nat)(w:World)(h:RatAt w g p d):
  Calls Tryz.prog 253 #[.pointer (some ⟨g,0,none⟩)] w (q4h (ld p d) w):=by
 have a0:=h.lt;have hp:=q0Z (p:=p) h.pos;obtain⟨A,n,c,e,⟨hd,hz⟩⟩:=h.den;clear h;rcases hd with ⟨rfl,hd⟩|⟨hn,hr⟩
 ·rw[hd];clear hd hp;go_enter Tryz.func253,Tryz.ntmps253
  go_wp2;go_ret
  have hO:Own (w.alloc (.cells #[.int .u32 1] 34)) w.heap.size 34 [1]:=Own.lit _ (q0v.2 ⟨by omega,q0M⟩) (by simp [q0p]);exact⟨_,1,1,rfl,hO.rd rfl lr (by omega),fun a e=>by cases e;rfl,(Below.refl _ _).alloc lr _⟩
 ·have a1:=hr.sm;have h0:((n:Int)==0)=false:=by simp;omega
  have HR:=vv hr;clear hr hp;go_enter Tryz.func253,Tryz.ntmps253
  go_wp2;go_ret
  exact⟨_,n,c,rfl,HR.o,hz,Below.refl _ _⟩
theorem SetInt(g gx:Nat)(u:Int)(w:World)(h:RatSh w g)(hx:IntAt w gx 0 u):
  Calls Tryz.prog 159 #[.pointer (some ⟨g,0,none⟩),.pointer (some ⟨gx,0,none⟩)] w (q2l g u 1 w):=by
 have HH:=vv h;obtain⟨v,hv⟩:=h.int;have HV:=vv hv;have a2:=hv.lt;have HS:=vv (Set g 0 gx 0 v u w hv hx);clear hv h hx;go_enter Tryz.func159,Tryz.ntmps159
 go_wp2_with fail
 refine HS.o.mono ?_;rintro e w1 hP;have hP:=hP.f HV.o;have hN:=HH.o.num hP;obtain⟨hi,x,hx⟩:=hN;have a0:=hi.lt;have a3:=hi.fz 2;have HF:=vv hP.2.2;have HI:=vv hi;obtain⟨rfl,-,-⟩:=hP;have a1:=vv hx;clear hi;go_wp2;go_ret
 refine⟨rfl,RatAt.made HI.o ⟨x,a1.o⟩ (q1U.nil _) (by omega) (by omega) (Nat.gcd_one_right _) rfl,fs3 ?_⟩;exact HF.o.trans (Fs.set2 HI.o _)
theorem Num(g:Nat)(p:Int)(d:Nat)(w:World)(h:RatAt w g p d):
  Calls Tryz.prog 243 #[.pointer (some ⟨g,0,none⟩)] w (q1d (lp p d) w):=by
 have a0:=h.lt;have HB:Hid (∀t,Below w.heap.size w (w.alloc (.cells #[.bool false,.slice none 0 0] t))):=vv fun t=>(Below.refl _ w).alloc lr _
 have HN:=vv h.num;clear h;go_enter Tryz.func243,Tryz.ntmps243
 go_wp2_with fail
 refine(Set _ 0 g 0 0 _ _ (IntAt.zero w 206) (HN.o.below (HB.o _))).mono ?_;rintro e w1 ⟨rfl,hI,hF⟩;go_wp2;go_ret
 exact⟨_,rfl,lr,hI,hF.below (HB.o _) (by simp) lr⟩
theorem Denom(g:Nat)(p:Int)(d:Nat)(w:World)(h:RatAt w g p d):
  Calls Tryz.prog 244 #[.pointer (some ⟨g,0,none⟩)] w (q1d (ld p d:Nat) w):=by
 have a5:=h.lt;have HB:Hid (∀t,Below w.heap.size w (w.alloc (.cells #[.bool false,.slice none 0 0] t))):=vv fun t=>(Below.refl _ w).alloc lr _
 have HN:=vv h;clear h;go_enter Tryz.func244,Tryz.ntmps244
 go_wp2_with fail
 refine(below g p d _ (HN.o.below (HB.o _))).mono ?_;rintro e w1 ⟨A,n,c,rfl,hR,hz,a0⟩;have HZ:=vv ((IntAt.zero w 206).below a0);have HR:=vv hR;have a3:=vv ((HB.o 206).trans (a0.mono (HB.o _).size));clear hR a0;go_wp2_with fail
 refine(q0F _ _ _ _ _ HR.o).mono ?_;rintro e w2 ⟨rfl,hO,a1⟩;have HO:=vv hO;have a4:=vv (HZ.o.below a1);have a2:=vn a3 a1;clear hO a1;go_wp2_with fail
 refine(q0m _ 0 0 (ld p d:Nat) _ _ n n (ld p d) _ a4.o (HO.o.rd HR.o.len.symm lr HR.o.sm) (fun a e=>by cases e;rfl) rfl (q1w (by omega))).mono ?_;rintro e w3 ⟨rfl,hI,hF⟩;go_wp2;go_ret
 exact⟨_,rfl,lr,hI,hF.below a2.o a2.o.size lr⟩
theorem RSign(g:Nat)(p:Int)(d:Nat)(w:World)(h:RatAt w g p d):
  Calls Tryz.prog 156 #[.pointer (some ⟨g,0,none⟩)] w fun e w'=>e=.returned (.int .i64 p.sign)/\w=w':=by
 have a0:=h.lt;have HN:=vv (Sign g 0 _ w h.num);have HS:=vv (q8v (p:=p) h.pos);clear h;go_enter Tryz.func156,Tryz.ntmps156
 go_wp2_with fail
 refine HN.o.mono ?_;rintro e w1 ⟨rfl,rfl⟩;rw[HS.o];go_wp2;go_ret
 exact⟨rfl,rfl⟩
theorem q4f(g:Nat)(b:Bool)(A B:Option Addr)(n c m d:Nat)(xs ys:List Nat)(w:World)(h:RatSh w g)(ha:Rd w A n c xs)(hb:Rd w B m d ys)(hD:0<val ys)(h0:val xs=0):
  Calls Tryz.prog 246 #[.pointer (some ⟨g,0,none⟩),.bool b,.slice A n c,.slice B m d] w (q2l g (sg b (val xs)) (val ys) w):=by
 have HH:=vv h;obtain⟨v,hv⟩:=h.int;have HV:=vv hv;have a2:=hv.lt;have HA:=vv (q1a A n c xs w ha);have HB:=vv (q1a B m d ys w hb);have HD:=vv hD;have H0:=vv h0;clear hv h ha hb hD h0;go_enter Tryz.func246,Tryz.ntmps246
 go_wp2_with fail
 refine HA.o.mono ?_;rintro e w' ⟨n1,rfl,rfl,hR⟩;obtain rfl:n1=0:=by rw[<- hR.words];exact q05.2 H0.o
 clear hR;go_wp2_with fail
 refine HB.o.mono ?_;rintro e w' ⟨m1,rfl,rfl,hR⟩;clear hR;go_wp2_with fail
 refine(q0m g 0 v 0 _ none 0 0 0 _ HV.o (Rd.nil _) (fun a e=>by cases e) rfl rfl).mono ?_;rintro e w1 hP;have hP:=hP.f HV.o;obtain⟨hi,x,hx⟩:=HH.o.num hP;have a0:=hi.lt;have a3:=hi.fz 2;have HF:=vv hP.2.2;have HI:=vv hi;obtain⟨rfl,-,-⟩:=hP;have a1:=vv hx;clear hi;go_wp2;go_ret
 refine⟨rfl,RatAt.made HI.o ⟨x,a1.o⟩ (q1U.nil _) HD.o (by omega) (Nat.gcd_one_right _) ?_,fs3 ?_⟩
 ·rw[H0.o];cases b<;>simp [sg]
 ·exact HF.o.trans (Fs.set2 HI.o _)
theorem q5g(g:Nat)(b:Bool)(A B:Option Addr)(n c m d:Nat)(xs ys:List Nat)(w:World)(h:RatSh w g)(ha:Rd w A n c xs)(hb:Rd w B m d ys)(hD:0<val ys)(h0:0<val xs)(hza:∀a,A=some a->a.off=0)(hzb:∀a,B=some a->a.off=0)
  (hst:Std w) (hn:n<17179869184) (hm:m<17179869184) :
  Calls Tryz.prog 246 #[.pointer (some ⟨g,0,none⟩),.bool b,.slice A n c,.slice B m d] w (q2l g (sg b (val xs)) (val ys) w):=by
 have HH:=vv h;obtain⟨v,hv⟩:=h.int;have HV:=vv hv;have e0:=hv.lt;have HA:=vv (q1a A n c xs w ha);have HB:=vv (q1a B m d ys w hb);have HD:=vv hD;have H0:=vv h0;have b8:=vv hst;have b9:=vv ha.lim;have c0:=vv hb.lim;have c3:=vv ha.len;have c5:=vv hb.len;have HG:=vv (q0o (n:=val xs) hD);have a0:=vv (qao (b:=b) (N:=val xs) hD);have b0:Hid (0<val ys/Nat.gcd (val xs) (val ys)):=vv (Nat.div_pos (Nat.le_of_dvd hD (Nat.gcd_dvd_right _ _)) HG.o);clear hv h ha hb hD h0 hst;go_enter Tryz.func246,Tryz.ntmps246
 go_wp2_with fail
 refine HA.o.mono ?_;rintro e w' ⟨n1,rfl,rfl,hR⟩;have e1:n1<=n:=hR.trim_le b9.o (by rw[c3.o];exact lr);have e2:0<n1:=by
  rcases Nat.eq_zero_or_pos n1 with e|e
  ·have:=hR.words;rw[e] at this;have:=q05.1 this;have:=H0.o;omega
  ·exact e
 have e3:=hR.sm;have HR:=vv hR;clear hR;go_wp2_with fail
 refine HB.o.mono ?_;rintro e w' ⟨m1,rfl,rfl,hR⟩;have e4:m1<=m:=hR.trim_le c0.o (by rw[c5.o];exact lr);have b1:=vv hR;clear hR;have e5:((n1:Int)==0)=false:=by simp;omega
 go_wp2_with fail
 refine(q2k A B n1 m1 c d _ _ _ HR.o b1.o b8.o (by omega) (by omega)).mono ?_;rintro e w1 ⟨A1,k1,c1,rfl,hG,c6,a8⟩;have b2:=vv hG;have b3:=vv a8;have c7:=vv (HR.o.below a8 rfl);have a9:=vv (b1.o.below a8 rfl);clear hG;go_wp2_with fail
 refine q01 (fun _=>True) 7
  (.still 0 (.still 1 (.still 2 (.still 3 (.still 4 (.still 5 (.one 6 .done))))))) (by kernel_rfl) (by kernel_rfl) (fun _ _ d _ _ h=>by cases d<;>exact h) trivial (fun hS0=>?_)
 clear hS0
 iterate 6
  refine q02 (v:=?_) rfl (by rfl) ?_ ?_;rotate_left
  ·intro w e6;go_simp;with_reducible rfl
  simp only[Act.put,sa,sb,sc]
 refine q03 rfl (by rfl) (fun K hK=>?_);go_simp;refine(by_ A A1 n1 k1 c c1 _ _ _ c7.o.drew b2.o.drew HG.o (by omega)).mono ?_;rintro e w2 ⟨A2,k2,c2,rfl,hQ,a1,a4⟩;have a5:Hid (Below w.heap.size w w2):=vv ((q04 b3.o).trans (a4.mono (by simpa using b3.o.size)));have b4:∀a,A2=some a->a.off=0:=fun a e=>by
  rcases a1 with hf|hf
  ·exact(hf a e).2
  ·exact hza a (hf ▸ e)
 have HQ:=vv hQ;have c8:=vv b4;have c9:=vv (b2.o.drew.below a4 rfl);have a2:=vv (a9.o.drew.below a4 rfl);clear hQ b4 a1 a4;go_wp2_with fail
 refine hK.out _ _ trivial (fun b5=>?_);clear hK;refine q08 ?_;go_wp2_with fail
 refine(q0m g 0 v (sg b (val xs/Nat.gcd (val xs) (val ys))) _ A2 k2 c2 _ _ (HV.o.below a5.o) HQ.o c8.o (q0C _ _) (q0W _ _)).mono ?_;rintro e w3 hP;have hP:=hP.f (HV.o.below a5.o);have d0:=vv hP.2.2;have d1:=vv ((HH.o.below a5.o).num hP);have d2:=vv (c9.o.fs (fun a e=>(c6 a e).2) hP.2.2);have d3:=vv (a2.o.fs hzb hP.2.2);obtain⟨rfl,-,-⟩:=hP;go_wp2_with fail
 refine(by_ B A1 m1 k1 d c1 _ _ _ d3.o d2.o HG.o (by omega)).mono ?_;rintro e w4 ⟨A4,k4,c4,rfl,hQ,a3,a6⟩;have b6:∀a,A4=some a->a.off=0:=fun a e=>by
  rcases a3 with hf|hf
  ·exact(hf a e).2
  ·exact hzb a (hf ▸ e)
 have d4:=vv hQ;have d5:=vv b6;obtain⟨hi,x,hx⟩:=d1.o;have a7:=hi.below a6;have d6:=(a6.cell (p:=⟨g,2,none⟩) hi.lt).trans hx;have d7:=a7.lt;have e7:=a7.fz 2;have b7:=vv a7;have d8:=vv d6;have d9:Hid (Fs [(g,0,2)] w w4):=vv (((d0.o.after a5.o).trans (Fs.of_nil a6)).drop (fun p hp _=>by simpa using hp) (fun p hp=>by simpa using hp));clear hQ b6 a3 a6 hi a7 hx;go_wp2;go_ret
 refine⟨rfl,RatAt.made b7.o ⟨x,d8.o⟩ (d4.o.den b0.o d5.o) HD.o b0.o a0.o.1 a0.o.2,fs3 ?_⟩;exact d9.o.trans (Fs.set2 b7.o _)
theorem qbL(g:Nat)(b:Bool)(A B:Option Addr)(n c m d:Nat)(xs ys:List Nat)(w:World)(h:RatSh w g)(ha:Rd w A n c xs)(hb:Rd w B m d ys)(hD:0<val ys)(hza:∀a,A=some a->a.off=0)(hzb:∀a,B=some a->a.off=0)
  (hst:Std w) (hn:n<17179869184) (hm:m<17179869184) :
  Calls Tryz.prog 246 #[.pointer (some ⟨g,0,none⟩),.bool b,.slice A n c,.slice B m d] w (q2l g (sg b (val xs)) (val ys) w):=by
 rcases Nat.eq_zero_or_pos (val xs) with h0|h0
 ·exact q4f g b A B n c m d xs ys w h ha hb hD h0
 ·exact q5g g b A B n c m d xs ys w h ha hb hD h0 hza hzb hst hn hm
theorem SetFrac(g gx gy:Nat)(u:Int)(D:Nat)(w:World)(h:RatSh w g)(hx:IntAt w gx 0 u)(hy:IntAt w gy 0 (D:Int))(hD:0<D)(hst:Std w)(hn:Sz u.natAbs)(hm:Sz D):
  Calls Tryz.prog 154 #[.pointer (some ⟨g,0,none⟩),.pointer (some ⟨gx,0,none⟩),.pointer (some ⟨gy,0,none⟩)] w (q2l g u D w):=by
 have a3:=hx.lt;have a4:=hy.lt;obtain⟨A,n,c,h0,h1,hr,hz⟩:=hx.ex;obtain⟨B,m,d,k0,k1,hs,hy⟩:=hy.ex;rw[decide_eq_false (by omega)] at k0;have a7:Rd w B m d (toL D):=hs;have HA:=vv hr;have HB:=vv a7;have HH:=vv h;have b1:=vv hst;have HD:=vv hD;have HN:=vv (hr.sz hn);have HM:=vv (a7.sz hm);clear hr hz hs a7 hy h hx hn hm hst hD;have fin:∀w1 w2 A' B',Below w.heap.size w w1->Below w1.heap.size w1 w2->Rd w2 A' n n (toL u.natAbs)->Rd w2 B' m m (toL D)->(∀a,A'=some a->a.off=0)->(∀a,B'=some a->a.off=0) ->
   Calls Tryz.prog 246 #[.pointer (some ⟨g,0,none⟩),.bool (decide (u<0)),.slice A' n n,.slice B' m m] w2 (q2l g u D w):=by
  intro w1 w2 A' B' a9 b2 ha hb b3 b4;have a8:=a9.trans (b2.mono a9.size);refine(qbL g _ A' B' n n m m _ _ w2 (HH.o.below a8) ha hb (by rw[q00];exact HD.o) b3 b4 (b1.o.fs (Fs.of_nil a8)) (by have:=HN.o;omega) (by have:=HM.o;omega)).mono ?_;rintro e w' ⟨he,hR,hF⟩;rw[q00,q00,q4j] at hR;exact⟨he,hR,hF.after a8⟩
 have Fin:=vv fin;clear fin;go_enter Tryz.func154,Tryz.ntmps154
 go_wp2_with fail
 refine q01 (fun w'=>w'.cell? ⟨gx,0,none⟩=some (.bool (decide (u<0)))/\w'.cell? ⟨gx,1,none⟩=some (.slice A n c)/\w'.cell? ⟨gy,0,none⟩=some (.bool false)/\w'.cell? ⟨gy,1,none⟩=some (.slice B m d)) 20
  (.still 0 (.still 1 (.still 2 (.still 3 (.still 4 (.still 5 (.still 6 (.still 7 (.still 8 (.still 9 (.still 10 (.still 11 (.still 12 (.still 13 (.still 15 (.still 16 (.still 17 (.still 18 (.one 14 (.one 19 .done)))))))))))))))))))) (by kernel_rfl) (by kernel_rfl) (fun _ _ d _ _ h=>by cases d<;>exact h) ⟨h0,h1,k0,k1⟩ (fun hS0=>?_)
 iterate 18
  refine q02 (v:=?_) rfl (by rfl) ?_ ?_;rotate_left
  ·intro w b8;go_simp;with_reducible rfl
  simp only[Act.put,sa,sb,sc]
 refine q03 rfl (by rfl) (fun K hK=>?_);go_simp;refine(q0F _ _ _ _ _ HA.o.drew).mono ?_;rintro e w1 ⟨rfl,hO,a1⟩;have HO:=vv (hO.rd HA.o.len.symm lr HA.o.sm);have a0:Hid (Below w.heap.size w w1):=vv ⟨a1.os,a1.tape,a1.output,a1.size,a1.block⟩;clear hO a1;go_wp2_with fail
 refine hK.out _ _ ⟨(a0.o.cell (p:=⟨gx,0,none⟩) a3).trans h0,(a0.o.cell (p:=⟨gx,1,none⟩) a3).trans h1,(a0.o.cell (p:=⟨gy,0,none⟩) a4).trans k0,(a0.o.cell (p:=⟨gy,1,none⟩) a4).trans k1⟩ (fun a2=>?_);clear hK;refine q03 rfl (by rfl) (fun K hK=>?_);go_simp;refine(q0F _ _ _ _ _ (HB.o.below a0.o rfl)).mono ?_;rintro e w2 ⟨rfl,b0,a5⟩;have b5:=vv (b0.rd HB.o.len.symm lr HB.o.sm);have b6:=vv (HO.o.below a5 rfl);have b7:=vv a5;have a6:=vn a0 a5;clear b0 a5;go_wp2_with fail
 refine hK.out _ _ ⟨(a6.o.cell (p:=⟨gx,0,none⟩) a3).trans h0,(a6.o.cell (p:=⟨gx,1,none⟩) a3).trans h1,(a6.o.cell (p:=⟨gy,0,none⟩) a4).trans k0,(a6.o.cell (p:=⟨gy,1,none⟩) a4).trans k1⟩ (fun a2=>?_);clear hK;refine q08 ?_;go_wp2_with fail
 refine(Fin.o w1 w2 _ _ a0.o b7.o b6.o b5.o (fun a e=>by cases e;rfl) (fun a e=>by cases e;rfl)).mono ?_;rintro e w3 ⟨rfl,hR,hF⟩;have HR:=vv hR;go_wp2;go_ret
 exact⟨rfl,HR.o,hF⟩
theorem Inv(g gx:Nat)(N d:Nat)(w:World)(h:RatSh w g)(hx:RatAt w gx (N:Int) d)(hN:0<N):
  Calls Tryz.prog 161 #[.pointer (some ⟨g,0,none⟩),.pointer (some ⟨gx,0,none⟩)] w (q2l g (d:Int) N w):=by
 have HH:=vv h;have HX:=vv hx;have HL:=vv (q3Y hN hx.pos);have HP:=vv (q0Z (p:=(N:Int)) hx.pos);have HN:=vv hN;have a2:=q2t (p:=(N:Int)) hx.pos;have a5:=hx.lt;obtain⟨v,hv⟩:=h.int;have b7:=hv.lt;have HV:=vv hv;obtain⟨A,n,c,c0,c1,hr,hz⟩:=hx.num.ex;rw[decide_eq_false (by omega)] at c0;have HA:=vv hr;have a3:=vv (below gx _ _ w hx);clear h hx hv hr a2 hN;go_enter Tryz.func161,Tryz.ntmps161
 go_wp2_with fail
 refine a3.o.mono ?_;rintro e w1 ⟨B,m,d1,rfl,hR,b8,a6⟩;have HR:=vv hR;have a9:=vv a6;clear hR a6;go_wp2_with fail
 refine(q0F _ _ _ _ _ HR.o).mono ?_;rintro e w2 ⟨rfl,hO,a7⟩;have HO:=vv (hO.rd HR.o.len.symm lr HR.o.sm);have a0:=vn a9 a7;have c1':=(a0.o.cell (p:=⟨gx,1,none⟩) a5).trans c1;have b0:gx<w2.heap.size:=Nat.lt_of_lt_of_le a5 a0.o.size;clear hO a7;go_wp2_with fail
 refine(q0F _ _ _ _ _ (HA.o.below a0.o rfl)).mono ?_;rintro e w3 ⟨rfl,a8,a4⟩;have b1:=vv ((a8.rd HA.o.len.symm lr HA.o.sm).den HL.o.2.2 (fun a e=>by cases e;rfl));have b2:=vv (HO.o.below a4 rfl);have a1:=vn a0 a4;clear a8 a4;go_wp2_with fail
 refine(q0m g 0 v (ld N d:Nat) _ _ m m (ld N d) _ (HV.o.below a1.o) b2.o (fun a e=>by cases e;rfl) rfl (q1w (by omega))).mono ?_;rintro e w4 hP;have hP:=hP.f (HV.o.below a1.o);have b3:=vv ((HH.o.below a1.o).num hP);have HF:=vv (hP.2.2.after a1.o);have b4:=vv (b1.o.fs hP.2.2);obtain⟨rfl,-,-⟩:=hP;obtain⟨hi,x,hx⟩:=b3.o;have b5:=hi.lt;have b9:=hi.fz 2;have HI:=vv hi;have b6:=vv hx;clear hi;go_wp2;go_ret
 exact⟨rfl,RatAt.made HI.o ⟨x,b6.o⟩ b4.o HN.o HL.o.2.2 HL.o.1 HL.o.2.1,fs3 (HF.o.trans (Fs.set2 HI.o _))⟩
theorem q26(g:Nat)(s:Bool)(A D B C:Option Addr)(na ca nd cd nb cb nc cc a d b c:Nat)(w:World)(h:RatSh w g)(ha:Rd w A na ca (toL a))(hb:Rd w B nb cb (toL b))(hd0:0<d)(hc0:0<c)
  (h0:a=0\/0<a/\b=0) (hst:Std w) :
  Calls Tryz.prog 254 #[.pointer (some ⟨g,0,none⟩),.bool s,.slice A na ca,.slice D nd cd,.slice B nb cb,.slice C nc cc] w (q2l g (sg s (a*b)) (d*c) w):=by
 have a0:=ha.words;have a1:=hb.words;have a2:=ha.sm;have a3:=hb.sm;have HE:Hid (sg s (a*b)=0):=vv (by have:a*b=0:=(by rcases h0 with h|h<;>simp [h]);rw[this];cases s<;>rfl);have HM:=vv (Nat.mul_pos hd0 hc0);have HS:Hid (Calls Tryz.prog 246 #[.pointer (some ⟨g,0,none⟩),.bool false,.slice none 0 0,.slice (some ⟨w.heap.size,0,none⟩) 1 1] (w.alloc (.cells #[.int .u32 1] 34)) (q2l g (sg s (a*b)) (d*c) w)):=by
  have hB:Below w.heap.size w (w.alloc (.cells #[.int .u32 1] 34)):=(Below.refl _ _).alloc lr _;have hO:Own (w.alloc (.cells #[.int .u32 1] 34)) w.heap.size 34 [1]:=Own.lit _ (q0v.2 ⟨by omega,q0M⟩) (by simp [q0p]);refine vv ((qbL g false none (some ⟨w.heap.size,0,none⟩) 0 0 1 1 [] [1] _ (h.below hB) (Rd.nil _) (hO.rd rfl lr (by omega)) (by decide) (fun a e=>by cases e) (fun a e=>by cases e;rfl) (hst.fs (Fs.of_nil hB)) (by omega) (by omega)).mono ?_);rintro e w' ⟨he,hR,hF⟩;refine⟨he,?_,hF.after hB⟩;rw[HE.o];exact hR.cross HM.o (by simp [sg,val])
 clear ha hb hd0 hc0 hst h;rcases h0 with rfl|⟨ha,rfl⟩
 ·obtain rfl:na=0:=a0.symm;clear a0 a1;go_enter Tryz.func254,Tryz.ntmps254
  go_wp2_with fail
  refine HS.o.mono ?_;rintro e w1 ⟨rfl,hR,hF⟩;have HR:=vv hR;go_wp2;go_ret
  exact⟨rfl,HR.o,hF⟩
 ·obtain rfl:nb=0:=a1.symm;have t0:((na:Int)==0)=false:=by
   have:=q05 (n:=a);simp;omega
  clear a0 a1 ha;go_enter Tryz.func254,Tryz.ntmps254
  go_wp2_with fail
  refine HS.o.mono ?_;rintro e w1 ⟨rfl,hR,hF⟩;have HR:=vv hR;go_wp2;go_ret
  exact⟨rfl,HR.o,hF⟩
theorem q3Q(g:Nat)(s:Bool)(A D B C:Option Addr)(na ca nd cd nb cb nc cc a d b c:Nat)(w:World)(h:RatSh w g)(ha:Rd w A na ca (toL a))(hd:Rd w D nd cd (toL d))(hb:Rd w B nb cb (toL b))(hc:Rd w C nc cc (toL c))(hd0:0<d)(hc0:0<c)
  (had:Nat.gcd a d=1) (hbc:Nat.gcd b c=1) (ha0:0<a) (hb0:0<b) (hst:Std w) (sa:Sz a) (sd:Sz d) (sb:Sz b) (sc:Sz c) :
  Calls Tryz.prog 254 #[.pointer (some ⟨g,0,none⟩),.bool s,.slice A na ca,.slice D nd cd,.slice B nb cb,.slice C nc cc] w (q2l g (sg s (a*b)) (d*c) w):=by
 have e0:=ha.words;have e1:=hb.words;have e8:=ha.sz sa;have e9:=hb.sz sb;have f0:=hc.sz sc;have f1:=hd.sz sd;have t0:((na:Int)==0)=false:=by
  have:=q05 (n:=a);simp;omega
 have t1:((nb:Int)==0)=false:=by
  have:=q05 (n:=b);simp;omega
 have c0:=vv (q8r hd0 hc0 had hbc ha0 hb0);have HG:=vv (q0o (n:=a) hc0);have b2:=vv (q0o (n:=b) hd0);have HM:=vv (Nat.mul_pos hd0 hc0);have c1:Hid (0<d/Nat.gcd b d*(c/Nat.gcd a c)):=vv (Nat.mul_pos (Nat.div_pos (Nat.le_of_dvd hd0 (Nat.gcd_dvd_right _ _)) b2.o) (Nat.div_pos (Nat.le_of_dvd hc0 (Nat.gcd_dvd_right _ _)) HG.o));have c2:=vv hst;have HH:=vv h;obtain⟨v,hv⟩:=h.int;have HV:=vv hv;have HA:=vv ha;have HB:=vv hb;have HC:=vv hc;have HD:=vv hd;clear h ha hb hc hd hd0 hc0 had hbc ha0 hb0 hst hv e0 e1 sa sb sc sd;go_enter Tryz.func254,Tryz.ntmps254
 go_wp2_with fail
 refine(q2k A C na nc ca cc a c w HA.o HC.o c2.o (by omega) (by omega)).mono ?_;rintro e w1 ⟨G1,g1,k1,rfl,c9,f2,d0⟩;have a4:=vv d0;have a1:=vv c9;clear c9 d0;go_wp2_with fail
 refine(q2k B D nb nd cb cd b d _ (HB.o.below a4.o rfl) (HD.o.below a4.o rfl) (c2.o.fs (Fs.of_nil a4.o)) (by omega) (by omega)).mono ?_;rintro e w2 ⟨G2,g2,k2,rfl,d1,f3,b3⟩;have d2:=vn a4 b3;have a1:=vv (a1.o.below b3 rfl);have a0:=vv d1;clear d1 b3;go_wp2_with fail
 refine(by_ A G1 na g1 ca k1 a _ _ (HA.o.below d2.o rfl) a1.o HG.o (by omega)).mono ?_;rintro e w3 ⟨A3,n3,c3,rfl,b4,-,a5⟩;have d3:=vn d2 a5;have a1:=vv (a1.o.below a5 rfl);have a0:=vv (a0.o.below a5 rfl);have f4:=b4.le_of HA.o (Nat.div_le_self _ _);have a6:=vv b4;clear b4 a5;go_wp2_with fail
 refine(by_ B G2 nb g2 cb k2 b _ _ (HB.o.below d3.o rfl) a0.o b2.o (by omega)).mono ?_;rintro e w4 ⟨A4,n4,c4,rfl,b5,-,a3⟩;have e2:=vn d3 a3;have a1:=vv (a1.o.below a3 rfl);have a0:=vv (a0.o.below a3 rfl);have a6:=vv (a6.o.below a3 rfl);have f5:=b5.le_of HB.o (Nat.div_le_self _ _);have d4:=vv b5;clear b5 a3;go_wp2_with fail
 refine(q0I A3 A4 n3 n4 c3 c4 _ _ _ a6.o d4.o (by omega)).mono ?_;rintro e w5 hP;obtain⟨A5,n5,c5,rfl,d5,e3,a7⟩:=hP.val2;have d6:=vn e2 a7;have a1:=vv (a1.o.below a7 rfl);have a0:=vv (a0.o.below a7 rfl);have a2:=vv d5;clear d5 a7 hP a6 d4;go_wp2_with fail
 refine(by_ D G2 nd g2 cd k2 d _ _ (HD.o.below d6.o rfl) a0.o b2.o (by omega)).mono ?_;rintro e w6 ⟨A6,n6,c6,rfl,b6,-,a8⟩;have d7:=vn d6 a8;have a1:=vv (a1.o.below a8 rfl);have a2:=vv (a2.o.below a8 rfl);have f6:=b6.le_of HD.o (Nat.div_le_self _ _);have a9:=vv b6;clear b6 a8;go_wp2_with fail
 refine(by_ C G1 nc g1 cc k1 c _ _ (HC.o.below d7.o rfl) a1.o HG.o (by omega)).mono ?_;rintro e w7 ⟨A7,n7,c7,rfl,b7,-,b0⟩;have e4:=vn d7 b0;have a2:=vv (a2.o.below b0 rfl);have a9:=vv (a9.o.below b0 rfl);have f7:=b7.le_of HC.o (Nat.div_le_self _ _);have d8:=vv b7;clear b7 b0;go_wp2_with fail
 refine(q0I A6 A7 n6 n7 c6 c7 _ _ _ a9.o d8.o (by omega)).mono ?_;rintro e w8 hP;obtain⟨A8,n8,c8,rfl,d9,e5,b8⟩:=hP.val2;have b1:=vn e4 b8;have a2:=vv (a2.o.below b8 rfl);have b9:=vv (d9.den c1.o (fun a e=>(e5 a e).2));clear d9 b8 hP a9 d8;go_wp2_with fail
 refine(q0m g 0 v (sg s (a/Nat.gcd a c*(b/Nat.gcd b d))) _ A5 n5 c5 _ _ (HV.o.below b1.o) a2.o (fun a e=>(e3 a e).2) (q0C _ _) (q0W _ _)).mono ?_;rintro e w9 hP;have hP:=hP.f (HV.o.below b1.o);have HN:=vv ((HH.o.below b1.o).num hP);have HF:=vv (hP.2.2.after b1.o);have b9:=vv (b9.o.fs hP.2.2);obtain⟨rfl,-,-⟩:=hP;obtain⟨hi,x,hx⟩:=HN.o;have e6:=hi.lt;have f8:=hi.fz 2;have HI:=vv hi;have e7:=vv hx;clear hi;go_wp2;go_ret
 refine⟨rfl,RatAt.made HI.o ⟨x,e7.o⟩ b9.o HM.o c1.o (by rw[q0C];exact c0.o.1) ?_,fs3 (HF.o.trans (Fs.set2 HI.o _))⟩;have:=congrArg (Nat.cast:Nat->Int) c0.o.2;rw[Int.natCast_mul,Int.natCast_mul (a*b)] at this;cases s
 ·exact this
 ·show -((a/Nat.gcd a c*(b/Nat.gcd b d):Nat):Int)*_ = -((a*b:Nat):Int)*_;rw[Int.neg_mul,Int.neg_mul,this]
theorem q4J(g:Nat)(s:Bool)(A D B C:Option Addr)(na ca nd cd nb cb nc cc a d b c:Nat)(w:World)(h:RatSh w g)(ha:Rd w A na ca (toL a))(hd:Rd w D nd cd (toL d))(hb:Rd w B nb cb (toL b))(hc:Rd w C nc cc (toL c))(hd0:0<d)(hc0:0<c)
  (had:Nat.gcd a d=1) (hbc:Nat.gcd b c=1) (hst:Std w) (sa:Sz a) (sd:Sz d) (sb:Sz b) (sc:Sz c) :
  Calls Tryz.prog 254 #[.pointer (some ⟨g,0,none⟩),.bool s,.slice A na ca,.slice D nd cd,.slice B nb cb,.slice C nc cc] w (q2l g (sg s (a*b)) (d*c) w):=by
 rcases Nat.eq_zero_or_pos a with h0|h0
 ·exact q26 g s A D B C na ca nd cd nb cb nc cc a d b c w h ha hb hd0 hc0 (.inl h0) hst
 rcases Nat.eq_zero_or_pos b with h1|h1
 ·exact q26 g s A D B C na ca nd cd nb cb nc cc a d b c w h ha hb hd0 hc0 (.inr ⟨h0,h1⟩) hst
 exact q3Q g s A D B C na ca nd cd nb cb nc cc a d b c w h ha hd hb hc hd0 hc0 had hbc h0 h1 hst sa sd sb sc
theorem MulR(g gx gy:Nat)(p q:Int)(d e':Nat)(w:World)(h:RatSh w g)(hx:RatAt w gx p d)(hy:RatAt w gy q e')(hst:Std w)(sp:Sz p.natAbs)(sd:Sz d)(sq:Sz q.natAbs)(se:Sz e'):
  Calls Tryz.prog 162 #[.pointer (some ⟨g,0,none⟩),.pointer (some ⟨gx,0,none⟩),.pointer (some ⟨gy,0,none⟩)] w (q2l g (p*q) (d*e') w):=by
 have a5:=hx.lt;have a6:=hy.lt;have HX:=vv hx;have HY:=vv hy;have HH:=vv h;have b1:=vv hst;have HP:=vv sp;have HQ:=vv sq;have HD:=vv sd;have HE:=vv se;obtain⟨A,n,c,h0,h1,hr,hz⟩:=hx.num.ex;obtain⟨B,m,c',k0,k1,hs,b2⟩:=hy.num.ex;have HA:=vv hr;have HB:=vv hs;clear h hx hy hst sp sd sq se hr hs hz b2;have fin:∀(s:Bool) w2 A' n' c2 B' m' c3,(decide (lp p d<0) != decide (lp q e'<0))=s->Below w.heap.size w w2->Rd w2 A' n' c2 (toL (ld p d))->Rd w2 B' m' c3 (toL (ld q e')) ->
   Calls Tryz.prog 254 #[.pointer (some ⟨g,0,none⟩),.bool s,.slice A n c,.slice A' n' c2,.slice B m c',.slice B' m' c3] w2 (q2l g (p*q) (d*e') w):=by
  intro s w2 A' n' c2 B' m' c3 hs a2 ha hb;refine(q4J g s A A' B B' n c n' c2 m c' m' c3 _ _ _ _ w2 (HH.o.below a2) (HA.o.below a2 rfl) ha (HB.o.below a2 rfl) hb (q0Z HX.o.pos) (q0Z HY.o.pos) (q1M HX.o.pos) (q1M HY.o.pos) (b1.o.fs (Fs.of_nil a2)) (HP.o.mono (lp_le _ _)) (HD.o.mono (q2U _ _)) (HQ.o.mono (lp_le _ _)) (HE.o.mono (q2U _ _))).mono ?_;rintro e w' ⟨he,hR,hF⟩;refine⟨he,hR.cross (Nat.mul_pos HX.o.pos HY.o.pos) ?_,hF.after a2⟩;have e0:sg s ((lp p d).natAbs*(lp q e').natAbs)=lp p d*lp q e':=by
   have e1:=q4j (lp p d*lp q e');rw[q33,hs,Int.natAbs_mul] at e1
   conv=>rhs;rw[<- e1]
   by_cases hz:0<(lp p d).natAbs*(lp q e').natAbs
   ·rw[decide_eq_true hz,Bool.and_true]
   ·have:(lp p d).natAbs*(lp q e').natAbs=0:=by omega
    rw[this];cases s<;>rfl
  rw[e0];have c1:=q0E p d;have c2:=q0E q e';simp only[Int.natCast_mul]
  calc lp p d*lp q e'*(↑d*↑e')=(lp p d*d)*(lp q e'*e'):=by grind
   _=(p*ld p d)*(q*ld q e'):=by rw[c1,c2]
   _=_:=by grind
 have Fin:=vv fin;clear fin;go_enter Tryz.func162,Tryz.ntmps162
 go_wp2_with fail
 refine q01 (fun w'=>w'.cell? ⟨gx,0,none⟩=some (.bool (decide (lp p d<0)))/\w'.cell? ⟨gx,1,none⟩=some (.slice A n c)/\w'.cell? ⟨gy,0,none⟩=some (.bool (decide (lp q e'<0)))/\w'.cell? ⟨gy,1,none⟩=some (.slice B m c')) 26
  (.still 0 (.still 1 (.still 2 (.still 3 (.still 4 (.still 5 (.still 6 (.still 7 (.still 8 (.still 9 (.still 10 (.still 11 (.still 12 (.still 13 (.still 14 (.still 15 (.still 16 (.still 17 (.still 19 (.still 20 (.still 21 (.still 22 (.still 23 (.still 24 (.one 18 (.one 25 .done)))))))))))))))))))))))))) (by kernel_rfl) (by kernel_rfl) (fun _ _ d _ _ h=>by cases d<;>exact h) ⟨h0,h1,k0,k1⟩ (fun hS0=>?_)
 iterate 24
  refine q02 (v:=?_) rfl (by rfl) ?_ ?_;rotate_left
  ·intro w b4;go_simp;with_reducible rfl
  simp only[Act.put,sa,sb,sc]
 refine q03 rfl (by rfl) (fun K hK=>?_);go_simp;refine(below gx _ _ _ HX.o.drew).mono ?_;rintro e w1 ⟨A1,n1,c1,rfl,a9,b5,a0⟩;have a7:=vv a9;have a1:Hid (Below w.heap.size w w1):=vv ⟨a0.os,a0.tape,a0.output,a0.size,a0.block⟩;clear a9 a0;go_wp2_with fail
 refine hK.out _ _ ⟨(a1.o.cell (p:=⟨gx,0,none⟩) a5).trans h0,(a1.o.cell (p:=⟨gx,1,none⟩) a5).trans h1,(a1.o.cell (p:=⟨gy,0,none⟩) a6).trans k0,(a1.o.cell (p:=⟨gy,1,none⟩) a6).trans k1⟩ (fun a3=>?_);clear hK;refine q03 rfl (by rfl) (fun K hK=>?_);go_simp;refine(below gy _ _ _ (HY.o.below a1.o)).mono ?_;rintro e w2 ⟨A2,n2,c2,rfl,b0,b6,a8⟩;have b3:=vv b0;have a7:=vv (a7.o.below a8 rfl);have a4:=vn a1 a8;clear b0 a8;go_wp2_with fail
 refine hK.out _ _ ⟨(a4.o.cell (p:=⟨gx,0,none⟩) a5).trans h0,(a4.o.cell (p:=⟨gx,1,none⟩) a5).trans h1,(a4.o.cell (p:=⟨gy,0,none⟩) a6).trans k0,(a4.o.cell (p:=⟨gy,1,none⟩) a6).trans k1⟩ (fun a3=>?_);clear hK;refine q08 ?_;go_wp2_with fail
 refine(Fin.o _ w2 A1 n1 c1 A2 n2 c2 rfl a4.o a7.o b3.o).mono ?_;rintro e w3 ⟨rfl,hR,hF⟩;have HR:=vv hR;go_wp2;go_ret
 exact⟨rfl,HR.o,hF⟩
end Go.Proofs.YtppgcnhlpnmieaaGreatDoor.A
namespace Go.Proofs.YtppgcnhlpnmieaaGreatDoor.B
open Go Go.RowKit
theorem qdp(g gx gy:Nat)(m n:Int)(P Q:Nat)(w:World)(h:RatSh w g)(hx:RatAt w gx m P)(hy:RatAt w gy n Q)(hm:Nat.gcd m.natAbs P=1)(hn:Nat.gcd n.natAbs Q=1)(hst:Std w)(sp:Sm m.natAbs)(sd:Sm P)(sq:Sm n.natAbs)(se:Sm Q):
  Calls Tryz.prog 300 #[.pointer (some ⟨g,0,none⟩),.pointer (some ⟨gx,0,none⟩),.pointer (some ⟨gy,0,none⟩),.bool false] w (q2l g (m*Q+n*P) (P*Q) w):=by
 have d3:=hx.lt;have c0:=hy.lt;have HX:=vv hx;have HY:=vv hy;have HH:=vv h;have g3:=vv hst;have HM:=vv hm;have HN:=vv hn;obtain⟨lx1,lx2⟩:=q3G hx.pos hm;obtain⟨ly1,ly2⟩:=q3G hy.pos hn;have e5:=vv hx.pos;have f1:=vv hy.pos;have d2:=vv (q0o (n:=P) hy.pos);have HL:=vv fun s hs=>q7g (m:=m) (n:=n) (s:=s) hx.pos hy.pos hm hn hs
 have g4:=hx.num;have g5:=hy.num;rw[lx1] at g4;rw[ly1] at g5;obtain⟨A,na,ca,h0,h1,hr,hz⟩:=g4.ex;obtain⟨B,nb,cb,k0,k1,hs,m1⟩:=g5.ex;have HA:=vv hr;have HB:=vv hs;have o7:=hr.sz sp.sz;have o8:=hs.sz sq.sz;have c6:=vv (below gx m P w hx);have j9:=vv fun w' (hb:Below w.heap.size w w')=>below gy n Q w' (hy.below hb)
 rw[lx2] at c6;rw[ly2] at j9;have m2:=vv sd.sz;have m3:=vv se.sz;have e4:Hid (Sz (m*(Q/Nat.gcd P Q:Nat)).natAbs/\Sz (n*(P/Nat.gcd P Q:Nat)).natAbs/\Sz (m*(Q/Nat.gcd P Q:Nat)+n*(P/Nat.gcd P Q:Nat)).natAbs):=by
  have a1:(m*(Q/Nat.gcd P Q:Nat)).natAbs<=m.natAbs*Q:=by rw[Int.natAbs_mul,Int.natAbs_natCast];exact Nat.mul_le_mul_left _ (Nat.div_le_self _ _)
  have a2:(n*(P/Nat.gcd P Q:Nat)).natAbs<=n.natAbs*P:=by rw[Int.natAbs_mul,Int.natAbs_natCast];exact Nat.mul_le_mul_left _ (Nat.div_le_self _ _)
  refine vv ⟨(sp.mul se).mono a1,(sq.mul sd).mono a2,?_⟩;have a3:=Int.natAbs_add_le (m*(Q/Nat.gcd P Q:Nat)) (n*(P/Nat.gcd P Q:Nat));refine Sz.mono (b:=m.natAbs*Q+n.natAbs*P) ?_ (by omega);have b1:=q13 m.natAbs Q;have b2:=q13 n.natAbs P;have b3:=q4e (m.natAbs*Q) (n.natAbs*P);unfold Sm at sp sd sq se;unfold Sz;omega
 obtain⟨v,hv⟩:=h.int;have HV:=vv hv;clear h hx hy hst sp sd sq se hr hs hz m1 hm hn lx1 lx2 ly1 ly2 g4 g5 hv;go_enter Tryz.func300,Tryz.ntmps300
 go_wp2_with fail
 refine c6.o.mono ?_;rintro e w1 ⟨A1,n1,c1,rfl,g6,k2,k3⟩;have o9:=g6.sz m2.o;have a4:=vv g6;have k4:=vv k3;have f2:=vv k2;clear g6 k3 k2;go_wp2_with fail
 refine(j9.o _ k4.o).mono ?_;rintro e w2 ⟨A2,n2,c2,rfl,g7,k5,g8⟩;have p0:=g7.sz m3.o;have a5:=vv g7;have a4:=vv (a4.o.below g8 rfl);have k6:=vn k4 g8;have f3:=vv k5;clear g7 g8 k5;go_wp2_with fail
 refine(q2k A1 A2 n1 n2 c1 c2 P Q w2 a4.o a5.o (g3.o.fs (Fs.of_nil k6.o)) (by omega) (by omega)).mono ?_;rintro e w3 ⟨G,n3,c3,rfl,hG,k7,f4⟩;have p1:=hG.le_of a4.o (Nat.gcd_le_left _ e5.o);have f5:Hid (∀a,G=some a->a.off=0):=vv fun a e=>(k7 a e).2
 have HG:=vv hG;have a4:=vv (a4.o.below f4 rfl);have a5:=vv (a5.o.below f4 rfl);have k8:=vn k6 f4;have m4:=k8.o.size;clear hG f4 k7;obtain⟨o,ho⟩:∃o:Obj,o=.cells #[.bool false,.slice none 0 0] 107:=⟨_,rfl⟩;have g9:Below w3.heap.size w3 (w3.alloc o):=(Below.refl _ w3).alloc lr _;have i0:Below (w3.alloc o).heap.size (w3.alloc o) ((w3.alloc o).alloc o):=(Below.refl _ (w3.alloc o)).alloc lr _;have k9:(w3.alloc o).heap.size=w3.heap.size+1:=by simp
 have l0:IntAt (w3.alloc o) w3.heap.size 0 0:=by rw[ho];exact IntAt.zero w3 _
 have l1:IntAt ((w3.alloc o).alloc o) (w3.heap.size+1) 0 0:=by rw[<- k9,ho];exact IntAt.zero _ _
 obtain⟨wx,e6⟩:=yx ((w3.alloc o).alloc o);have b9:Below w3.heap.size w3 wx:=by rw[e6];exact g9.trans (i0.mono g9.size)
 have a7:=vv (l0.below i0);have b6:=vv l1;rw[<- e6] at a7 b6;have a4:=vv (a4.o.below b9 rfl);have a5:=vv (a5.o.below b9 rfl);have HG:=vv (HG.o.below b9 rfl);have c6:=vn k8 b9;have l2:wx.heap.size=w3.heap.size+1+1:=by rw[e6];simp
 have m5:=vv e6;have HO:=vv ho;have p2:=vv l2;have a0:=(c6.o.cell (p:=⟨gx,0,none⟩) d3).trans h0;have a1:=(c6.o.cell (p:=⟨gx,1,none⟩) d3).trans h1;have b0:=(c6.o.cell (p:=⟨gy,0,none⟩) c0).trans k0;have b1:=(c6.o.cell (p:=⟨gy,1,none⟩) c0).trans k1;have m6:gx<wx.heap.size:=Nat.lt_of_lt_of_le d3 c6.o.size;have i1:gy<wx.heap.size:=Nat.lt_of_lt_of_le c0 c6.o.size;clear g9 i0 k9 l0 l1 b9 e6 ho l2;go_wp2_with fail
 rw[<- HO.o,<- m5.o];refine q01 (fun w'=>w'.cell? ⟨gx,0,none⟩=some (.bool (decide (m<0)))/\w'.cell? ⟨gx,1,none⟩=some (.slice A na ca)) 15
  (.still 0 (.still 1 (.still 2 (.still 3 (.still 4 (.still 5 (.still 6 (.still 7 (.still 8 (.still 9 (.still 10 (.still 11 (.still 12 (.one 13 (.one 14 .done))))))))))))))) (by kernel_rfl) (by kernel_rfl) (fun _ _ d _ _ h=>by cases d<;>exact h) ⟨a0,a1⟩ (fun hS0=>?_)
 iterate 13
  refine q02 (v:=?_) rfl (by rfl) ?_ ?_;rotate_left
  ·intro w l3;go_simp;with_reducible rfl
  simp only[Act.put,sa,sb,sc]
 refine q03 rfl (by rfl) (fun K hK=>?_);go_simp;refine(by_ A2 G n2 n3 c2 c3 Q _ _ a5.o.drew HG.o.drew d2.o (by omega)).mono ?_;rintro e w4 ⟨A4,n4,c4,rfl,i2,-,b7⟩;have b7:Below wx.heap.size wx w4:=⟨b7.os,b7.tape,b7.output,b7.size,b7.block⟩;have p3:=i2.le_of a5.o (Nat.div_le_self _ _);have m7:=vv i2;have a4:=vv (a4.o.below b7 rfl);have a5:=vv (a5.o.below b7 rfl);have HG:=vv (HG.o.below b7 rfl);have a7:=vv (a7.o.below b7);have b6:=vv (b6.o.below b7);have f6:=vn c6 b7;have a0:=(f6.o.cell (p:=⟨gx,0,none⟩) d3).trans h0;have a1:=(f6.o.cell (p:=⟨gx,1,none⟩) d3).trans h1;clear i2 b7;go_wp2_with fail
 refine hK.out _ _ ⟨a0,a1⟩ (fun b4=>?_);clear hK;refine q03 rfl (by rfl) (fun K hK=>?_);go_simp;refine(q0I A A4 na n4 ca c4 _ _ _ (HA.o.below f6.o rfl) m7.o (by omega)).mono ?_;rintro e w5 hP;obtain⟨A5,n5,c5,rfl,l4,m8,d4⟩:=hP.val2;have m9:=vv l4;have a4:=vv (a4.o.below d4 rfl);have a5:=vv (a5.o.below d4 rfl);have HG:=vv (HG.o.below d4 rfl);have a7:=vv (a7.o.below d4);have b6:=vv (b6.o.below d4);have f7:=vn f6 d4;have a0:=(f7.o.cell (p:=⟨gx,0,none⟩) d3).trans h0;have a1:=(f7.o.cell (p:=⟨gx,1,none⟩) d3).trans h1;clear l4 d4 hP;go_wp2_with fail
 refine hK.out _ _ ⟨a0,a1⟩ (fun b4=>?_);clear hK;refine q08 ?_;go_wp2_with fail
 refine(q0m _ 0 0 (m*(Q/Nat.gcd P Q:Nat)) _ A5 n5 c5 _ _ a7.o m9.o (fun a e=>(m8 a e).2) (by rw[Int.natAbs_mul,Int.natAbs_natCast]) (by rw[q33,Int.natAbs_natCast,decide_eq_false (p:=((Q/Nat.gcd P Q:Nat):Int)<0) (Int.not_lt.2 (Int.natCast_nonneg _))];cases decide (m<0)<;>rfl)).mono ?_;rintro e w6 hP;have hP:=hP.f a7.o;have a7:=vv hP.2.1;have b6:=vv (b6.o.fs1 hP.2.2 (by omega));have a4:=vv (a4.o.fs f2.o hP.2.2);have a5:=vv (a5.o.fs f3.o hP.2.2);have HG:=vv (HG.o.fs f5.o hP.2.2);have f8:=vv (hP.below f7.o f7.o.size m4);obtain⟨rfl,-,-⟩:=hP;have b0:=(f8.o.cell (p:=⟨gy,0,none⟩) c0).trans k0;have b1:=(f8.o.cell (p:=⟨gy,1,none⟩) c0).trans k1;have i1:gy<w6.heap.size:=Nat.lt_of_lt_of_le c0 f8.o.size;go_wp2_with fail
 refine q01 (fun w'=>w'.cell? ⟨gy,0,none⟩=some (.bool (decide (n<0)))/\w'.cell? ⟨gy,1,none⟩=some (.slice B nb cb)) 17
  (.still 0 (.still 1 (.still 2 (.still 3 (.still 4 (.still 5 (.still 6 (.still 7 (.still 8 (.still 9 (.still 10 (.still 11 (.still 12 (.still 13 (.still 14 (.one 15 (.one 16 .done))))))))))))))))) (by kernel_rfl) (by kernel_rfl) (fun _ _ d _ _ h=>by cases d<;>exact h) ⟨b0,b1⟩ (fun hS0=>?_)
 iterate 15
  refine q02 (v:=?_) rfl (by rfl) ?_ ?_;rotate_left
  ·intro w l3;go_simp;with_reducible rfl
  simp only[Act.put,sa,sb,sc]
 refine q03 rfl (by rfl) (fun K hK=>?_);go_simp;refine(by_ A1 G n1 n3 c1 c3 P _ _ a4.o.drew HG.o.drew d2.o (by omega)).mono ?_;rintro e w7 ⟨A7,n7,c7,rfl,i3,-,b8⟩;have b8:Below w6.heap.size w6 w7:=⟨b8.os,b8.tape,b8.output,b8.size,b8.block⟩;have p4:=i3.le_of a4.o (Nat.div_le_self _ _);have n0:=vv i3;have a4:=vv (a4.o.below b8 rfl);have a5:=vv (a5.o.below b8 rfl);have HG:=vv (HG.o.below b8 rfl);have a7:=vv (a7.o.below b8);have b6:=vv (b6.o.below b8);have f9:=vn f8 b8;have b0:=(f9.o.cell (p:=⟨gy,0,none⟩) c0).trans k0;have b1:=(f9.o.cell (p:=⟨gy,1,none⟩) c0).trans k1;clear i3 b8;go_wp2_with fail
 refine hK.out _ _ ⟨b0,b1⟩ (fun b4=>?_);clear hK;refine q03 rfl (by rfl) (fun K hK=>?_);go_simp;refine(q0I B A7 nb n7 cb c7 _ _ _ (HB.o.below f9.o rfl) n0.o (by omega)).mono ?_;rintro e w8 hP;obtain⟨A8,n8,c8,rfl,l5,n6,d5⟩:=hP.val2;have n9:=vv l5;have a4:=vv (a4.o.below d5 rfl);have a5:=vv (a5.o.below d5 rfl);have HG:=vv (HG.o.below d5 rfl);have a7:=vv (a7.o.below d5);have b6:=vv (b6.o.below d5);have g0:=vn f9 d5;have b0:=(g0.o.cell (p:=⟨gy,0,none⟩) c0).trans k0;have b1:=(g0.o.cell (p:=⟨gy,1,none⟩) c0).trans k1;clear l5 d5 hP;go_wp2_with fail
 refine hK.out _ _ ⟨b0,b1⟩ (fun b4=>?_);clear hK;refine q08 ?_;go_wp2_with fail
 refine(q0m _ 0 0 (n*(P/Nat.gcd P Q:Nat)) _ A8 n8 c8 _ _ b6.o n9.o (fun a e=>(n6 a e).2) (by rw[Int.natAbs_mul,Int.natAbs_natCast]) ?_).mono ?_
 ·rw[q33,Int.natAbs_natCast,decide_eq_false (p:=((P/Nat.gcd P Q:Nat):Int)<0) (Int.not_lt.2 (Int.natCast_nonneg _))];cases decide (n<0)<;>cases decide (0<n.natAbs*(P/Nat.gcd P Q))<;>rfl
 rintro e w9 hP;have hP:=hP.f b6.o;have b6:=vv hP.2.1;have a7:=vv (a7.o.fs1 hP.2.2 (by omega));have a4:=vv (a4.o.fs f2.o hP.2.2);have a5:=vv (a5.o.fs f3.o hP.2.2);have HG:=vv (HG.o.fs f5.o hP.2.2);have l6:=vv (hP.below g0.o g0.o.size (by omega));obtain⟨rfl,-,-⟩:=hP;clear a0 a1 b0 b1;go_wp2_with fail
 refine(Add _ 0 _ 0 _ 0 _ _ _ _ a7.o a7.o b6.o e4.o.1 e4.o.2.1).mono ?_;rintro e w10 hP;have hP:=hP.f a7.o;have a7:=vv hP.2.1;have a4:=vv (a4.o.fs f2.o hP.2.2);have a5:=vv (a5.o.fs f3.o hP.2.2);have HG:=vv (HG.o.fs f5.o hP.2.2);have d6:=vv (hP.below l6.o l6.o.size (by omega));obtain⟨rfl,-,-⟩:=hP;obtain⟨s,hs⟩:=yx (m*(Q/Nat.gcd P Q:Nat)+n*(P/Nat.gcd P Q:Nat));have e4:=vv e4.o.2.2;have HL:=vv (HL.o s hs);rw[<- hs] at a7 e4;have HS:=vv hs;have a8:=a7.o.lt;have e7:=a7.o;obtain⟨AS,ns,cs,s0,s1,g1,l7⟩:=e7.ex;have i4:=g1.words;have p5:=g1.sz e4.o;have g2:=vv g1;have p6:=vv l7;clear hs g1 l7 e7;rcases Nat.eq_zero_or_pos ns with hz|o0
 ·subst hz;have l8:s=0:=by have:=q05.1 i4;omega
  have HF:Hid (m*Q+n*P=0):=by
   refine vv ?_;have e1:=HL.o.2;rw[l8] at e1;have hp:(0:Int)<(P/Nat.gcd P Q*(Q/Nat.gcd (Int.natAbs 0) (Nat.gcd P Q)):Nat):=by
    have:0<P/Nat.gcd P Q*(Q/Nat.gcd (Int.natAbs 0) (Nat.gcd P Q)):=Nat.mul_pos (Nat.div_pos (Nat.le_of_dvd e5.o (Nat.gcd_dvd_left _ _)) d2.o) (by rw[Int.natAbs_zero,Nat.gcd_zero_left];exact Nat.div_pos (Nat.le_of_dvd f1.o (Nat.gcd_dvd_right _ _)) d2.o);omega
   simp [sg] at e1
   have:=Int.mul_eq_zero.1 e1.symm;rcases this with h|h
   ·exact h
   ·have h':((P/Nat.gcd P Q*(Q/Nat.gcd (Int.natAbs 0) (Nat.gcd P Q)):Nat):Int)=0:=by
     rw[Int.natAbs_zero,Nat.gcd_zero_left]
     exact_mod_cast h
    omega
  clear l8 i4;have hB:Below w10.heap.size w10 (w10.alloc (.cells #[.int .u32 1] 34)):=(Below.refl _ _).alloc lr _;have hO:Own (w10.alloc (.cells #[.int .u32 1] 34)) w10.heap.size 34 [1]:=Own.lit _ (q0v.2 ⟨by omega,q0M⟩) (by simp [q0p]);have i5:=vn d6 hB;have HO:=vv hO;clear hB hO;go_wp2_with fail
  refine(qbL g false none (some ⟨w10.heap.size,0,none⟩) 0 0 1 1 [] [1] _ (HH.o.below i5.o) (Rd.nil _) (HO.o.rd rfl lr (by omega)) (by decide) (fun a e=>by cases e) (fun a e=>by cases e;rfl) (g3.o.fs (Fs.of_nil i5.o)) (by omega) (by omega)).mono ?_;rintro e w11 ⟨rfl,hR,hF⟩;have HR:=vv hR;go_wp2;go_ret
  refine⟨rfl,?_,hF.after i5.o⟩;rw[HF.o];exact HR.o.cross (Nat.mul_pos e5.o f1.o) (by simp [sg,val])
 ·have p7:((ns:Int)==0)=false:=by simp;omega
  clear i4;go_wp2_with fail
  refine(q2k AS G ns n3 cs c3 _ _ _ g2.o HG.o (g3.o.fs (Fs.of_nil d6.o)) (by omega) (by omega)).mono ?_;rintro e w11 ⟨H,n11,c11,rfl,i6,l9,a9⟩;have o1:=i6.le_of HG.o (Nat.gcd_le_right _ d2.o);have c9:=vv i6;have o2:Hid (∀a,H=some a->a.off=0):=vv fun a e=>(l9 a e).2
  have i7:=vv (q0o (n:=s.natAbs) d2.o);have g2:=vv (g2.o.below a9 rfl);have a4:=vv (a4.o.below a9 rfl);have a5:=vv (a5.o.below a9 rfl);have HG:=vv (HG.o.below a9 rfl);have s0:=(a9.cell (p:=⟨w3.heap.size,0,none⟩) a8).trans s0;have s1:=(a9.cell (p:=⟨w3.heap.size,1,none⟩) a8).trans s1;have a8:w3.heap.size<w11.heap.size:=Nat.lt_of_lt_of_le a8 a9.size;have i8:=vn d6 a9;clear i6 l9 a9;go_wp2_with fail
  refine q01 (fun w'=>w'.cell? ⟨w3.heap.size,0,none⟩=some (.bool (decide (s<0)))/\w'.cell? ⟨w3.heap.size,1,none⟩=some (.slice AS ns cs)) 14
   (.still 0 (.still 1 (.still 2 (.still 3 (.still 4 (.still 5 (.still 6 (.still 7 (.still 8 (.still 9 (.still 10 (.still 11 (.one 12 (.one 13 .done)))))))))))))) (by kernel_rfl) (by kernel_rfl) (fun _ _ d _ _ h=>by cases d<;>exact h) ⟨s0,s1⟩ (fun hS0=>?_)
  iterate 12
   refine q02 (v:=?_) rfl (by rfl) ?_ ?_;rotate_left
   ·intro w l3;go_simp;with_reducible rfl
   simp only[Act.put,sa,sb,sc]
  refine q03 rfl (by rfl) (fun K hK=>?_);go_simp;refine(by_ AS H ns n11 cs c11 _ _ _ g2.o.drew c9.o.drew i7.o (by omega)).mono ?_;rintro e w12 ⟨A12,n12,c12,rfl,e8,-,a6⟩;have a6:Below w11.heap.size w11 w12:=⟨a6.os,a6.tape,a6.output,a6.size,a6.block⟩;have d7:=vv e8;have a4:=vv (a4.o.below a6 rfl);have a5:=vv (a5.o.below a6 rfl);have HG:=vv (HG.o.below a6 rfl);have c9:=vv (c9.o.below a6 rfl);have s0:=(a6.cell (p:=⟨w3.heap.size,0,none⟩) a8).trans s0;have s1:=(a6.cell (p:=⟨w3.heap.size,1,none⟩) a8).trans s1;have a8:w3.heap.size<w12.heap.size:=Nat.lt_of_lt_of_le a8 a6.size;have i9:=vn i8 a6;clear e8 a6;go_wp2_with fail
  refine hK.out _ _ ⟨s0,s1⟩ (fun b4=>?_);clear hK;refine q03 rfl (by rfl) (fun K hK=>?_);go_simp;refine(q0F _ _ _ _ _ d7.o).mono ?_;rintro e w13 ⟨rfl,hO,b5⟩;have j0:=vv (hO.rd d7.o.len.symm lr d7.o.sm);have a4:=vv (a4.o.below b5 rfl);have a5:=vv (a5.o.below b5 rfl);have HG:=vv (HG.o.below b5 rfl);have c9:=vv (c9.o.below b5 rfl);have s0:=(b5.cell (p:=⟨w3.heap.size,0,none⟩) a8).trans s0;have s1:=(b5.cell (p:=⟨w3.heap.size,1,none⟩) a8).trans s1;have d0:=vn i9 b5;clear hO b5;go_wp2_with fail
  refine hK.out _ _ ⟨s0,s1⟩ (fun b4=>?_);clear hK;refine q08 ?_;go_wp2_with fail
  refine(q0m g 0 v (sg (decide (s<0)) (s.natAbs/Nat.gcd s.natAbs (Nat.gcd P Q))) _ _ n12 n12 _ _ (HV.o.below d0.o) j0.o (fun a e=>by cases e;rfl) (q0C _ _) (q0W _ _)).mono ?_;rintro e w14 hP;have hP:=hP.f (HV.o.below d0.o);have j1:=vv ((HH.o.below d0.o).num hP);have HF:=vv (hP.2.2.after d0.o);have a4:=vv (a4.o.fs f2.o hP.2.2);have a5:=vv (a5.o.fs f3.o hP.2.2);have HG:=vv (HG.o.fs f5.o hP.2.2);have c9:=vv (c9.o.fs o2.o hP.2.2);obtain⟨rfl,-,-⟩:=hP;clear s0 s1;go_wp2_with fail
  refine(by_ A1 G n1 n3 c1 c3 P _ _ a4.o HG.o d2.o (by omega)).mono ?_;rintro e w15 ⟨A15,n15,c15,rfl,d8,-,d1⟩;have o3:=d8.le_of a4.o (Nat.div_le_self _ _);have d9:=vv d8;have a5:=vv (a5.o.below d1 rfl);have c9:=vv (c9.o.below d1 rfl);have j2:=vv d1;clear d8 d1;go_wp2_with fail
  refine(by_ A2 H n2 n11 c2 c11 Q _ _ a5.o c9.o i7.o (by omega)).mono ?_;rintro e w16 ⟨A16,n16,c16,rfl,e0,-,e2⟩;have o4:=e0.le_of a5.o (Nat.div_le_self _ _);have j3:=vv e0;have d9:=vv (d9.o.below e2 rfl);have j4:=vn j2 e2;clear e0 e2;go_wp2_with fail
  refine(q0I A15 A16 n15 n16 c15 c16 _ _ _ d9.o j3.o (by omega)).mono ?_;rintro e w17 hP;obtain⟨A17,n17,c17,rfl,e9,j5,f0⟩:=hP.val2;have e3:=vn j4 f0;have m0:Hid (0<P/Nat.gcd P Q*(Q/Nat.gcd s.natAbs (Nat.gcd P Q))):=vv (Nat.mul_pos (Nat.div_pos (Nat.le_of_dvd e5.o (Nat.gcd_dvd_left _ _)) d2.o) (Nat.div_pos (Nat.le_of_dvd f1.o (Nat.dvd_trans (Nat.gcd_dvd_right _ _) (Nat.gcd_dvd_right _ _))) i7.o));have j6:=vv (e9.den m0.o (fun a e=>(j5 a e).2));clear e9 f0 hP;obtain⟨hi,x,hx⟩:=j1.o;have j7:=(e3.o.cell (p:=⟨g,2,none⟩) hi.lt).trans hx;have hi:=hi.below e3.o;have o5:=hi.lt;have p8:=hi.fz 2;have HI:=vv hi;have o6:=vv j7;have j8:Hid (Fs [(g,0,2)] w w17):=vv ((HF.o.trans (Fs.of_nil e3.o)).drop (fun p hp _=>by simpa using hp) (fun p hp=>by simpa using hp));clear hi hx;go_wp2;go_ret
  refine⟨rfl,RatAt.made HI.o ⟨x,o6.o⟩ j6.o (Nat.mul_pos e5.o f1.o) m0.o (by rw[q0C];exact HL.o.1) ?_,fs3 (j8.o.trans (Fs.set2 HI.o _))⟩;rw[HL.o.2]
theorem AddR(g gx gy:Nat)(p q:Int)(d e':Nat)(w:World)(h:RatSh w g)(hx:RatAt w gx p d)(hy:RatAt w gy q e')(hst:Std w)(sp:Sm p.natAbs)(sd:Sm d)(sq:Sm q.natAbs)(se:Sm e'):
  Calls Tryz.prog 233 #[.pointer (some ⟨g,0,none⟩),.pointer (some ⟨gx,0,none⟩),.pointer (some ⟨gy,0,none⟩)] w (q2l g (p*e'+q*d) (d*e') w):=by
 have HE:Hid ((lp p d*↑(ld q e')+lp q e'*↑(ld p d))*((d*e':Nat):Int)=(p*e'+q*d)*((ld p d*ld q e':Nat):Int)):=by
  have c1:=q0E p d;have c2:=q0E q e';refine vv ?_;simp only[Int.natCast_mul]
  calc (lp p d*↑(ld q e')+lp q e'*↑(ld p d))*(↑d*↑e')=(lp p d*d)*↑(ld q e')*e'+(lp q e'*e')*↑(ld p d)*d:=by grind
   _=(p*ld p d)*↑(ld q e')*e'+(q*ld q e')*↑(ld p d)*d:=by rw[c1,c2]
   _=_:=by grind
 have HP:=vv (Nat.mul_pos hx.pos hy.pos);have HS:=vv (qdp g gx gy (lp p d) (lp q e') (ld p d) (ld q e') w h (hx.cross (q0Z hx.pos) (q0E p d).symm) (hy.cross (q0Z hy.pos) (q0E q e').symm) (q1M hx.pos) (q1M hy.pos) hst (sp.mono (lp_le _ _)) (sd.mono (q2U _ _)) (sq.mono (lp_le _ _)) (se.mono (q2U _ _)));clear h hx hy hst sp sd sq se;go_enter Tryz.func233,Tryz.ntmps233
 go_wp2_with fail
 refine HS.o.mono ?_;rintro e w1 ⟨rfl,hR,hF⟩;have HR:=vv hR;go_wp2;go_ret
 exact⟨rfl,HR.o.cross HP.o HE.o,hF⟩
theorem SetUint64(g o:Nat)(v:Int)(k:Nat)(w:World)(h:IntAt w g o v)(hk:k<18446744073709551616):
  Calls Tryz.prog 85 #[.pointer (some ⟨g,o,none⟩),.int .u64 (k:Int)] w (q0i g o (k:Int) w):=by
 have HI:=vv h;have HF:=vv (q1Z k w hk);clear h hk;go_enter Tryz.func85,Tryz.ntmps85
 go_wp2_with fail
 refine HF.o.mono ?_;rintro e w1 ⟨A,m,c,rfl,hR,a0,hB⟩;have HR:=vv hR;clear hR;go_wp2_with fail
 refine(q0m g o v k _ A m c k _ (HI.o.below hB) HR.o (fun a e=>(a0 a e).2) rfl (q1w (by omega))).mono ?_;rintro e w2 ⟨rfl,hI,hF⟩;go_wp2;go_ret
 exact⟨rfl,hI,(Fm.of_below hB HI.o.lt).trans hF⟩
theorem IsInt(g:Nat)(p:Int)(d:Nat)(w:World)(h:RatAt w g p d):
  Calls Tryz.prog 64 #[.pointer (some ⟨g,0,none⟩)] w fun e w'=>e=.returned (.bool (decide (ld p d=1)))/\w=w':=by
 have a3:=h.lt;have hp:=q0Z (p:=p) h.pos;obtain⟨A,n,c,e,⟨hd,hz⟩⟩:=h.den;obtain⟨D,hD⟩:=yx (ld p d);rw[<- hD] at hd hp ⊢;clear h hz hD;rcases hd with ⟨rfl,hd⟩|⟨hn,hr⟩
 ·subst hd;clear hp;go_enter Tryz.func64,Tryz.ntmps64
  go_wp2;go_ret
  exact⟨rfl,rfl⟩
 ·have a4:=hr.sm;have hl:=hr.len;have h0:((n:Int)==0)=false:=by simp;omega
  by_cases h1:n=1
  ·subst h1;obtain⟨b,off,rfl,hb,hc⟩:=hr.cell hn;have a0:=hc 0 hn;rw[Nat.add_zero] at a0;have hx:nth (toL D) 0=D:=by
    have e1:=q2o hp;have e2:toL (D/4294967296)=[]:=by
     rw[e1] at hl;exact List.length_eq_zero_iff.1 (by simpa using hl)
    have e3:=q2z.1 e2;rw[e1];show D%4294967296=D;omega
   rw[hx] at a0;have ht:(((D:Nat):Int)==1)=decide (D=1):=by
    by_cases h:D=1
    ·subst h;rfl
    ·rw[decide_eq_false h,beq_eq_false_iff_ne];omega
   obtain⟨t,a1⟩:=yx (decide (D=1));rw[<- a1] at ht ⊢;clear hc hr hl hx a1 hp hn;go_enter Tryz.func64,Tryz.ntmps64
   go_wp2;go_ret
   exact⟨rfl,rfl⟩
  ·have a2:decide (D=1)=false:=by
    refine decide_eq_false fun h=>h1 ?_
    rw[<- hl,h]
    rfl
   have h2:((n:Int)==1)=false:=by rw[beq_eq_false_iff_ne];omega
   rw[a2];clear hr hl hp a2 h1;go_enter Tryz.func64,Tryz.ntmps64
   go_wp2;go_ret
   exact⟨rfl,rfl⟩
end Go.Proofs.YtppgcnhlpnmieaaGreatDoor.B
namespace Go.Proofs.YtppgcnhlpnmieaaGreatDoor.R5
open Go Go.RowKit
theorem qcW(neg:Bool)(A:Option Addr)(n c:Nat)(B':Option Addr)(m d N D:Nat)(w:World)(ha:Rd w A n c (toL N))(hb:Rd w B' m d (toL D))(hn:n<=16384)(hm:m<=16384)(hD:0<D)(hg:Nat.gcd N D=1)(h0:N=0->neg=false)(hst:Std w):
  Calls Tryz.prog 173 #[q1b neg A n c B' m d] w fun e w'=>e=.returned (.int .i64 0)/\Below w.heap.size w w':=by
 have d5:1<=m:=by
  rcases Nat.eq_zero_or_pos m with h|h
  ·subst h;have h1:=hb.lt;rw[q00,Nat.pow_zero] at h1;omega
  ·exact h
 have d6:((m:Int)==0)=false:=by rw[beq_eq_false_iff_ne];omega
 have e9:(m:Int)<=16384:=by omega
 obtain⟨w0,b1⟩:=yx (w.alloc (.cells #[.bool neg,.slice A n c,.slice B' m d] 115));have c7:Below w.heap.size w w0:=by rw[b1];exact(Below.refl _ w).alloc lr _
 have a4:RatioBox w0 w.heap.size neg A n c B' m d:=by rw[b1];exact RatioBox.made w _ _ _ _ _ _ _ _
 have HX:=vv a4;have HB:=vv c7;have d7:=vv b1;have HA:=vv ha;have f3:=vv hb;have d8:=vv hst;have c8:=q1L ha hn;have a5:q23 m (toL D)=true:=q1L hb hm;have HM:=vv fun w' (h:Below w.heap.size w w')=>May A n c (toL N) w' (ha.below h rfl)
 have c9:=vv fun w' (h:Below w.heap.size w w')=>May B' m d (toL D) w' (hb.below h rfl)
 rw[c8] at HM;rw[a5] at c9;have HI:=vv fun w' (h:Below w.heap.size w w')=>qd5 A n c (toL N) w' (ha.below h rfl)
 have d0:=vv fun w' (h:Below w.heap.size w w')=>qd5 B' m d (toL D) w' (hb.below h rfl)
 rw[q00] at HI d0;have d9:Hid (Sz N):=vv (by
  have h1:=q0h N;rw[ha.words,q1J] at h1;have:=q0t h1;unfold Sz;omega)
 have e0:Hid (Sz D):=vv (by
  have h1:=q0h D;rw[hb.words,q1J] at h1;have:=q0t h1;unfold Sz;omega)
 have b5:N=0->D=1:=fun h=>by rw[h,Nat.gcd_zero_left] at hg;exact hg
 have e1:=vv hg;have f0:=a4.c0;have f1:=a4.c1;have f2:=a4.c2;have b2:=a4.lt;clear ha hb hn hm hst c8 a5 b1 c7 a4 hg hD d5;go_enter Tryz.func173,Tryz.ntmps173
 go_wp2_with fail
 rw[<- d7.o];refine(HM.o _ HB.o).mono ?_;rintro e w1 ⟨rfl,b6⟩;have HX:=vv (HX.o.below b6);have HB:=vn HB b6;obtain⟨f0,f1,f2,b2⟩:=HX.o;clear b6;go_wp2_with fail
 refine(c9.o _ HB.o).mono ?_;rintro e w2 ⟨rfl,b7⟩;have HX:=vv (HX.o.below b7);have HB:=vn HB b7;obtain⟨f0,f1,f2,b2⟩:=HX.o;clear b7;go_wp2_with fail
 refine(HI.o _ HB.o).mono ?_;rintro e w3 ⟨g1,rfl,f4,d1,b8⟩;have HX:=vv (HX.o.below b8);have HB:=vn HB b8;have HN:=vv d1;obtain⟨f0,f1,f2,b2⟩:=HX.o;clear b8 d1;go_wp2_with fail
 refine(d0.o _ HB.o).mono ?_;rintro e w4 ⟨g2,rfl,f5,d2,b3⟩;have HX:=vv (HX.o.below b3);have HN:=vv (HN.o.below b3);have HD:=vv d2;have HB:=vn HB b3;have f0:=HX.o.c0;have b2:=HX.o.lt;clear b3 d2 f1 f2;go_wp2_with fail
 refine(B.Sign g1 0 _ _ HN.o).mono ?_;rintro e w' ⟨rfl,rfl⟩;have fin:∀w5,Below w4.heap.size w4 w5->∃w6 gz,w6=w5.alloc q8z/\gz=w5.heap.size/\Below w.heap.size w w6/\Calls Tryz.prog 263 #[.pointer (some ⟨gz,0,none⟩),.pointer none,.pointer none,.pointer (some ⟨g1,0,none⟩),.pointer (some ⟨g2,0,none⟩)] w6 fun e w'=>e=.returned (.pointer (some ⟨gz,0,none⟩))/\IntAt w' gz 0 1/\Below w.heap.size w w':=by
  intro w5 b9;have c0:=HB.o.trans (b9.mono HB.o.size);obtain⟨z1,z2⟩:=q1x w5;have b4:=c0.trans (z2.mono c0.size);refine⟨_,_,rfl,rfl,b4,?_⟩;refine(B.GCD _ 0 g1 0 g2 0 0 _ _ _ _ _ z1 ((HN.o.below b9).below z2) ((HD.o.below b9).below z2) d9.o e0.o (d8.o.fs (Fs.of_nil b4))).mono ?_;rintro e w' hP;have hP:=hP.f z1;refine⟨hP.1,?_,hP.below b4 b4.size c0.size⟩;have:=hP.2.1
  rwa [Int.natAbs_natCast,Int.natAbs_natCast,e1.o] at this
 have Fin:=vv fin;have HC:Hid (q3p 1 1=0):=vv rfl;clear fin;rcases Nat.eq_zero_or_pos N with hN|hN
 ·have hs:((N:Nat):Int).sign=0:=by rw[hN];rfl
  rw[hs];rw[h0 hN] at f0;have e2:=vv (b5 hN);clear hs hN h0 b5;go_wp2_with fail
  refine(B.NewInt 1 _ (by omega) (by omega)).mono ?_;rintro e w5 ⟨g5,rfl,f6,d3,c1⟩;have e3:=vv d3;have e4:=vv (HD.o.below c1);have e5:=vv c1;clear d3 c1;go_wp2_with fail
  refine(B.Cmp g2 0 g5 0 _ _ _ e4.o e3.o).mono ?_;rintro e w6 ⟨rfl,d4⟩;rw[e2.o,show q3p ((1:Nat):Int) 1=0 from rfl];have e6:=vn e5 d4;clear d4;obtain⟨w7,gz,a6,a7,e7,hG⟩:=Fin.o _ e6.o;have c2:=vv a6;have c3:=vv a7;have HG:=vv hG;clear a6 a7 hG;go_wp2_with fail
  rw[<- c2.o,<- c3.o];refine HG.o.mono ?_;rintro e w8 ⟨rfl,a8,a9⟩;have a1:=vv a8;have c4:=vv a9;clear a8 a9;go_wp2_with fail
  refine(B.NewInt 1 _ (by omega) (by omega)).mono ?_;rintro e w9 ⟨g9,rfl,e8,b0,a2⟩;have c5:=vv b0;have a1:=vv (a1.o.below a2);have c6:=vn c4 a2;clear b0 a2;go_wp2_with fail
  refine(B.Cmp gz 0 g9 0 _ _ _ a1.o c5.o).mono ?_;rintro e w10 ⟨rfl,a0⟩;rw[HC.o];have a3:=vn c6 a0;clear a0;go_wp2;go_ret
  exact⟨rfl,a3.o⟩
 ·have hs:((N:Nat):Int).sign=1:=Int.sign_eq_one_of_pos (by omega);rw[hs];clear hs hN h0 b5;obtain⟨w7,gz,a6,a7,e7,hG⟩:=Fin.o _ (Below.refl _ _);have c2:=vv a6;have c3:=vv a7;have HG:=vv hG;clear a6 a7 hG;go_wp2_with fail
  rw[<- c2.o,<- c3.o];refine HG.o.mono ?_;rintro e w8 ⟨rfl,a8,a9⟩;have a1:=vv a8;have c4:=vv a9;clear a8 a9;go_wp2_with fail
  refine(B.NewInt 1 _ (by omega) (by omega)).mono ?_;rintro e w9 ⟨g9,rfl,e8,b0,a2⟩;have c5:=vv b0;have a1:=vv (a1.o.below a2);have c6:=vn c4 a2;clear b0 a2;go_wp2_with fail
  refine(B.Cmp gz 0 g9 0 _ _ _ a1.o c5.o).mono ?_;rintro e w10 ⟨rfl,a0⟩;rw[HC.o];have a3:=vn c6 a0;clear a0;go_wp2;go_ret
  exact⟨rfl,a3.o⟩
theorem qe4(neg:Bool)(A:Option Addr)(n c:Nat)(B':Option Addr)(m d N D:Nat)(w:World)(ha:Rd w A n c (toL N))(hb:Rd w B' m d (toL D))(hN:Sz N)(hDs:Sz D)(hD:0<D)(hst:Std w):
  Calls Tryz.prog 174 #[q1b neg A n c B' m d] w (q2x (sg neg N) D w):=by
 obtain⟨w0,a8⟩:=yx (w.alloc (.cells #[.bool neg,.slice A n c,.slice B' m d] 115));have c0:Below w.heap.size w w0:=by rw[a8];exact(Below.refl _ w).alloc lr _
 have a3:RatioBox w0 w.heap.size neg A n c B' m d:=by rw[a8];exact RatioBox.made w _ _ _ _ _ _ _ _
 have HX:=vv a3;have HB:=vv c0;have c3:=vv a8;have c4:=vv hst;have c5:=vv hN;have c6:=vv hDs;have c7:=vv hD;have HI:=vv fun w' (h:Below w.heap.size w w')=>qd5 A n c (toL N) w' (ha.below h rfl)
 have a9:=vv fun w' (h:Below w.heap.size w w')=>qd5 B' m d (toL D) w' (hb.below h rfl)
 rw[q00] at HI a9;have f0:=a3.c0;have f1:=a3.c1;have b0:=a3.lt;clear ha hb hst a8 c0 a3 hN hDs hD;go_enter Tryz.func174,Tryz.ntmps174
 go_wp2_with fail
 rw[<- c3.o];refine(HI.o _ HB.o).mono ?_;rintro e w1 ⟨g1,rfl,d4,c1,b1⟩;have HX:=vv (HX.o.below b1);have HB:=vn HB b1;have HN:=vv c1;have d5:=HB.o.size;have c8:w.heap.size<g1:=by omega
 clear b1 c1 f0 f1 b0;have f0:=HX.o.c0;have b0:=HX.o.lt;have fin:∀wc,Below w.heap.size w wc->RatioBox wc w.heap.size neg A n c B' m d->IntAt wc g1 0 (sg neg N) ->
   ∃w2 gz,w2=wc.alloc q4q/\gz=wc.heap.size/\RatAt w2 gz 0 1/\IntAt w2 g1 0 (sg neg N)/\RatioBox w2 w.heap.size neg A n c B' m d/\Below w.heap.size w w2/\w.heap.size<=gz:=by
  intro wc hb hx hi;obtain⟨z1,z2⟩:=q2P wc;exact⟨_,_,rfl,rfl,z1,hi.below z2,hx.below z2,hb.trans (z2.mono hb.size),hb.size⟩
 have Fin:=vv fin;have fin2:∀w2 gz,RatAt w2 gz 0 1->IntAt w2 g1 0 (sg neg N)->Below w.heap.size w w2->w.heap.size<=gz->∀w3 g3,Below w2.heap.size w2 w3->IntAt w3 g3 0 ((D:Nat):Int) ->
   Calls Tryz.prog 265 #[.pointer (some ⟨gz,0,none⟩),.pointer (some ⟨g1,0,none⟩),.pointer (some ⟨g3,0,none⟩)] w3 fun e w'=>e=.returned (.pointer (some ⟨gz,0,none⟩))/\RatAt w' gz (sg neg N) D/\Below w.heap.size w w':=by
  intro w2 gz hz hi hb hg w3 g3 b2 c9;have b3:=hb.trans (b2.mono hb.size);refine(B.SetFrac gz g1 g3 (sg neg N) D w3 (hz.below b2).sh (hi.below b2) c9 c7.o (c4.o.fs (Fs.of_nil b3)) (by rw[q0C];exact c5.o) c6.o).mono ?_;rintro e w' hP;exact⟨hP.1,hP.2.1,hP.below b3 b3.size hg⟩
 have Fin2:=vv fin2;clear fin fin2;cases neg
 ·obtain⟨w2,gz,a0,a4,hz,hi,hx,hb,hg⟩:=Fin.o w1 HB.o HX.o HN.o;have f2:=hx.c2;have a1:=hx.lt;rw[a0] at f2 a1;have b4:=vv a0;have b5:=vv a4;have HZ:=vv hz;have b6:=vv hi;have d0:=vv hx;have a2:=vv hb;clear a0 a4 hz hi hx hb;go_wp2_with fail
  rw[<- b4.o,<- b5.o];refine(a9.o _ a2.o).mono ?_;rintro e w3 ⟨g3,rfl,d1,a5,a6⟩;have b7:=vv a5;have b8:=vv a6;clear a5 a6;go_wp2_with fail
  refine(Fin2.o w2 gz HZ.o b6.o a2.o hg w3 g3 b8.o b7.o).mono ?_;rintro e w4 ⟨rfl,hR,a7⟩;have HR:=vv hR;have b9:=vv a7;clear hR a7;go_wp2;go_ret
  exact⟨_,rfl,hg,HR.o,b9.o⟩
 ·go_wp2_with fail
  refine(B.Neg g1 0 g1 0 _ _ _ HN.o HN.o).mono ?_;rintro e w2 hP;have hP:=hP.f HN.o;have c2:RatioBox w2 w.heap.size true A n c B' m d:=⟨(hP.2.2.cell w.heap.size 0 HX.o.lt fun q hq e=>by rw[List.mem_singleton.1 hq] at e;simp only at e;omega).trans HX.o.c0,(hP.2.2.cell w.heap.size 1 HX.o.lt fun q hq e=>by rw[List.mem_singleton.1 hq] at e;simp only at e;omega).trans HX.o.c1,(hP.2.2.cell w.heap.size 2 HX.o.lt fun q hq e=>by rw[List.mem_singleton.1 hq] at e;simp only at e;omega).trans HX.o.c2,Nat.lt_of_lt_of_le HX.o.lt hP.2.2.size⟩;have d2:=vv c2;have d3:Hid (IntAt w2 g1 0 (sg true N)):=vv hP.2.1;have a2:=vv (hP.below HB.o HB.o.size (by omega));obtain⟨rfl,-,-⟩:=hP;clear c2 f0 b0;obtain⟨w2',gz,a0,a4,hz,hi,hx,hb,hg⟩:=Fin.o w2 a2.o d2.o d3.o;have f2:=hx.c2;have a1:=hx.lt;rw[a0] at f2 a1;have b4:=vv a0;have b5:=vv a4;have HZ:=vv hz;have b6:=vv hi;have d0:=vv hx;have a2:=vv hb;clear a0 a4 hz hi hx hb;go_wp2_with fail
  rw[<- b4.o,<- b5.o];refine(a9.o _ a2.o).mono ?_;rintro e w3 ⟨g3,rfl,d1,a5,a6⟩;have b7:=vv a5;have b8:=vv a6;clear a5 a6;go_wp2_with fail
  refine(Fin2.o _ gz HZ.o b6.o a2.o hg w3 g3 b8.o b7.o).mono ?_;rintro e w4 ⟨rfl,hR,a7⟩;have HR:=vv hR;have b9:=vv a7;clear hR a7;go_wp2;go_ret
  exact⟨_,rfl,hg,HR.o,b9.o⟩
end Go.Proofs.YtppgcnhlpnmieaaGreatDoor.R5
namespace Go.Proofs.YtppgcnhlpnmieaaGreatDoor.B
open Go Go.RowKit
def qbF(N:Nat)(w:World)(e:Ending)(w':World):Prop:=∃A n c,e=.returned (.slice A n c)/\Rd w' A n c (toL N)/\(∀a,A=some a->a.off=0/\w.heap.size<=a.block)/\Below w.heap.size w w'
theorem Words_(g o:Nat)(u:Int)(w:World)(h:IntAt w g o u):
  Calls Tryz.prog 262 #[.pointer (some ⟨g,o,none⟩)] w (qbF u.natAbs w):=by
 have a0:=h.lt;obtain⟨A,n,c,h0,h1,hr,hz⟩:=h.ex;have a1:=hr.sm;clear hz h h0;rcases Nat.eq_zero_or_pos n with rfl|hn
 ·have HR:=vv hr;clear hr;go_enter Tryz.func262,Tryz.ntmps262
  go_wp2;go_ret
  have hl:=HR.o.len;have he:toL u.natAbs=[]:=List.length_eq_zero_iff.1 hl;exact⟨none,0,0,rfl,by rw[he];exact⟨rfl,lr,by omega,q0M,fun h=>absurd h (by omega)⟩,fun a e=>(by cases e),Below.refl _ _⟩
 ·have HR:=vv hr;have h2:((n:Int)==0)=false:=by rw[beq_eq_false_iff_ne];omega
  clear hr hn;go_enter Tryz.func262,Tryz.ntmps262
  go_wp2_with fail
  refine(q0F _ _ _ _ _ HR.o).mono ?_;rintro e w1 ⟨rfl,hO,hB⟩;have HO:=vv hO;have HB:=vv hB;clear hO hB;go_wp2;go_ret
  exact⟨_,n,n,rfl,HO.o.rd HR.o.len.symm lr HR.o.sm,fun a e=>(by cases e;exact⟨rfl,lr⟩),HB.o⟩
end Go.Proofs.YtppgcnhlpnmieaaGreatDoor.B
namespace Go.Proofs.YtppgcnhlpnmieaaGreatDoor.R2
open Go Go.RowKit B
theorem qe6(g o:Nat)(u:Int)(w:World)(h:IntAt w g o u)(hb:bl u.natAbs<=1000000000000):
  Calls Tryz.prog 169 #[.pointer (some ⟨g,o,none⟩)] w fun e w'=>e=.returned (.bool (decide (524288<bl u.natAbs)))/\w=w':=by
 have HL:=B.BitLen g o u w h;obtain⟨L,hL⟩:=yx (bl u.natAbs);rw[<- hL] at HL hb ⊢;have HL:=vv HL;have a0:(L:Int)<=1000000000000:=by omega
 have hd:decide ((524288:Int)<(L:Int))=decide (524288<L):=by
  by_cases h:524288<L
  ·rw[decide_eq_true h];exact decide_eq_true (by omega)
  ·rw[decide_eq_false h];exact decide_eq_false (by omega)
 have HD:=vv hd;clear h hL hd hb;go_enter Tryz.func169,Tryz.ntmps169
 go_wp2_with fail
 refine HL.o.mono ?_;rintro e w1 ⟨rfl,rfl⟩;go_wp2;go_ret
 exact⟨by simp;omega,rfl⟩
end Go.Proofs.YtppgcnhlpnmieaaGreatDoor.R2
namespace Go.Proofs.YtppgcnhlpnmieaaGreatDoor.B
open Go Go.RowKit
theorem Rsh(g o gx ox k:Nat)(v u:Int)(w:World)(h:IntAt w g o v)(hx:IntAt w gx ox u)(hu:0<=u)(hk:k<1000000000000):
  Calls Tryz.prog 82 #[.pointer (some ⟨g,o,none⟩),.pointer (some ⟨gx,ox,none⟩),.int .u64 (k:Int)] w (q0i g o (u/2^k) w):=by
 have HI:=vv h;have a0:=hx.lt;obtain⟨A,n,c,h0,h1,hr,hz⟩:=hx.ex;have hd:decide (u<0)=false:=decide_eq_false (by omega);rw[hd] at h0;have a2:IntKind.i64.wrap (k:Int)=(k:Int):=by rw[IntKind.wrap_i64];omega
 have HM:=vv (qaC A n c _ k _ rfl w hr (by omega));have HU:Hid ((u/2^k).natAbs=u.natAbs/2^k):=vv (by
  obtain⟨N,rfl⟩:∃N:Nat,u=(N:Int):=⟨u.toNat,by omega⟩;have:((N:Int)/2^k)=((N/2^k:Nat):Int):=by rw[Int.natCast_ediv,Int.natCast_pow];rfl
  rw[this];rfl)
 have HP:Hid (0<=u/2^k):=vv (Int.ediv_nonneg hu (by
  have:(0:Int)<2^k:=by exact_mod_cast Nat.pow_pos (n:=k) (show 0<2 by decide)
  omega))
 clear hr hz h hx hk hu hd;go_enter Tryz.func82,Tryz.ntmps82
 go_wp2_with fail
 refine HM.o.mono ?_;rintro e w1 ⟨A',m',c',rfl,hR,a1,hB⟩;have HB:=vv hB;have j0:=(hB.cell (p:=⟨gx,ox,none⟩) a0).trans h0;have j1:=(hB.cell (p:=⟨gx,ox+1,none⟩) a0).trans h1;rw[q00] at hR;have HR:=vv hR;have HF:=vv a1;have a3:gx<w1.heap.size:=Nat.lt_of_lt_of_le a0 hB.size;clear hR a1 hB h0 h1 a0;go_wp2_with fail
 refine(q0m g o v (u/2^k) _ A' m' c' (u.natAbs/2^k) _ (HI.o.below HB.o) HR.o (fun a e=>(HF.o a e).2) HU.o (q1w HP.o)).mono ?_;rintro e w2 ⟨rfl,hI,hF⟩;go_wp2;go_ret
 exact⟨rfl,hI,(Fm.of_below HB.o HI.o.lt).trans hF⟩
end Go.Proofs.YtppgcnhlpnmieaaGreatDoor.B
