/- Lemmas. -/
import Derived.Test.YtcdimmblnbkjjaaGreatDoorPartAG
import Derived.Test.YtcdimmblnbkjjaaGreatDoorPartAS
import Derived.Test.YtcdimmblnbkjjaaGreatDoorPartAI
import Derived.Test.YtcdimmblnbkjjaaGreatDoorPartAC
import Derived.Test.YtcdimmblnbkjjaaGreatDoorPartAK
import Derived.Test.YtcdimmblnbkjjaaGreatDoorPartAJ
import Derived.Test.YtcdimmblnbkjjaaGreatDoorPartAP
import Derived.Test.YtcdimmblnbkjjaaGreatDoorPartAB
set_option linter.all false
set_option maxHeartbeats 2000000
set_option maxRecDepth 100000
namespace Go.Proofs.YtcdimmblnbkjjaaGreatDoor.A
open Go Go.RowKit
theorem SetBytes(g o:Nat)(v:Int)(A:Option Addr)(m c N:Nat)(w:World)(h:IntAt w g o v)(hb:Bd w A m c N)(hm:m<=4294967296):
  Calls Tryz.prog 238 #[.pointer (some ⟨g,o,none⟩),.slice A m c] w (q0j g o (N:Int) w):=by
 obtain⟨L,hL⟩:=yx ((m+3)/4);have a6:L<=35184372088832:=by omega
 have c7:(L:Int)<=35184372088832:=by omega
 have b5:((m:Int)+3)/4=(L:Int):=by omega
 have c8:(m:Int)<=4294967296:=by omega
 have c9:=mk L a6;have HI:=vv h;have a7:=vv hb;have HL:=vv hL;have H1:Hid (Own (w.alloc (.cells (madeCells #[.int .u32 0] L) 34)) w.heap.size 34 (List.replicate L 0)):=vv (Own.made w L 34);have H3:Hid (Below w.heap.size w (w.alloc (.cells (madeCells #[.int .u32 0] L) 34))):=vv ((Below.refl _ w).alloc lr _);clear h hb hL;go_enter Tryz.func238,Tryz.ntmps238
 go_wp2;clear b5;go_loopw [16] (fun t wr=>∃(i:Nat) (W:List Nat),t=.int .i64 i/\i<=m/\Own wr w.heap.size 34 W/\W.length=L/\val W=hi N (m-i)/\Below w.heap.size w wr) (fun t _=>m-(intOf t).toNat)
 case atStart=>exact⟨0,List.replicate L 0,rfl,Nat.zero_le _,H1.o,List.length_replicate,by rw[q0b,Nat.sub_zero,q7W a7.o.lt],H3.o⟩
 case round =>
  obtain⟨i,W,rfl,b6,a0,a2,a1,hB⟩:=hrel;have a3:=vv a0;have a8:=vv a2;have HB:=vv hB;by_cases him:i<m
  ·obtain⟨k,hk⟩:=yx (m-1-i);have a9:val W=hi N (k+1):=by rw[a1];congr 1;omega
   have d0:(m:Int)-1-(i:Int)=(k:Int):=by omega
   obtain⟨b,off,e,b0,b1⟩:=a7.o.cell (by omega);subst e;have b2:=(hB.cell (p:=⟨b,off+i,none⟩) b0).trans (b1 i him);rw[<- hk] at b2;obtain⟨q,hq⟩:=yx (k/4);have d1:q<L:=by have:=HL.o;omega
   have a4:q<W.length:=by omega
   have d2:(k:Int)/4=(q:Int):=by omega
   have b7:(k:Int)<=4294967296:=by omega
   have b8:(q:Int)<(L:Int):=by omega
   obtain⟨r,hr⟩:=yx (k%4);have d3:(k:Int).tmod 4=(r:Int):=by rw[Int.tmod_eq_emod_of_nonneg (by omega)];omega
   have d4:IntKind.i64.wrap (q:Int)=(q:Int):=by rw[IntKind.wrap_i64];omega
   have d5:(0:Int)<=(q:Int):=by omega
   obtain⟨s1,s2,s3,s4⟩:=q4M a0.2 a4 (show k=4*q+r by omega) (by omega) a9;have b3:=a0.cell a4;have d6:=a0.frozen q;have d7:=a0.lt;have HS:=vv (a0.set (x:=nth W q+bt N k*256^r) a4 s2 rfl);have b9:=q8o N k;obtain⟨C,hC⟩:=yx (bt N k);obtain⟨x,hx⟩:=yx (nth W q);rw[<- hC,<- hx] at s1 s2 s4 HS;rw[<- hC] at s3 b9 b2;rw[<- hx] at b3;have d8:IntKind.u32.wrap (C:Int)=(C:Int):=by rw[IntKind.wrap_u32];omega
   obtain⟨D,hD⟩:=yx (C*256^r);rw[<- hD] at s1 s2 s3 s4 HS;obtain⟨s,hs⟩:=yx (8*r);have d9:IntKind.i64.wrap (8*(r:Int))=(s:Int):=by rw[IntKind.wrap_i64];omega
   have e0:(0:Int)<=(s:Int):=by omega
   have c0:(s:Int)<=32:=by omega
   have e1:IntKind.u32.wrap ((C:Int)*2^s)=(D:Int):=by
    have e:(C:Int)*2^s=(D:Int):=by
     have e2:(2:Int)^s=((256^r:Nat):Int):=by rw[hs,Int.natCast_pow,Int.pow_mul];rfl
     rw[e2,hD,Int.natCast_mul]
    rw[e,IntKind.wrap_u32];omega
   have c1:Hid (hi N k=hi N (m-(i+1))):=vv (by rw[hk];congr 1;omega);have c2:=vv s4;clear b0 b1 hB a0 a9 a1 a2 hr hq hk hC hx hD hs s2 s3 s4;go_wp2;refine q02 (fun w'=>w'.cell? ⟨w.heap.size,q,none⟩=some (.int .u32 (x:Int))) 13
    (.still 0 (.still 1 (.still 2 (.still 3 (.still 4 (.still 5 (.still 6 (.still 7 (.still 8 (.still 9 (.still 10 (.still 11 (.still 12 .done))))))))))))) (by kernel_rfl) (by kernel_rfl) (fun _ _ d _ _ h=>by cases d<;>exact h) b3 (fun hS0=>?_)
   iterate 13
    refine q00 (v:=?_) rfl (by rfl) ?_ ?_;rotate_left
    ·intro w e3;go_simp;with_reducible rfl
    simp only[Act.put,sa,sb,sc]
   refine q0a ?_;go_wp2;go_roundw
   case rel =>
    exact⟨i+1,W.set q (x+D),by go_num,by omega,HS.o,by rw[List.length_set];exact a8.o,c2.o.trans c1.o,(HB.o.drew).setCell lr _⟩
   case measure=>simp [intOf];omega
  ·obtain rfl:i=m:=by omega
   rw[Nat.sub_self,q6J] at a1;have c3:=vv a1;have c4:=vv (HI.o.below (hB.mono lr));have a5:(i:Int)<=(i:Int):=Int.le_refl _;clear a0 a1 a2 hB him b6 a5;go_wp2_with fail
   refine(q10 (some ⟨w.heap.size,0,none⟩) L L W wr (a3.o.rd a8.o.symm lr a6)).mono ?_;rintro e w' ⟨m',rfl,rfl,hR⟩;rw[c3.o] at hR;have HR:=vv hR;have b4:=vv (SetWords g o v _ _ _ (toL N) wr c4.o HR.o);rw[q01] at b4;clear hR;go_wp2_with fail
   refine b4.o.mono ?_;rintro e w3 ⟨rfl,hI,hF⟩;have c5:=vv hI;have c6:=vv (Fm.trans (Fm.of_below HB.o HI.o.lt) hF);clear hI hF;go_wp2;go_ret
   exact⟨rfl,c5.o,c6.o⟩
theorem q9F:(Tryz.prog.info? 5).map (fun i=>(i.zero,i.size,i.bytes))=some (some (.int .u8 0),1,1):=by kernel_rfl
theorem mk8(n:Nat)(h:n<=35184372088832)(w:World):(Instr.makeSlice 85 (.int .i64 (n:Int)) (.int .i64 (n:Int))).run Tryz.prog w=.ok (.slice (some ⟨w.heap.size,0,none⟩) n n) (w.alloc (.cells (madeCells #[.int .u8 0] n) 5)):=
 run_make_row' (P:=Tryz.prog) 85 5 (.int .u8 0) 1 Tryz.underlying85 q9F rfl .i64 .i64 n (by omega) (by omega) w
theorem lt_bytes(N:Nat):N<256^((bl N+7)/8):=by
 have h:(256:Nat)^((bl N+7)/8)=2^(8*((bl N+7)/8)):=by rw[Nat.pow_mul]
 rw[h];exact Nat.lt_of_lt_of_le (q1C N) (Nat.pow_le_pow_right (by decide) (by omega))
theorem bl_words(N:Nat):bl N<=32*words N:=q15 (by have h:=q0d N;rwa [show(4294967296:Nat)^words N=2^(32*words N) by rw[Nat.pow_mul]] at h)
theorem Bytes(g o:Nat)(u:Int)(w:World)(h:IntAt w g o u)(sN:bl u.natAbs<=4294967296):
  Calls Tryz.prog 268 #[.pointer (some ⟨g,o,none⟩)] w fun e w'=>∃A m,e=.returned (.slice A m m)/\m=(bl u.natAbs+7)/8/\Bd w' A m m u.natAbs/\Below w.heap.size w w':=by
 have a2:=vv fun w' (h:IntAt w' g o u)=>BitLen g o u w' h
 obtain⟨N,hN⟩:=yx (u.natAbs);have a7:=h.lt;obtain⟨A,n,c,h0,h1,hr,hz⟩:=h.ex;rw[<- hN] at a2 sN hr ⊢;obtain⟨m,hm⟩:=yx ((bl N+7)/8);have b9:bl N<=32*n:=by have:=bl_words N;rwa [hr.words] at this
 have a3:=lt_bytes N;rw[<- hm] at a3 ⊢;have a8:m<=35184372088832:=by omega
 have d2:=mk8 m a8;have a9:((bl N:Int)+7)/8=(m:Int):=by omega
 obtain⟨b0,b1⟩:=yx (bl N);rw[<- b1] at a2 a9 sN;have d3:(b0:Int)<=4294967296:=by omega
 have d4:(m:Int)<=1000000000:=by omega
 have b2:m<=4*n:=by omega
 have HI:=vv h;have HR:=vv hr;have HZ:=vv hz;have c0:=vv a3;have c1:=vv b2;have d5:=vv hr.sm;have H1:Hid (q3w (w.alloc (.cells (madeCells #[.int .u8 0] m) 5)) w.heap.size 5 (List.replicate m 0)):=vv (q3w.made w m 5);have H3:Hid (Below w.heap.size w (w.alloc (.cells (madeCells #[.int .u8 0] m) 5))):=vv ((Below.refl _ w).alloc lr _);clear h hr hz hm b9 a3 b2 hN b1;go_enter Tryz.func268,Tryz.ntmps268
 go_wp2_with fail
 refine(a2.o _ HI.o).mono ?_;rintro e w' ⟨rfl,rfl⟩;go_wp2;clear a9;go_loopw [13] (fun t wr=>∃(i:Nat) (U:List Nat),t=.int .i64 i/\i<=m/\q3w wr w.heap.size 5 U/\U.length=m/\(∀j,j<i->nth U j=bt N (m-1-j))/\Below w.heap.size w wr) (fun t _=>m-(intOf t).toNat)
 case atStart=>exact⟨0,List.replicate m 0,rfl,Nat.zero_le _,H1.o,List.length_replicate,fun j hj=>absurd hj (by omega),H3.o⟩
 case round =>
  obtain⟨i,U,rfl,b3,a0,a4,a5,hB⟩:=hrel;have a6:=vv a0;have b4:=vv a4;have b5:=vv a5;have HB:=vv hB;by_cases him:i<m
  ·obtain⟨k,hk⟩:=yx (m-1-i);have d6:(m:Int)-1-(i:Int)=(k:Int):=by omega
   obtain⟨q,hq⟩:=yx (k/4);have c2:q<n:=by have:=c1.o;omega
   obtain⟨b,off,e,b6,b7⟩:=HR.o.cell (by omega);subst e;have c3:=(hB.cell (p:=⟨b,off+q,none⟩) b6).trans (b7 q c2);have j1:=(hB.cell (p:=⟨g,o+1,none⟩) a7).trans h1;have c4:g<wr.heap.size:=Nat.lt_of_lt_of_le a7 hB.size;have d7:(k:Int)/4=(q:Int):=by omega
   obtain⟨r,hr⟩:=yx (k%4);have c5:(k:Int)%4=(r:Int):=by omega
   have c6:(k:Int).tmod 4=(r:Int):=by rw[Int.tmod_eq_emod_of_nonneg (by omega)];exact c5
   have d8:(r:Int)<=3:=by omega
   have c7:(q:Int)<(n:Int):=by omega
   have b8:nth (toL N) q<4294967296:=HR.o.nth_lt q;have a1:=q1Y (q1E N) q r (by omega);rw[q01,show 4*q+r=k by omega] at a1;obtain⟨x,hx⟩:=yx (nth (toL N) q);obtain⟨C,hC⟩:=yx (bt N k);rw[<- hx] at c3 b8 a1;rw[<- hC] at a1;obtain⟨s,hs⟩:=yx (8*r);have d9:8*(r:Int)=(s:Int):=by omega
   have c8:(s:Int)<=24:=by omega
   have e0:(x:Int)/2^s%256=(C:Int):=by
    have e2:(2:Int)^s=((256^r:Nat):Int):=by rw[hs,Int.natCast_pow,Int.pow_mul];rfl
    rw[e2,<- a1,Int.natCast_emod,Int.natCast_ediv];rfl
   have e1:=a0.cell (i:=i) (by omega);have e3:=a0.frozen i;have e4:=a0.lt;have HS:=vv (a0.set (i:=i) (x:=C) (by omega) rfl);have c9:Hid (∀j,j<i+1->nth (U.set i C) j=bt N (m-1-j)):=vv (fun j hj=>by
    rw[q0L U i C j (by omega)];split
    ·rename_i e;rw[e,hC,hk]
    ·exact b5.o j (by omega))
   have e5:(x:Int)<=4294967295:=by omega
   have d0:(k:Int)<=1000000000:=by omega
   have d1:(i:Int)<(m:Int):=by omega
   clear b6 b7 hB a0 a5 a4 hr hq hk hC hx hs a1 b8 b3 him;go_wp2;go_roundw
   case rel=>exact⟨i+1,U.set i C,by go_num,by omega,HS.o,by rw[List.length_set];exact b4.o,c9.o,(HB.o).setCell lr _⟩
   case measure=>simp [intOf];omega
  ·obtain rfl:i=m:=by omega
   clear a0 a4 a5 hB him b3;go_wp2;go_ret
   exact⟨_,_,rfl,rfl,a6.o.bd b4.o.symm lr a8 c0.o b5.o,HB.o⟩
end Go.Proofs.YtcdimmblnbkjjaaGreatDoor.A
namespace Go.Proofs.YtcdimmblnbkjjaaGreatDoor.B
open Go Go.RowKit
theorem Mul(g o gx ox gy oy:Nat)(v u1 u2:Int)(w:World)(h:IntAt w g o v)(hx:IntAt w gx ox u1)(hy:IntAt w gy oy u2)(hn:Sz u1.natAbs)(hm:Sz u2.natAbs):
  Calls Tryz.prog 203 #[.pointer (some ⟨g,o,none⟩),.pointer (some ⟨gx,ox,none⟩),.pointer (some ⟨gy,oy,none⟩)] w (q0j g o (u1*u2) w):=by
 have HI:=vv h;have a0:=hx.lt;have a1:=hy.lt;obtain⟨A,n,c,h0,h1,hr,hz⟩:=hx.ex;obtain⟨B,m,d,k0,k1,hs,hy⟩:=hy.ex;have HM:=vv (q1j A B n m c d _ _ _ hr.drew hs.drew (by have:=hr.sz hn;have:=hs.sz hm;omega));clear hr hz hs hy h hx hn hm;go_enter Tryz.func203,Tryz.ntmps203
 go_wp2_with fail
 refine q02 (fun w'=>w'.cell? ⟨gx,ox,none⟩=some (.bool (decide (u1<0)))/\w'.cell? ⟨gx,ox+1,none⟩=some (.slice A n c)/\w'.cell? ⟨gy,oy,none⟩=some (.bool (decide (u2<0)))/\w'.cell? ⟨gy,oy+1,none⟩=some (.slice B m d)) 19
  (.still 0 (.still 1 (.still 2 (.still 3 (.still 4 (.still 5 (.still 6 (.still 7 (.still 8 (.still 9 (.still 10 (.still 11 (.still 12 (.still 13 (.still 14 (.still 15 (.still 16 (.still 17 (.one 18 .done))))))))))))))))))) (by kernel_rfl) (by kernel_rfl) (fun _ _ d _ _ h=>by cases d<;>exact h) ⟨h0,h1,k0,k1⟩ (fun hS0=>?_)
 iterate 18
  refine q00 (v:=?_) rfl (by rfl) ?_ ?_;rotate_left
  ·intro w a4;go_simp;with_reducible rfl
  simp only[Act.put,sa,sb,sc]
 refine q03 rfl (by rfl) (fun K hK=>?_);go_simp;refine HM.o.mono ?_;rintro e w1 ⟨A',m',c',rfl,hR,a3,hB⟩;go_wp2_with fail
 refine hK.out _ _ ⟨(hB.cell (p:=⟨gx,ox,none⟩) a0).trans h0,(hB.cell (p:=⟨gx,ox+1,none⟩) a0).trans h1,(hB.cell (p:=⟨gy,oy,none⟩) a1).trans k0,(hB.cell (p:=⟨gy,oy+1,none⟩) a1).trans k1⟩ (fun a2=>?_);clear hK;refine q0a ?_;go_wp2_with fail
 refine(q0r g o v (u1*u2) _ A' m' c' (u1.natAbs*u2.natAbs) _ (HI.o.drew.below hB) (by rw[q01,q01] at hR;exact hR) (fun a e=>(a3 a e).2) (Int.natAbs_mul u1 u2) ?_).mono ?_
 ·rw[q4r];rfl
 rintro e w2 ⟨rfl,hI,hF⟩;go_wp2;go_ret
 exact⟨rfl,hI,((Fm.of_below hB HI.o.lt).trans hF).undrew⟩
theorem q2I(g o:Nat)(v u:Int)(b:Bool)(N M:Nat)(A B:Option Addr)(n m c d:Nat)(w:World)(h:IntAt w g o v)(ha:Rd w A n c (toL N))(hb:Rd w B m d (toL M))(hn:Sz N)(hm:Sz M)(hu:u=sg b (N+M)):
  Calls Tryz.prog 262 #[.pointer (some ⟨g,o,none⟩),.slice A n c,.bool b,.slice B m d,.bool b] w (q0j g o u w):=by
 have HI:=vv h;have HM:=vv (q1d A B n m c d _ _ w ha hb (by have:=ha.sz hn;omega) (by have:=hb.sz hm;omega));have HU:=vv hu;clear ha hb hn hm h hu;have a1:(b==b)=true:=by cases b<;>rfl
 go_enter Tryz.func262,Tryz.ntmps262
 go_wp2_with fail
 refine HM.o.mono ?_;rintro e w1 ⟨A',m',c',rfl,hR,a0,hB⟩;rw[q01,q01] at hR;have HR:=vv hR;clear hR;go_wp2_with fail
 refine(q0r g o v u b A' m' c' (N+M) _ (HI.o.below hB) HR.o (fun a e=>(a0 a e).2) (by rw[HU.o,q0R]) (by rw[HU.o,q1a])).mono ?_;rintro e w2 ⟨rfl,hI,hF⟩;go_wp2;go_ret
 exact⟨rfl,hI,(Fm.of_below hB HI.o.lt).trans hF⟩
theorem q2D(g o:Nat)(v u:Int)(b:Bool)(N M:Nat)(t:Int)(A B:Option Addr)(n m c d:Nat)(w:World)(h:IntAt w g o v)(ha:Rd w A n c (toL N))(hb:Rd w B m d (toL M))(ht:q0J N M=t)(h0:t=0\/t=1)(hle:M<=N)(hu:u=sg b (N-M)):
  Calls Tryz.prog 262 #[.pointer (some ⟨g,o,none⟩),.slice A n c,.bool b,.slice B m d,.bool (!b)] w (q0j g o u w):=by
 have HI:=vv h;have HC:=vv (q0F A B n m c d _ _ w ha hb (by rw[q01]) (by rw[q01]));have HA:=vv ha;have HB:=vv hb;have HU:=vv hu;have HL:=vv hle;have HT:=vv ht;have a3:(b==!b)=false:=by cases b<;>rfl
 clear ha hb h hu hle ht;rcases h0 with rfl|rfl;all_goals
  go_enter Tryz.func262,Tryz.ntmps262
  go_wp2_with fail
  refine HC.o.mono ?_;rintro e w1 ⟨rfl,hB⟩;rw[q01,q01,HT.o];go_wp2_with fail
  refine(q0N A B n m c d _ _ _ (HA.o.below hB rfl) (HB.o.below hB rfl) (by rw[q01,q01];exact HL.o) (HB.o.le_of HA.o HL.o)).mono ?_;rintro e w2 ⟨A',m',c',rfl,hR,a2,a0⟩;rw[q01,q01] at hR;have HR:=vv hR;have a1:=vv (hB.trans (a0.mono hB.size));clear hR a0;go_wp2_with fail
  refine(q0r g o v u b A' m' c' (N-M) _ (HI.o.below a1.o) HR.o (fun a e=>(a2 a e).2) (by rw[HU.o,q0R]) (by rw[HU.o,q1a])).mono ?_;rintro e w3 ⟨rfl,hI,hF⟩;go_wp2;go_ret
  exact⟨rfl,hI,(Fm.of_below a1.o HI.o.lt).trans hF⟩
theorem q4i(g o:Nat)(v u:Int)(b:Bool)(N M:Nat)(A B:Option Addr)(n m c d:Nat)(w:World)(h:IntAt w g o v)(ha:Rd w A n c (toL N))(hb:Rd w B m d (toL M))(ht:q0J N M = -1)(hle:N<=M)(hu:u=sg (!b) (M-N)):
  Calls Tryz.prog 262 #[.pointer (some ⟨g,o,none⟩),.slice A n c,.bool b,.slice B m d,.bool (!b)] w (q0j g o u w):=by
 have HI:=vv h;have HC:=vv (q0F A B n m c d _ _ w ha hb (by rw[q01]) (by rw[q01]));have HA:=vv ha;have HB:=vv hb;have HU:=vv hu;have HL:=vv hle;have HT:=vv ht;have a3:(b==!b)=false:=by cases b<;>rfl
 clear ha hb h hu hle ht;go_enter Tryz.func262,Tryz.ntmps262
 go_wp2_with fail
 refine HC.o.mono ?_;rintro e w1 ⟨rfl,hB⟩;rw[q01,q01,HT.o];go_wp2_with fail
 refine(q0N B A m n d c _ _ _ (HB.o.below hB rfl) (HA.o.below hB rfl) (by rw[q01,q01];exact HL.o) (HA.o.le_of HB.o HL.o)).mono ?_;rintro e w2 ⟨A',m',c',rfl,hR,a2,a0⟩;rw[q01,q01] at hR;have HR:=vv hR;have a1:=vv (hB.trans (a0.mono hB.size));clear hR a0;go_wp2_with fail
 refine(q0r g o v u (!b) A' m' c' (M-N) _ (HI.o.below a1.o) HR.o (fun a e=>(a2 a e).2) (by rw[HU.o,q0R]) (by rw[HU.o,q1a])).mono ?_;rintro e w3 ⟨rfl,hI,hF⟩;go_wp2;go_ret
 exact⟨rfl,hI,(Fm.of_below a1.o HI.o.lt).trans hF⟩
theorem q7E(g o:Nat)(v:Int)(a b:Bool)(N M:Nat)(A B:Option Addr)(n m c d:Nat)(w:World)(h:IntAt w g o v)(ha:Rd w A n c (toL N))(hb:Rd w B m d (toL M))(hn:Sz N)(hm:Sz M):
  Calls Tryz.prog 262 #[.pointer (some ⟨g,o,none⟩),.slice A n c,.bool a,.slice B m d,.bool b] w (q0j g o (sg a N+sg b M) w):=by
 by_cases e:b=a
 ·subst e;exact q2I g o v _ b N M A B n m c d w h ha hb hn hm (by cases b<;>simp [sg]<;>omega)
 ·obtain rfl:b=!a:=by cases a<;>cases b<;>simp_all
  rcases Nat.lt_trichotomy N M with k|k|k
  ·exact q4i g o v _ a N M A B n m c d w h ha hb (by unfold q0J;simp [k]) (by omega) (by cases a<;>simp [sg]<;>omega)
  ·exact q2D g o v _ a N M 0 A B n m c d w h ha hb (by unfold q0J;simp [k]) (.inl rfl) (by omega) (by cases a<;>simp [sg]<;>omega)
  ·exact q2D g o v _ a N M 1 A B n m c d w h ha hb (by unfold q0J;simp [k];omega) (.inr rfl) (by omega) (by cases a<;>simp [sg]<;>omega)
theorem Add(g o gx ox gy oy:Nat)(v u1 u2:Int)(w:World)(h:IntAt w g o v)(hx:IntAt w gx ox u1)(hy:IntAt w gy oy u2)(hn:Sz u1.natAbs)(hm:Sz u2.natAbs):
  Calls Tryz.prog 220 #[.pointer (some ⟨g,o,none⟩),.pointer (some ⟨gx,ox,none⟩),.pointer (some ⟨gy,oy,none⟩)] w (q0j g o (u1+u2) w):=by
 obtain⟨A,n,c,h0,h1,hr,hz⟩:=hx.ex;obtain⟨B,m,d,k0,k1,hs,hy⟩:=hy.ex;have HM:=vv (q7E g o v (decide (u1<0)) (decide (u2<0)) _ _ A B n m c d w.drew h.drew hr.drew hs.drew hn hm);clear hr hz hs hy h hx hn hm;go_enter Tryz.func220,Tryz.ntmps220
 go_wp2_with fail
 refine q02 (fun w'=>w'.cell? ⟨gx,ox,none⟩=some (.bool (decide (u1<0)))/\w'.cell? ⟨gx,ox+1,none⟩=some (.slice A n c)/\w'.cell? ⟨gy,oy,none⟩=some (.bool (decide (u2<0)))/\w'.cell? ⟨gy,oy+1,none⟩=some (.slice B m d)) 17
  (.still 0 (.still 1 (.still 2 (.still 3 (.still 4 (.still 5 (.still 6 (.still 7 (.still 8 (.still 9 (.still 10 (.still 11 (.still 12 (.still 13 (.still 14 (.still 15 (.still 16 .done))))))))))))))))) (by kernel_rfl) (by kernel_rfl) (fun _ _ d _ _ h=>by cases d<;>exact h) ⟨h0,h1,k0,k1⟩ (fun hS0=>?_)
 iterate 17
  refine q00 (v:=?_) rfl (by rfl) ?_ ?_;rotate_left
  ·intro w a0;go_simp;with_reducible rfl
  simp only[Act.put,sa,sb,sc]
 refine q0a ?_;go_wp2_with fail
 refine HM.o.mono ?_;rintro e w1 ⟨rfl,hI,hF⟩;rw[q3Z,q3Z] at hI;go_wp2;go_ret
 exact⟨rfl,hI,hF.undrew⟩
theorem Sub(g o gx ox gy oy:Nat)(v u1 u2:Int)(w:World)(h:IntAt w g o v)(hx:IntAt w gx ox u1)(hy:IntAt w gy oy u2)(hn:Sz u1.natAbs)(hm:Sz u2.natAbs):
  Calls Tryz.prog 284 #[.pointer (some ⟨g,o,none⟩),.pointer (some ⟨gx,ox,none⟩),.pointer (some ⟨gy,oy,none⟩)] w (q0j g o (u1-u2) w):=by
 obtain⟨A,n,c,h0,h1,hr,hz⟩:=hx.ex;obtain⟨B,m,d,k0,k1,hs,hy⟩:=hy.ex;have HM:=vv (q7E g o v (decide (u1<0)) (!decide (u2<0)) _ _ A B n m c d w.drew h.drew hr.drew hs.drew hn hm);clear hr hz hs hy h hx hn hm;go_enter Tryz.func284,Tryz.ntmps284
 go_wp2_with fail
 refine q02 (fun w'=>w'.cell? ⟨gx,ox,none⟩=some (.bool (decide (u1<0)))/\w'.cell? ⟨gx,ox+1,none⟩=some (.slice A n c)/\w'.cell? ⟨gy,oy,none⟩=some (.bool (decide (u2<0)))/\w'.cell? ⟨gy,oy+1,none⟩=some (.slice B m d)) 18
  (.still 0 (.still 1 (.still 2 (.still 3 (.still 4 (.still 5 (.still 6 (.still 7 (.still 8 (.still 9 (.still 10 (.still 11 (.still 12 (.still 13 (.still 14 (.still 15 (.still 16 (.still 17 .done)))))))))))))))))) (by kernel_rfl) (by kernel_rfl) (fun _ _ d _ _ h=>by cases d<;>exact h) ⟨h0,h1,k0,k1⟩ (fun hS0=>?_)
 iterate 18
  refine q00 (v:=?_) rfl (by rfl) ?_ ?_;rotate_left
  ·intro w a0;go_simp;with_reducible rfl
  simp only[Act.put,sa,sb,sc]
 refine q0a ?_;go_wp2_with fail
 refine HM.o.mono ?_;rintro e w1 ⟨rfl,hI,hF⟩;rw[q3Z,q8I,<- Int.sub_eq_add_neg] at hI;go_wp2;go_ret
 exact⟨rfl,hI,hF.undrew⟩
theorem Lsh(g o gx ox k:Nat)(v u:Int)(w:World)(h:IntAt w g o v)(hx:IntAt w gx ox u)(hn:Sz u.natAbs)(hk:k<30000000000000):
  Calls Tryz.prog 112 #[.pointer (some ⟨g,o,none⟩),.pointer (some ⟨gx,ox,none⟩),.int .u64 (k:Int)] w (q0j g o (u*2^k) w):=by
 have HI:=vv h;have a0:=hx.lt;obtain⟨A,n,c,h0,h1,hr,hz⟩:=hx.ex;have HM:=vv (up A n c _ k _ rfl _ hr.drew (by have:=hr.sz hn;omega));have a3:IntKind.i64.wrap (k:Int)=(k:Int):=by rw[IntKind.wrap_i64];omega
 clear hr hz h hx hn;go_enter Tryz.func112,Tryz.ntmps112
 go_wp2_with fail
 refine q02 (fun w'=>w'.cell? ⟨gx,ox,none⟩=some (.bool (decide (u<0)))/\w'.cell? ⟨gx,ox+1,none⟩=some (.slice A n c)) 12
  (.still 0 (.still 1 (.still 2 (.still 3 (.still 4 (.still 5 (.still 6 (.still 7 (.still 8 (.still 9 (.still 10 (.one 11 .done)))))))))))) (by kernel_rfl) (by kernel_rfl) (fun _ _ d _ _ h=>by cases d<;>exact h) ⟨h0,h1⟩ (fun hS0=>?_)
 iterate 11
  refine q00 (v:=?_) rfl (by rfl) ?_ ?_;rotate_left
  ·intro w a4;go_simp;with_reducible rfl
  simp only[Act.put,sa,sb,sc]
 refine q03 rfl (by rfl) (fun K hK=>?_);go_simp;refine HM.o.mono ?_;rintro e w1 ⟨A',m',c',rfl,hR,a2,hB⟩;go_wp2_with fail
 refine hK.out _ _ ⟨(hB.cell (p:=⟨gx,ox,none⟩) a0).trans h0,(hB.cell (p:=⟨gx,ox+1,none⟩) a0).trans h1⟩ (fun a1=>?_);clear hK;refine q0a ?_;go_wp2_with fail
 refine(q0r g o v (u*2^k) _ A' m' c' (u.natAbs*2^k) _ (HI.o.drew.below hB) (by rw[q01] at hR;exact hR) (fun a e=>(a2 a e).2) (by rw[Int.natAbs_mul,Int.natAbs_pow];rfl) ?_).mono ?_
 ·exact q5k u k
 rintro e w2 ⟨rfl,hI,hF⟩;go_wp2;go_ret
 exact⟨rfl,hI,((Fm.of_below hB HI.o.lt).trans hF).undrew⟩
theorem GCD(g o gx ox gy oy:Nat)(v u1 u2:Int)(X Y:Value)(w:World)(h:IntAt w g o v)(hx:IntAt w gx ox u1)(hy:IntAt w gy oy u2)(hn:Sz u1.natAbs)(hm:Sz u2.natAbs)(hst:Std w):
  Calls Tryz.prog 153 #[.pointer (some ⟨g,o,none⟩),X,Y,.pointer (some ⟨gx,ox,none⟩),.pointer (some ⟨gy,oy,none⟩)] w (q0j g o (Nat.gcd u1.natAbs u2.natAbs:Nat) w):=by
 have HI:=vv h;have a1:=hx.lt;have a2:=hy.lt;obtain⟨A,n,c,h0,h1,hr,hz⟩:=hx.ex;obtain⟨B,m,d,k0,k1,hs,hy⟩:=hy.ex;have HM:=vv (q2S A B n m c d _ _ _ hr.drew hs.drew hst.drew (by have:=hr.sz hn;omega) (by have:=hs.sz hm;omega));clear hr hz hs hy h hx hn hm hst;go_enter Tryz.func153,Tryz.ntmps153
 go_wp2_with fail
 refine q02 (fun w'=>w'.cell? ⟨gx,ox+1,none⟩=some (.slice A n c)/\w'.cell? ⟨gy,oy+1,none⟩=some (.slice B m d)) 10
  (.still 0 (.still 1 (.still 2 (.still 3 (.still 4 (.still 5 (.still 6 (.still 7 (.still 8 (.one 9 .done)))))))))) (by kernel_rfl) (by kernel_rfl) (fun _ _ d _ _ h=>by cases d<;>exact h) ⟨h1,k1⟩ (fun hS0=>?_)
 iterate 9
  refine q00 (v:=?_) rfl (by rfl) ?_ ?_;rotate_left
  ·intro w a4;go_simp;with_reducible rfl
  simp only[Act.put,sa,sb,sc]
 refine q03 rfl (by rfl) (fun K hK=>?_);go_simp;refine HM.o.mono ?_;rintro e w1 ⟨A',m',c',rfl,hR,a3,hB⟩;go_wp2_with fail
 refine hK.out _ _ ⟨(hB.cell (p:=⟨gx,ox+1,none⟩) a1).trans h1,(hB.cell (p:=⟨gy,oy+1,none⟩) a2).trans k1⟩ (fun a0=>?_);clear hK;refine q0a ?_;go_wp2_with fail
 refine(q0r g o v (Nat.gcd u1.natAbs u2.natAbs:Nat) _ A' m' c' (Nat.gcd u1.natAbs u2.natAbs) _ (HI.o.drew.below hB) hR (fun a e=>(a3 a e).2) rfl (q1V (by omega))).mono ?_;rintro e w2 ⟨rfl,hI,hF⟩;go_wp2;go_ret
 exact⟨rfl,hI,((Fm.of_below hB HI.o.lt).trans hF).undrew⟩
theorem Uint64(g o:Nat)(u:Int)(w:World)(h:IntAt w g o u)(hu:u.natAbs<18446744073709551616):
  Calls Tryz.prog 171 #[.pointer (some ⟨g,o,none⟩)] w fun e w'=>e=.returned (.int .u64 ((u.natAbs:Nat):Int))/\w=w':=by
 obtain⟨A,n,c,h0,h1,hr,hz⟩:=h.ex;have HM:=vv (q37 A n c _ w hr);have HV:=vv (two_words hu);clear hr hz h;go_enter Tryz.func171,Tryz.ntmps171
 go_wp2_with fail
 refine HM.o.mono ?_;rintro e w1 ⟨rfl,rfl⟩;rw[HV.o];go_wp2;go_ret
 exact⟨rfl,rfl⟩
theorem NewInt(x:Int)(w:World)(h1:-9223372036854775808<=x)(h2:x<=9223372036854775807):
  Calls Tryz.prog 113 #[.int .i64 x] w (q0Z x w):=by
 go_enter Tryz.func113,Tryz.ntmps113
 go_wp2_with fail
 refine(q4j _ _ 0 x _ (IntAt.zero w 117) h1 h2).mono ?_;rintro e w1 ⟨rfl,hI,hF⟩;go_wp2;go_ret
 exact⟨_,rfl,lr,hI,hF.below ((Below.refl _ w).alloc lr _) (by simp) lr⟩
theorem q72(g o gx ox N M n c m d:Nat)(A B:Option Addr)(w:World)(h0:w.cell? ⟨g,o,none⟩=some (.bool false))(h1:w.cell? ⟨g,o+1,none⟩=some (.slice A n c))(k0:w.cell? ⟨gx,ox,none⟩=some (.bool false))(k1:w.cell? ⟨gx,ox+1,none⟩=some (.slice B m d))
  (ha:Rd w A n c (toL N)) (hb:Rd w B m d (toL M)) :
  Calls Tryz.prog 152 #[.pointer (some ⟨g,o,none⟩),.pointer (some ⟨gx,ox,none⟩)] w fun e w'=>e=.returned (.int .i64 (q0J N M))/\Below w.heap.size w w':=by
 have HC:=vv (q0F A B n m c d _ _ w.drew.drew (ha.like rfl) (hb.like rfl) (by rw[q01]) (by rw[q01]));clear ha hb;go_enter Tryz.func152,Tryz.ntmps152
 go_wp2_with fail
 refine q02 (fun w'=>w'.cell? ⟨g,o,none⟩=some (.bool false)/\w'.cell? ⟨gx,ox,none⟩=some (.bool false)) 9
  (.still 0 (.still 1 (.still 2 (.still 3 (.still 4 (.still 5 (.still 6 (.still 7 (.still 8 .done))))))))) (by kernel_rfl) (by kernel_rfl) (fun _ _ d _ _ h=>by cases d<;>exact h) ⟨h0,k0⟩ (fun hS0=>?_)
 iterate 9
  refine q00 (v:=?_) rfl (by rfl) ?_ ?_;rotate_left
  ·intro w a0;go_simp;with_reducible rfl
  simp only[Act.put,sa,sb,sc]
 refine q0D rfl ?_;go_wp2_with fail
 refine q02 (fun w'=>w'.cell? ⟨g,o+1,none⟩=some (.slice A n c)/\w'.cell? ⟨gx,ox+1,none⟩=some (.slice B m d)) 8
  (.still 0 (.still 1 (.still 2 (.still 3 (.still 4 (.still 5 (.still 6 (.still 7 .done)))))))) (by kernel_rfl) (by kernel_rfl) (fun _ _ d _ _ h=>by cases d<;>exact h) ⟨h1,k1⟩ (fun hS0=>?_)
 iterate 8
  refine q00 (v:=?_) rfl (by rfl) ?_ ?_;rotate_left
  ·intro w a0;go_simp;with_reducible rfl
  simp only[Act.put,sa,sb,sc]
 refine q0a ?_;go_wp2_with fail
 refine HC.o.mono ?_;rintro e w1 ⟨rfl,hB⟩;rw[q01,q01];go_wp2;go_ret
 exact⟨rfl,⟨hB.os,hB.tape,hB.output,hB.size,hB.block⟩⟩
theorem q71(g o gx ox N M n c m d:Nat)(A B:Option Addr)(w:World)(h0:w.cell? ⟨g,o,none⟩=some (.bool true))(h1:w.cell? ⟨g,o+1,none⟩=some (.slice A n c))(k0:w.cell? ⟨gx,ox,none⟩=some (.bool true))(k1:w.cell? ⟨gx,ox+1,none⟩=some (.slice B m d))
  (ha:Rd w A n c (toL N)) (hb:Rd w B m d (toL M)) :
  Calls Tryz.prog 152 #[.pointer (some ⟨g,o,none⟩),.pointer (some ⟨gx,ox,none⟩)] w fun e w'=>e=.returned (.int .i64 (-q0J N M))/\Below w.heap.size w w':=by
 have HC:=vv (q0F A B n m c d _ _ w.drew.drew (ha.like rfl) (hb.like rfl) (by rw[q01]) (by rw[q01]));have HW:IntKind.i64.wrap (-q0J N M) = -q0J N M:=by have:=q4g N M;rw[IntKind.wrap_i64];omega
 clear ha hb;go_enter Tryz.func152,Tryz.ntmps152
 go_wp2_with fail
 refine q02 (fun w'=>w'.cell? ⟨g,o,none⟩=some (.bool true)/\w'.cell? ⟨gx,ox,none⟩=some (.bool true)) 9
  (.still 0 (.still 1 (.still 2 (.still 3 (.still 4 (.still 5 (.still 6 (.still 7 (.still 8 .done))))))))) (by kernel_rfl) (by kernel_rfl) (fun _ _ d _ _ h=>by cases d<;>exact h) ⟨h0,k0⟩ (fun hS0=>?_)
 iterate 9
  refine q00 (v:=?_) rfl (by rfl) ?_ ?_;rotate_left
  ·intro w a0;go_simp;with_reducible rfl
  simp only[Act.put,sa,sb,sc]
 refine q0D rfl ?_;go_wp2_with fail
 refine q02 (fun w'=>w'.cell? ⟨g,o+1,none⟩=some (.slice A n c)/\w'.cell? ⟨gx,ox+1,none⟩=some (.slice B m d)) 8
  (.still 0 (.still 1 (.still 2 (.still 3 (.still 4 (.still 5 (.still 6 (.still 7 .done)))))))) (by kernel_rfl) (by kernel_rfl) (fun _ _ d _ _ h=>by cases d<;>exact h) ⟨h1,k1⟩ (fun hS0=>?_)
 iterate 8
  refine q00 (v:=?_) rfl (by rfl) ?_ ?_;rotate_left
  ·intro w a0;go_simp;with_reducible rfl
  simp only[Act.put,sa,sb,sc]
 refine q0a ?_;go_wp2_with fail
 refine HC.o.mono ?_;rintro e w1 ⟨rfl,hB⟩;rw[q01,q01];go_wp2;go_ret
 exact⟨rfl,⟨hB.os,hB.tape,hB.output,hB.size,hB.block⟩⟩
theorem q4P(g o gx ox:Nat)(a:Bool)(w:World)(h0:w.cell? ⟨g,o,none⟩=some (.bool a))(k0:w.cell? ⟨gx,ox,none⟩=some (.bool !a)):
  Calls Tryz.prog 152 #[.pointer (some ⟨g,o,none⟩),.pointer (some ⟨gx,ox,none⟩)] w fun e w'=>e=.returned (.int .i64 (if a then -1 else 1))/\Below w.heap.size w w':=by
 cases a
 all_goals
  go_enter Tryz.func152,Tryz.ntmps152
  go_wp2_with fail
 ·refine q02 (fun w'=>w'.cell? ⟨g,o,none⟩=some (.bool false)/\w'.cell? ⟨gx,ox,none⟩=some (.bool true)) 9
   (.still 0 (.still 1 (.still 2 (.still 3 (.still 4 (.still 5 (.still 6 (.still 7 (.still 8 .done))))))))) (by kernel_rfl) (by kernel_rfl) (fun _ _ d _ _ h=>by cases d<;>exact h) ⟨h0,k0⟩ (fun hS0=>?_)
  iterate 9
   refine q00 (v:=?_) rfl (by rfl) ?_ ?_;rotate_left
   ·intro w a0;go_simp;with_reducible rfl
   simp only[Act.put,sa,sb,sc]
  refine q0D rfl ?_;go_wp2;go_ret
  exact⟨rfl,q04 (Below.refl _ _)⟩
 ·refine q02 (fun w'=>w'.cell? ⟨g,o,none⟩=some (.bool true)/\w'.cell? ⟨gx,ox,none⟩=some (.bool false)) 9
   (.still 0 (.still 1 (.still 2 (.still 3 (.still 4 (.still 5 (.still 6 (.still 7 (.still 8 .done))))))))) (by kernel_rfl) (by kernel_rfl) (fun _ _ d _ _ h=>by cases d<;>exact h) ⟨h0,k0⟩ (fun hS0=>?_)
  iterate 9
   refine q00 (v:=?_) rfl (by rfl) ?_ ?_;rotate_left
   ·intro w a0;go_simp;with_reducible rfl
   simp only[Act.put,sa,sb,sc]
  refine q0D rfl ?_;go_wp2;go_ret
  exact⟨rfl,q04 (Below.refl _ _)⟩
theorem Cmp(g o gx ox:Nat)(u1 u2:Int)(w:World)(h:IntAt w g o u1)(hx:IntAt w gx ox u2):
  Calls Tryz.prog 152 #[.pointer (some ⟨g,o,none⟩),.pointer (some ⟨gx,ox,none⟩)] w fun e w'=>e=.returned (.int .i64 (q3s u1 u2))/\Below w.heap.size w w':=by
 obtain⟨A,n,c,h0,h1,hr,hz⟩:=h.ex;obtain⟨B,m,d,k0,k1,hs,hy⟩:=hx.ex;by_cases e1:u1<0<;>by_cases e2:u2<0
 ·rw[decide_eq_true e1] at h0;rw[decide_eq_true e2] at k0;rw[q6T e1 e2];exact q71 g o gx ox _ _ n c m d A B w h0 h1 k0 k1 hr hs
 ·rw[decide_eq_true e1] at h0;rw[decide_eq_false e2] at k0;rw[q2G (by omega)];exact q4P g o gx ox true w h0 k0
 ·rw[decide_eq_false e1] at h0;rw[decide_eq_true e2] at k0;rw[q2H (by omega)];exact q4P g o gx ox false w h0 k0
 ·rw[decide_eq_false e1] at h0;rw[decide_eq_false e2] at k0;rw[q3q e1 e2];exact q72 g o gx ox _ _ n c m d A B w h0 h1 k0 k1 hr hs
theorem Bit0(g o:Nat)(u:Int)(w:World)(h:IntAt w g o u):
  Calls Tryz.prog 219 #[.pointer (some ⟨g,o,none⟩),.int .i64 0] w fun e w'=>e=.returned (.int .u64 ((u.natAbs%2:Nat):Int))/\w=w':=by
 obtain⟨A,n,c,h0,h1,hr,hz⟩:=h.ex;have a1:=hr.sm;have hw:=hr.words;clear hz h h0;rcases Nat.eq_zero_or_pos n with rfl|hn
 ·have hu:=q07.1 hw;rw[hu];clear hw hr;go_enter Tryz.func219,Tryz.ntmps219
  go_wp2;go_ret
  exact⟨rfl,rfl⟩
 ·obtain⟨b,off,rfl,hb,hc⟩:=hr.cell hn;have a0:=hc 0 hn;rw[Nat.add_zero] at a0;have hl:=hr.nth_lt 0;have HB:=vv (q5c (nth (toL u.natAbs) 0) hl);have HE:=vv (q2P u.natAbs);clear hc hw hr;go_enter Tryz.func219,Tryz.ntmps219
  go_wp2;go_ret
  refine⟨q0i ?_,rfl⟩;rw[HB.o,HE.o,IntKind.wrap_u64];omega
def q3S(g o gr or:Nat)(q r:Int)(w:World)(e:Ending)(w':World):Prop:=
 e=.returned (.tuple #[.pointer (some ⟨g,o,none⟩),.pointer (some ⟨gr,or,none⟩)])/\IntAt w' g o q/\IntAt w' gr or r/\Fs [(gr,or,2),(g,o,2)] w w'
theorem QuoRem(g o gx ox gy oy gr or:Nat)(v u1 u2 ur:Int)(w:World)(h:IntAt w g o v)(hx:IntAt w gx ox u1)(hy:IntAt w gy oy u2)(hr:IntAt w gr or ur)(hne:g≠gr)(h0:u2≠0)(hn:Sz u1.natAbs):
  Calls Tryz.prog 283 #[.pointer (some ⟨g,o,none⟩),.pointer (some ⟨gx,ox,none⟩),.pointer (some ⟨gy,oy,none⟩),.pointer (some ⟨gr,or,none⟩)] w
   (q3S g o gr or (sg (decide (u1<0) != decide (u2<0)) (u1.natAbs/u2.natAbs)) (sg (decide (u1<0)) (u1.natAbs%u2.natAbs)) w):=by
 have HI:=vv h;have HR:=vv hr;have a8:=hx.lt;have a9:=hy.lt;obtain⟨A,n,c,h0,h1,ha,hz⟩:=hx.ex;obtain⟨B,m,d,k0,k1,hb,hy⟩:=hy.ex;have HM:=vv (q1r A B n m c d _ _ w.drew.drew (ha.like rfl) (hb.like rfl) (by omega) (by have:=ha.sz hn;omega));clear ha hz hb hy h hx hn hr;go_enter Tryz.func283,Tryz.ntmps283
 go_wp2_with fail
 refine q02 (fun w'=>w'.cell? ⟨gx,ox,none⟩=some (.bool (decide (u1<0)))/\w'.cell? ⟨gy,oy,none⟩=some (.bool (decide (u2<0)))) 9
  (.still 0 (.still 1 (.still 2 (.still 3 (.still 4 (.still 5 (.still 6 (.still 7 (.still 8 .done))))))))) (by kernel_rfl) (by kernel_rfl) (fun _ _ d _ _ h=>by cases d<;>exact h) ⟨h0,k0⟩ (fun hS0=>?_)
 iterate 9
  refine q00 (v:=?_) rfl (by rfl) ?_ ?_;rotate_left
  ·intro w a0;go_simp;with_reducible rfl
  simp only[Act.put,sa,sb,sc]
 refine q0a ?_;go_wp2_with fail
 refine q02 (fun w'=>w'.cell? ⟨gx,ox+1,none⟩=some (.slice A n c)/\w'.cell? ⟨gy,oy+1,none⟩=some (.slice B m d)) 14
  (.still 0 (.still 1 (.still 2 (.still 3 (.still 4 (.still 5 (.still 6 (.still 7 (.one 8 (.still 9 (.still 10 (.still 11 (.still 12 (.still 13 .done)))))))))))))) (by kernel_rfl) (by kernel_rfl) (fun _ _ d _ _ h=>by cases d<;>exact h) ⟨h1,k1⟩ (fun hS0=>?_)
 iterate 8
  refine q00 (v:=?_) rfl (by rfl) ?_ ?_;rotate_left
  ·intro w a0;go_simp;with_reducible rfl
  simp only[Act.put,sa,sb,sc]
 refine q03 rfl (by rfl) (fun K hK=>?_);go_simp;refine HM.o.mono ?_;rintro e w1 ⟨A1,m1,c1,A2,m2,c2,rfl,a1,a2,a3,b0,hB⟩;have HB:Hid (Below w.heap.size w w1):=vv ⟨hB.os,hB.tape,hB.output,hB.size,hB.block⟩;have b1:=vv a1;have b2:=vv a2;clear a1 a2 hB;go_wp2_with fail
 refine hK.out _ _ ⟨(HB.o.cell (p:=⟨gx,ox+1,none⟩) a8).trans h1,(HB.o.cell (p:=⟨gy,oy+1,none⟩) a9).trans k1⟩ (fun a4=>?_);clear hK
 iterate 5
  refine q00 (v:=?_) rfl (by rfl) ?_ ?_;rotate_left
  ·intro w a0;go_simp;with_reducible rfl
  simp only[Act.put,sa,sb,sc]
 refine q0D rfl ?_;go_wp2_with fail
 refine(q0r gr or ur (sg (decide (u1<0)) (u1.natAbs%u2.natAbs)) _ A2 m2 c2 _ _ (HR.o.below HB.o) b2.o (fun a e=>(b0 a e).2) (q0R _ _) (q1a _ _)).mono ?_;rintro e w2 hP;have HF:=vv (hP.fs (HR.o.below HB.o));obtain⟨rfl,a5,hF⟩:=hP;have b3:=vv a5;clear a5;go_wp2_with fail
 refine(q0r g o v (sg (decide (u1<0) != decide (u2<0)) (u1.natAbs/u2.natAbs)) _ A1 m1 c1 _ _ ((HI.o.below HB.o).fs1 HF.o (Ne.symm hne)) (b1.o.fs (fun a e=>(a3 a e).2) HF.o) (fun a e=>(a3 a e).2) (q0R _ _) (q1a _ _)).mono ?_;rintro e w3 hP;have a6:=vv (hP.fs ((HI.o.below HB.o).fs1 HF.o (Ne.symm hne)));obtain⟨rfl,a7,b5⟩:=hP;have b4:=vv a7;clear a7;go_wp2;go_ret2
 exact⟨rfl,b4.o,b3.o.fs1 a6.o hne,((Fs.of_below [] HB.o (fun _ hp=>by cases hp)).trans HF.o).trans a6.o⟩
theorem q70(g o gx ox gy oy gr or:Nat)(v u1 u2 ur:Int)(w:World)(h:IntAt w g o v)(hx:IntAt w gx ox u1)(hy:IntAt w gy oy u2)(hr:IntAt w gr or ur)(hne:g≠gr)(h0:u2≠0)(hn:Sz u1.natAbs)
  (hlow:¬sg (decide (u1<0)) (u1.natAbs%u2.natAbs)<0) :
  Calls Tryz.prog 254 #[.pointer (some ⟨g,o,none⟩),.pointer (some ⟨gx,ox,none⟩),.pointer (some ⟨gy,oy,none⟩),.pointer (some ⟨gr,or,none⟩)] w (q3S g o gr or (u1/u2) (u1%u2) w):=by
 obtain⟨E1,E2⟩:=q92 h0 hlow;have HD:Hid (decide (u1%u2<0)=false):=vv (decide_eq_false (by rw[<- E2];exact hlow));have HI:=vv h;have HR:=vv hr;have HX:=vv hx;have HY:=vv hy;obtain⟨B,m,d,k0,k1,hb,a0⟩:=hy.ex;have HC:=vv (q0I B m d _ w hb);have HQ:=vv fun w' (hw:Below w.heap.size w w')=>QuoRem g o gx ox gy oy gr or v u1 u2 ur w' (h.below hw) (hx.below hw) (hy.below hw) (hr.below hw) hne h0 hn
 rw[E1,E2] at HQ;clear hb a0 h hx hy hr hlow hn E1 E2;go_enter Tryz.func254,Tryz.ntmps254
 go_wp2_with fail
 refine HC.o.mono ?_;rintro e w1 ⟨rfl,hO,hB⟩;have HB:=vv hB;clear hB hO;go_wp2_with fail
 refine(HQ.o _ HB.o).mono ?_;rintro e w2 ⟨rfl,hq,hm,hF⟩;have HF:=vv hF;have a1:=vv hq;have a2:=vv hm;obtain⟨A,n,c,m0,m1,_,_⟩:=hm.ex;rw[HD.o] at m0;clear hF hq hm;go_wp2;go_ret2
 exact⟨rfl,a1.o,a2.o,(Fs.of_below [] HB.o (fun _ hp=>by cases hp)).trans HF.o⟩
theorem q60(g o gx ox gy oy gr or:Nat)(v u1 u2 ur:Int)(w:World)(h:IntAt w g o v)(hx:IntAt w gx ox u1)(hy:IntAt w gy oy u2)(hr:IntAt w gr or ur)(hne:g≠gr)(h0:u2≠0)(hn:Sz u1.natAbs)
  (hlow:sg (decide (u1<0)) (u1.natAbs%u2.natAbs)<0) :
  Calls Tryz.prog 254 #[.pointer (some ⟨g,o,none⟩),.pointer (some ⟨gx,ox,none⟩),.pointer (some ⟨gy,oy,none⟩),.pointer (some ⟨gr,or,none⟩)] w (q3S g o gr or (u1/u2) (u1%u2) w):=by
 obtain⟨E1,E2⟩:=q8m h0 hlow;have c2:Sz (sg (decide (u1<0) != decide (u2<0)) (u1.natAbs/u2.natAbs)).natAbs:=by rw[q0R];exact hn.mono (Nat.div_le_self _ _)
 have c3:(sg (decide (u1<0)) (u1.natAbs%u2.natAbs)).natAbs=u1.natAbs%u2.natAbs:=q0R _ _;have a3:u1.natAbs%u2.natAbs<=u2.natAbs:=Nat.le_of_lt (Nat.mod_lt _ (by omega));obtain⟨Q,hQ⟩:=yx (sg (decide (u1<0) != decide (u2<0)) (u1.natAbs/u2.natAbs));obtain⟨R,hR⟩:=yx (sg (decide (u1<0)) (u1.natAbs%u2.natAbs));have HI:=vv h;have HR:=vv hr;have HX:=vv hx;have HY:=vv hy;obtain⟨B,m,d,k0,k1,hb,d7⟩:=hy.ex;have d4:=hb.len;have b0:=hb.sm;have HC:=vv (q0I B m d _ w hb);have HQ:=vv fun w' (hw:Below w.heap.size w w')=>QuoRem g o gx ox gy oy gr or v u1 u2 ur w' (h.below hw) (hx.below hw) (hy.below hw) (hr.below hw) hne h0 hn
 rw[<- hQ] at E1 c2 HQ;rw[<- hR] at hlow c3 HQ;rw[<- c3] at E2 a3;have HD:Hid (decide (R<0)=true):=vv (decide_eq_true hlow);have c0:=vv E1;have c1:=vv E2;have HL:=vv a3;have b1:=vv d4;have d5:=vv b0;have d6:=vv c2;clear hb d7 h hx hy hr hlow hn c2 c3 hQ hR d4 b0 E1 E2 a3;by_cases hu:u2<0
 ·rw[decide_eq_true hu] at k0;rw[if_pos hu] at c0;go_enter Tryz.func254,Tryz.ntmps254
  go_wp2_with fail
  refine HC.o.mono ?_;rintro e w1 ⟨rfl,hO,hB⟩;have HO:=vv (hO.rd b1.o.symm lr d5.o);have HB:=vv hB;clear hB hO;go_wp2_with fail
  refine(HQ.o _ HB.o).mono ?_;rintro e w2 ⟨rfl,hq,hm,hF⟩;have HF:=vv hF;have c6:=vv (HO.o.fs (fun a e=>by cases e;rfl) hF);have a4:=vv hq;have c7:=vv hm;obtain⟨A,n,c,m0,m1,a1,a5⟩:=hm.ex;rw[HD.o] at m0;have c8:=hq.lt;have c9:=hm.lt;clear hF hq hm a1 a5;go_wp2_with fail
  refine(NewInt 1 _ (by omega) (by omega)).mono ?_;rintro e w3 ⟨g1,rfl,d8,b2,b3⟩;have d0:=vv b2;have a0:=vv b3;clear b2 b3;go_wp2_with fail
  refine(Add g o g o g1 0 _ _ _ _ (a4.o.below a0.o) (a4.o.below a0.o) d0.o d6.o (Sz.small (by decide))).mono ?_;rintro e w4 hP;have a6:=vv (hP.fs (a4.o.below a0.o));obtain⟨rfl,b4,_⟩:=hP;have d1:=vv b4;have a7:=vv ((c7.o.below a0.o).fs1 a6.o hne);have b5:=vv ((c6.o.below a0.o rfl).fs (fun a e=>by cases e;rfl) a6.o);obtain⟨A4,n4,c4,p0,p1,a1,a5⟩:=a7.o.ex;have b6:=vv a1;clear b4 a1 a5;go_wp2_with fail
  refine(q0N _ A4 m n4 m c4 _ _ _ b5.o b6.o (by rw[q01,q01];exact HL.o) (b6.o.le_of b5.o HL.o)).mono ?_;rintro e w5 ⟨A5,m5,c5,rfl,a8,a9,b7⟩;rw[q01,q01] at a8;have d2:=vv a8;have a2:=vv b7;clear a8 b7;go_wp2_with fail
  refine(q0r gr or R (u1%u2) _ A5 m5 c5 _ _ (a7.o.below a2.o) d2.o (fun a e=>(a9 a e).2) (by rw[<- c1.o];rfl) (q1V (by rw[<- c1.o];omega))).mono ?_;rintro e w6 hP;have b8:=vv (hP.fs (a7.o.below a2.o));obtain⟨rfl,b9,_⟩:=hP;have d3:=vv b9;clear b9;go_wp2;go_ret2
  refine⟨rfl,?_,d3.o,?_⟩
  ·rw[<- c0.o];exact(d1.o.below a2.o).fs1 b8.o (Ne.symm hne)
  ·exact q6L ((Fs.of_nil HB.o).trans (HF.o.trans ((Fs.of_nil a0.o).trans (a6.o.trans ((Fs.of_nil a2.o).trans b8.o)))))
 ·rw[decide_eq_false hu] at k0;rw[if_neg hu] at c0;go_enter Tryz.func254,Tryz.ntmps254
  go_wp2_with fail
  refine HC.o.mono ?_;rintro e w1 ⟨rfl,hO,hB⟩;have HO:=vv (hO.rd b1.o.symm lr d5.o);have HB:=vv hB;clear hB hO;go_wp2_with fail
  refine(HQ.o _ HB.o).mono ?_;rintro e w2 ⟨rfl,hq,hm,hF⟩;have HF:=vv hF;have c6:=vv (HO.o.fs (fun a e=>by cases e;rfl) hF);have a4:=vv hq;have c7:=vv hm;obtain⟨A,n,c,m0,m1,a1,a5⟩:=hm.ex;rw[HD.o] at m0;have c8:=hq.lt;have c9:=hm.lt;clear hF hq hm a1 a5;go_wp2_with fail
  refine(NewInt 1 _ (by omega) (by omega)).mono ?_;rintro e w3 ⟨g1,rfl,d8,b2,b3⟩;have d0:=vv b2;have a0:=vv b3;clear b2 b3;go_wp2_with fail
  refine(Sub g o g o g1 0 _ _ _ _ (a4.o.below a0.o) (a4.o.below a0.o) d0.o d6.o (Sz.small (by decide))).mono ?_;rintro e w4 hP;have a6:=vv (hP.fs (a4.o.below a0.o));obtain⟨rfl,b4,_⟩:=hP;have d1:=vv b4;have a7:=vv ((c7.o.below a0.o).fs1 a6.o hne);have b5:=vv ((c6.o.below a0.o rfl).fs (fun a e=>by cases e;rfl) a6.o);obtain⟨A4,n4,c4,p0,p1,a1,a5⟩:=a7.o.ex;have b6:=vv a1;clear b4 a1 a5;go_wp2_with fail
  refine(q0N _ A4 m n4 m c4 _ _ _ b5.o b6.o (by rw[q01,q01];exact HL.o) (b6.o.le_of b5.o HL.o)).mono ?_;rintro e w5 ⟨A5,m5,c5,rfl,a8,a9,b7⟩;rw[q01,q01] at a8;have d2:=vv a8;have a2:=vv b7;clear a8 b7;go_wp2_with fail
  refine(q0r gr or R (u1%u2) _ A5 m5 c5 _ _ (a7.o.below a2.o) d2.o (fun a e=>(a9 a e).2) (by rw[<- c1.o];rfl) (q1V (by rw[<- c1.o];omega))).mono ?_;rintro e w6 hP;have b8:=vv (hP.fs (a7.o.below a2.o));obtain⟨rfl,b9,_⟩:=hP;have d3:=vv b9;clear b9;go_wp2;go_ret2
  refine⟨rfl,?_,d3.o,?_⟩
  ·rw[<- c0.o,<- Int.sub_eq_add_neg];exact(d1.o.below a2.o).fs1 b8.o (Ne.symm hne)
  ·exact q6L ((Fs.of_nil HB.o).trans (HF.o.trans ((Fs.of_nil a0.o).trans (a6.o.trans ((Fs.of_nil a2.o).trans b8.o)))))
theorem q98(g o gx ox gy oy gr or:Nat)(v u1 u2 ur:Int)(w:World)(h:IntAt w g o v)(hx:IntAt w gx ox u1)(hy:IntAt w gy oy u2)(hr:IntAt w gr or ur)(hne:g≠gr)(h0:u2≠0)(hn:Sz u1.natAbs):
  Calls Tryz.prog 254 #[.pointer (some ⟨g,o,none⟩),.pointer (some ⟨gx,ox,none⟩),.pointer (some ⟨gy,oy,none⟩),.pointer (some ⟨gr,or,none⟩)] w (q3S g o gr or (u1/u2) (u1%u2) w):=by
 by_cases hlow:sg (decide (u1<0)) (u1.natAbs%u2.natAbs)<0
 ·exact q60 g o gx ox gy oy gr or v u1 u2 ur w h hx hy hr hne h0 hn hlow
 ·exact q70 g o gx ox gy oy gr or v u1 u2 ur w h hx hy hr hne h0 hn hlow
theorem Div(g o gx ox gy oy:Nat)(v u1 u2:Int)(w:World)(h:IntAt w g o v)(hx:IntAt w gx ox u1)(hy:IntAt w gy oy u2)(h0:u2≠0)(hn:Sz u1.natAbs):
  Calls Tryz.prog 216 #[.pointer (some ⟨g,o,none⟩),.pointer (some ⟨gx,ox,none⟩),.pointer (some ⟨gy,oy,none⟩)] w fun e w'=>e=.returned (.pointer (some ⟨g,o,none⟩))/\IntAt w' g o (u1/u2)/\Fs [(g,o,2)] w w':=by
 have a1:=h.lt;have HI:=vv h;have HX:=vv hx;have HY:=vv hy;have HO:=vv h.head;clear h hx hy;go_enter Tryz.func216,Tryz.ntmps216
 go_wp2_with fail
 have HB:Hid (∀t,Below w.heap.size w (w.alloc (.cells #[.bool false,.slice none 0 0] t))):=vv fun t=>(Below.refl _ w).alloc lr _
 refine(q98 g o gx ox gy oy _ 0 _ _ _ _ _ (HI.o.below (HB.o _)) (HX.o.below (HB.o _)) (HY.o.below (HB.o _)) (IntAt.zero w 117) (by omega) h0 hn).mono ?_;rintro e w1 ⟨rfl,hq,hm,hF⟩;have HQ:=vv hq;have HF:=vv hF;clear hq hm hF;go_wp2;go_ret
 exact⟨rfl,HQ.o,((Fs.of_nil (HB.o _)).trans HF.o).weak (fun p hp a0=>by
  simp only[List.nil_append,List.mem_cons,List.not_mem_nil,or_false] at hp ⊢;rcases hp with rfl|rfl
  ·exact absurd a0 (Nat.lt_irrefl _)
  ·rfl) (fun p hp _=>by rw[List.mem_singleton.1 hp];exact HO.o)⟩
theorem Exp(g o gx ox gy oy:Nat)(v:Int)(x y:Nat)(w:World)(h:IntAt w g o v)(hx:IntAt w gx ox (x:Int))(hy:IntAt w gy oy (y:Int))(hx0:0<x)(hy0:0<y)(hs:Sz (x^y))(hsy:Sz y):
  Calls Tryz.prog 156 #[.pointer (some ⟨g,o,none⟩),.pointer (some ⟨gx,ox,none⟩),.pointer (some ⟨gy,oy,none⟩),.pointer none] w (q5Y g o ((x^y:Nat):Int) w):=by
 have HI:=vv h;have HX:=vv hx;have HY:=vv hy;have b9:=hy.lt;have HP:Hid (∀q,q<=y->Sz (x^q)):=vv fun q hq=>hs.mono (Nat.pow_le_pow_right hx0 hq)
 have c0:Hid ((y:Int).sign=1):=vv (Int.sign_eq_one_of_pos (by omega));have c1:=vv hsy;have d7:=vv hx0;have c2:=vv hy0;have HB:Hid (∀(w:World) t,Below w.heap.size w (w.alloc (.cells #[.bool false,.slice none 0 0] t))):=vv fun w t=>(Below.refl _ w).alloc lr _
 have HZ:=vv (IntAt.zero w 117);clear h hx hy hs hsy hx0 hy0;go_enter Tryz.func156,Tryz.ntmps156
 go_wp2_with fail
 refine(NewInt 1 _ (by omega) (by omega)).mono ?_;rintro e w1 ⟨g1,rfl,b3,a4,a5⟩;have c3:=vv a4;have a6:=vv ((HB.o w 117).trans (a5.mono (Below.size (HB.o w 117))));have c4:=vv (HZ.o.below a5);have c6:=a4.lt;have c7:w.heap.size<g1:=by simp at b3;omega
 have a7:=a6.o.size;clear a4 a5 b3;go_wp2_with fail
 have a8:=vv (a6.o.trans ((HB.o w1 117).mono a6.o.size));have b4:=vv (IntAt.zero w1 117);refine(Set _ 0 gx ox 0 _ _ b4.o (HX.o.below a8.o)).mono ?_;rintro e w2 hP;have hP:=hP.f b4.o;have a9:=vv (hP.below a8.o (a8.o.size) a7);have c8:=vv ((c3.o.below (HB.o w1 117)).fs1 hP.2.2 (by omega));have c9:=vv ((c4.o.below (HB.o w1 117)).fs1 hP.2.2 (by omega));have d0:=vv hP.2.1;obtain⟨rfl,-,-⟩:=hP;have b0:=vv (HY.o.below a9.o);go_wp2_with fail
 refine(Sign gy oy _ _ b0.o).mono ?_;rintro e w3 ⟨rfl,rfl⟩;rw[c0.o];obtain⟨B,m,d,k0,k1,hr,hz⟩:=b0.o.ex;have HR:=vv hr;have hm:=hr.words;have HM:=vv hm;have d8:=hr.sz c1.o;have b5:=b0.o.lt;clear hr hz k0 hm;go_wp2_with fail
 refine(q0I _ _ _ _ _ HR.o).mono ?_;rintro e w3 ⟨rfl,hO,hB⟩;have d1:Hid (ExpInv w w.heap.size g1 w1.heap.size (some ⟨w2.heap.size,0,none⟩) m x y 0 w3):=vv
  ⟨c9.o.below hB,by simpa using c8.o.below hB,d0.o.below hB,hO.rd HR.o.len.symm lr HR.o.sm,fun a e=>by cases e;rfl,a9.o.trans (hB.mono a9.o.size)⟩
 clear hO hB;go_wp2;go_loopw [13] (fun i wr=>∃(z:Int) (j:Nat),i=.int .i64 z/\z+1=j/\j<=32*m/\ExpInv w w.heap.size g1 w1.heap.size (some ⟨w2.heap.size,0,none⟩) m x y (y/2^j) wr) (fun i _=>(intOf i+1).toNat)
 case atStart =>
  refine⟨_,32*m,rfl,by omega,lr,?_⟩;have b6:=q0d y;have d2:words y=m:=HM.o;rw[d2,q21] at b6;rw[Nat.div_eq_of_lt b6];exact d1.o
 case round =>
  obtain⟨z,j,rfl,hz,hj,hE⟩:=hrel;have HE:=vv hE;clear hE;rcases Nat.eq_zero_or_pos j with rfl|d3
  ·obtain rfl:z = -1:=by omega
   clear hz;go_wp2_with fail
   have b7:=HE.o.o;rw[Nat.pow_zero,Nat.div_one] at b7;refine(Set g o g1 0 _ _ _ (HI.o.below HE.o.bel) b7).mono ?_;rintro e w5 hP;have hF:=vv ((hP.f (HI.o.below HE.o.bel)).after HE.o.bel);obtain⟨rfl,d4,-⟩:=hP;go_wp2;go_ret
   exact⟨rfl,d4,hF.o⟩
  ·obtain⟨i,rfl⟩:∃i,j=i+1:=⟨j-1,by omega⟩;obtain rfl:z=(i:Int):=by omega
   clear hz;have i1:(0:Int)<=(i:Int):=by omega
   have i2:(i:Int)<32*(m:Int):=by omega
   go_wp2_with fail
   refine(Mul g1 0 g1 0 g1 0 _ _ _ _ HE.o.o HE.o.o HE.o.o (by simpa using HP.o _ (Nat.div_le_self _ _)) (by simpa using HP.o _ (Nat.div_le_self _ _))).mono ?_;rintro e w4 hP;have a1:=vv (HE.o.step hP (q':=2*(y/2^(i+1))) (by rw[<- Int.natCast_mul,<- Nat.pow_add];congr 2;omega) (by omega) (by omega) (by omega));obtain⟨rfl,-,-⟩:=hP;obtain⟨b,off,d5,d9,hc⟩:=a1.o.words.cell (by omega);cases d5
   have b8:=hc (i/32) (by omega);rw[Nat.zero_add] at b8;clear hc;have a0:=q3P (nth (toL y) (i/32)) (i%32) (a1.o.words.nth_lt _);rw[q6y] at a0;have HQ:=vv (q2R y i);by_cases hb:y/2^i%2=1
   ·rw[decide_eq_true hb] at a0;have a3:Hid (y/2^i=2*(y/2^(i+1))+1):=vv (by have:=HQ.o;omega);clear hb;go_wp2_with fail
    refine(Mul g1 0 g1 0 w1.heap.size 0 _ _ _ _ a1.o.o a1.o.o a1.o.base (by simpa using HP.o _ (by have:=Nat.div_le_self y (2^i);have:=a3.o;omega)) (by simpa using HP.o 1 c2.o)).mono ?_;rintro e w5 hP;have a2:=vv (a1.o.step hP (q':=y/2^i) (by rw[a3.o,Nat.pow_add x _ 1,Nat.pow_one,Int.natCast_mul]) (by omega) (by omega) (by omega));obtain⟨rfl,-,-⟩:=hP;obtain⟨A5,c5,d6⟩:=a2.o.by_.nil;have b1:=a2.o.by_.lt;clear b8 a0;go_wp2;go_roundw
    case rel=>exact⟨_,i,rfl,by omega,by omega,a2.o⟩
    case measure=>simp [intOf]
   ·rw[decide_eq_false hb] at a0;have a3:Hid (y/2^i=2*(y/2^(i+1))):=vv (by have:=HQ.o;omega);clear hb;have b2:=a1.o;rw[<- a3.o] at b2;have a2:=vv b2;obtain⟨A5,c5,d6⟩:=a2.o.by_.nil;have b1:=a2.o.by_.lt;clear b2;go_wp2;go_roundw
    case rel=>exact⟨_,i,rfl,by omega,by omega,a2.o⟩
    case measure=>simp [intOf]
def q3z(d:Nat)(w:World)(e:Ending)(w':World):Prop:=∃A n c,e=.returned (.slice A n c)/\Rd w' A n c (toL d)/\(∀a,A=some a->a.off=0)/\Below w.heap.size w w'
theorem below(g:Nat)(p:Int)(d:Nat)(w:World)(h:RatAt w g p d):
  Calls Tryz.prog 110 #[.pointer (some ⟨g,0,none⟩)] w (q3z (ld p d) w):=by
 have a0:=h.lt;have hp:=q1m (p:=p) h.pos;obtain⟨A,n,c,e,⟨hd,hz⟩⟩:=h.den;clear h;rcases hd with ⟨rfl,hd⟩|⟨hn,hr⟩
 ·rw[hd];clear hd hp;go_enter Tryz.func110,Tryz.ntmps110
  go_wp2;go_ret
  have hO:Own (w.alloc (.cells #[.int .u32 1] 34)) w.heap.size 34 [1]:=Own.lit _ (q0w.2 ⟨by omega,q0K⟩) (by simp [q0p]);exact⟨_,1,1,rfl,hO.rd rfl lr (by omega),fun a e=>by cases e;rfl,(Below.refl _ _).alloc lr _⟩
 ·have a1:=hr.sm;have h0:((n:Int)==0)=false:=by simp;omega
  have HR:=vv hr;clear hr hp;go_enter Tryz.func110,Tryz.ntmps110
  go_wp2;go_ret
  exact⟨_,n,c,rfl,HR.o,hz,Below.refl _ _⟩
theorem SetInt(g gx:Nat)(u:Int)(w:World)(h:RatSh w g)(hx:IntAt w gx 0 u):
  Calls Tryz.prog 69 #[.pointer (some ⟨g,0,none⟩),.pointer (some ⟨gx,0,none⟩)] w (q2E g u 1 w):=by
 have HH:=vv h;obtain⟨v,hv⟩:=h.int;have HV:=vv hv;have a2:=hv.lt;have HS:=vv (Set g 0 gx 0 v u w hv hx);clear hv h hx;go_enter Tryz.func69,Tryz.ntmps69
 go_wp2_with fail
 refine HS.o.mono ?_;rintro e w1 hP;have hP:=hP.f HV.o;have hN:=HH.o.num hP;obtain⟨hi,x,hx⟩:=hN;have a0:=hi.lt;have a3:=hi.fz 2;have HF:=vv hP.2.2;have HI:=vv hi;obtain⟨rfl,-,-⟩:=hP;have a1:=vv hx;clear hi;go_wp2;go_ret
 refine⟨rfl,RatAt.made HI.o ⟨x,a1.o⟩ (q1w.nil _) (by omega) (by omega) (Nat.gcd_one_right _) rfl,fs3 ?_⟩;exact HF.o.trans (Fs.set2 HI.o _)
theorem Num(g:Nat)(p:Int)(d:Nat)(w:World)(h:RatAt w g p d):
  Calls Tryz.prog 154 #[.pointer (some ⟨g,0,none⟩)] w (q0Z (lp p d) w):=by
 have a0:=h.lt;have HB:Hid (∀t,Below w.heap.size w (w.alloc (.cells #[.bool false,.slice none 0 0] t))):=vv fun t=>(Below.refl _ w).alloc lr _
 have HN:=vv h.num;clear h;go_enter Tryz.func154,Tryz.ntmps154
 go_wp2_with fail
 refine(Set _ 0 g 0 0 _ _ (IntAt.zero w 117) (HN.o.below (HB.o _))).mono ?_;rintro e w1 ⟨rfl,hI,hF⟩;go_wp2;go_ret
 exact⟨_,rfl,lr,hI,hF.below (HB.o _) (by simp) lr⟩
theorem Denom(g:Nat)(p:Int)(d:Nat)(w:World)(h:RatAt w g p d):
  Calls Tryz.prog 155 #[.pointer (some ⟨g,0,none⟩)] w (q0Z (ld p d:Nat) w):=by
 have a5:=h.lt;have HB:Hid (∀t,Below w.heap.size w (w.alloc (.cells #[.bool false,.slice none 0 0] t))):=vv fun t=>(Below.refl _ w).alloc lr _
 have HN:=vv h;clear h;go_enter Tryz.func155,Tryz.ntmps155
 go_wp2_with fail
 refine(below g p d _ (HN.o.below (HB.o _))).mono ?_;rintro e w1 ⟨A,n,c,rfl,hR,hz,a0⟩;have HZ:=vv ((IntAt.zero w 117).below a0);have HR:=vv hR;have a3:=vv ((HB.o 117).trans (a0.mono (HB.o _).size));clear hR a0;go_wp2_with fail
 refine(q0I _ _ _ _ _ HR.o).mono ?_;rintro e w2 ⟨rfl,hO,a1⟩;have HO:=vv hO;have a4:=vv (HZ.o.below a1);have a2:=vn a3 a1;clear hO a1;go_wp2_with fail
 refine(q0r _ 0 0 (ld p d:Nat) _ _ n n (ld p d) _ a4.o (HO.o.rd HR.o.len.symm lr HR.o.sm) (fun a e=>by cases e;rfl) rfl (q1V (by omega))).mono ?_;rintro e w3 ⟨rfl,hI,hF⟩;go_wp2;go_ret
 exact⟨_,rfl,lr,hI,hF.below a2.o a2.o.size lr⟩
theorem RSign(g:Nat)(p:Int)(d:Nat)(w:World)(h:RatAt w g p d):
  Calls Tryz.prog 117 #[.pointer (some ⟨g,0,none⟩)] w fun e w'=>e=.returned (.int .i64 p.sign)/\w=w':=by
 have a0:=h.lt;have HN:=vv (Sign g 0 _ w h.num);have HS:=vv (q6D (p:=p) h.pos);clear h;go_enter Tryz.func117,Tryz.ntmps117
 go_wp2_with fail
 refine HN.o.mono ?_;rintro e w1 ⟨rfl,rfl⟩;rw[HS.o];go_wp2;go_ret
 exact⟨rfl,rfl⟩
theorem q3v(g:Nat)(b:Bool)(A B:Option Addr)(n c m d:Nat)(xs ys:List Nat)(w:World)(h:RatSh w g)(ha:Rd w A n c xs)(hb:Rd w B m d ys)(hD:0<val ys)(h0:val xs=0):
  Calls Tryz.prog 162 #[.pointer (some ⟨g,0,none⟩),.bool b,.slice A n c,.slice B m d] w (q2E g (sg b (val xs)) (val ys) w):=by
 have HH:=vv h;obtain⟨v,hv⟩:=h.int;have HV:=vv hv;have a2:=hv.lt;have HA:=vv (q10 A n c xs w ha);have HB:=vv (q10 B m d ys w hb);have HD:=vv hD;have H0:=vv h0;clear hv h ha hb hD h0;go_enter Tryz.func162,Tryz.ntmps162
 go_wp2_with fail
 refine HA.o.mono ?_;rintro e w' ⟨n1,rfl,rfl,hR⟩;obtain rfl:n1=0:=by rw[<- hR.words];exact q07.2 H0.o
 clear hR;go_wp2_with fail
 refine HB.o.mono ?_;rintro e w' ⟨m1,rfl,rfl,hR⟩;clear hR;go_wp2_with fail
 refine(q0r g 0 v 0 _ none 0 0 0 _ HV.o (Rd.nil _) (fun a e=>by cases e) rfl rfl).mono ?_;rintro e w1 hP;have hP:=hP.f HV.o;obtain⟨hi,x,hx⟩:=HH.o.num hP;have a0:=hi.lt;have a3:=hi.fz 2;have HF:=vv hP.2.2;have HI:=vv hi;obtain⟨rfl,-,-⟩:=hP;have a1:=vv hx;clear hi;go_wp2;go_ret
 refine⟨rfl,RatAt.made HI.o ⟨x,a1.o⟩ (q1w.nil _) HD.o (by omega) (Nat.gcd_one_right _) ?_,fs3 ?_⟩
 ·rw[H0.o];cases b<;>simp [sg]
 ·exact HF.o.trans (Fs.set2 HI.o _)
theorem q4k(g:Nat)(b:Bool)(A B:Option Addr)(n c m d:Nat)(xs ys:List Nat)(w:World)(h:RatSh w g)(ha:Rd w A n c xs)(hb:Rd w B m d ys)(hD:0<val ys)(h0:0<val xs)(hza:∀a,A=some a->a.off=0)(hzb:∀a,B=some a->a.off=0)
  (hst:Std w) (hn:n<549755813888) (hm:m<549755813888) :
  Calls Tryz.prog 162 #[.pointer (some ⟨g,0,none⟩),.bool b,.slice A n c,.slice B m d] w (q2E g (sg b (val xs)) (val ys) w):=by
 have HH:=vv h;obtain⟨v,hv⟩:=h.int;have HV:=vv hv;have e0:=hv.lt;have HA:=vv (q10 A n c xs w ha);have HB:=vv (q10 B m d ys w hb);have HD:=vv hD;have H0:=vv h0;have b8:=vv hst;have b9:=vv ha.lim;have c0:=vv hb.lim;have c3:=vv ha.len;have c5:=vv hb.len;have HG:=vv (q0B (n:=val xs) hD);have a0:=vv (q7N (b:=b) (N:=val xs) hD);have b0:Hid (0<val ys/Nat.gcd (val xs) (val ys)):=vv (Nat.div_pos (Nat.le_of_dvd hD (Nat.gcd_dvd_right _ _)) HG.o);clear hv h ha hb hD h0 hst;go_enter Tryz.func162,Tryz.ntmps162
 go_wp2_with fail
 refine HA.o.mono ?_;rintro e w' ⟨n1,rfl,rfl,hR⟩;have e1:n1<=n:=hR.trim_le b9.o (by rw[c3.o];exact lr);have e2:0<n1:=by
  rcases Nat.eq_zero_or_pos n1 with e|e
  ·have:=hR.words;rw[e] at this;have:=q07.1 this;have:=H0.o;omega
  ·exact e
 have e3:=hR.sm;have HR:=vv hR;clear hR;go_wp2_with fail
 refine HB.o.mono ?_;rintro e w' ⟨m1,rfl,rfl,hR⟩;have e4:m1<=m:=hR.trim_le c0.o (by rw[c5.o];exact lr);have b1:=vv hR;clear hR;have e5:((n1:Int)==0)=false:=by simp;omega
 go_wp2_with fail
 refine(q2S A B n1 m1 c d _ _ _ HR.o b1.o b8.o (by omega) (by omega)).mono ?_;rintro e w1 ⟨A1,k1,c1,rfl,hG,c6,a8⟩;have b2:=vv hG;have b3:=vv a8;have c7:=vv (HR.o.below a8 rfl);have a9:=vv (b1.o.below a8 rfl);clear hG;go_wp2_with fail
 refine q02 (fun _=>True) 7
  (.still 0 (.still 1 (.still 2 (.still 3 (.still 4 (.still 5 (.one 6 .done))))))) (by kernel_rfl) (by kernel_rfl) (fun _ _ d _ _ h=>by cases d<;>exact h) trivial (fun hS0=>?_)
 clear hS0
 iterate 6
  refine q00 (v:=?_) rfl (by rfl) ?_ ?_;rotate_left
  ·intro w e6;go_simp;with_reducible rfl
  simp only[Act.put,sa,sb,sc]
 refine q03 rfl (by rfl) (fun K hK=>?_);go_simp;refine(by_ A A1 n1 k1 c c1 _ _ _ c7.o.drew b2.o.drew HG.o (by omega)).mono ?_;rintro e w2 ⟨A2,k2,c2,rfl,hQ,a1,a4⟩;have a5:Hid (Below w.heap.size w w2):=vv ((q04 b3.o).trans (a4.mono (by simpa using b3.o.size)));have b4:∀a,A2=some a->a.off=0:=fun a e=>by
  rcases a1 with hf|hf
  ·exact(hf a e).2
  ·exact hza a (hf ▸ e)
 have HQ:=vv hQ;have c8:=vv b4;have c9:=vv (b2.o.drew.below a4 rfl);have a2:=vv (a9.o.drew.below a4 rfl);clear hQ b4 a1 a4;go_wp2_with fail
 refine hK.out _ _ trivial (fun b5=>?_);clear hK;refine q0a ?_;go_wp2_with fail
 refine(q0r g 0 v (sg b (val xs/Nat.gcd (val xs) (val ys))) _ A2 k2 c2 _ _ (HV.o.below a5.o) HQ.o c8.o (q0R _ _) (q1a _ _)).mono ?_;rintro e w3 hP;have hP:=hP.f (HV.o.below a5.o);have d0:=vv hP.2.2;have d1:=vv ((HH.o.below a5.o).num hP);have d2:=vv (c9.o.fs (fun a e=>(c6 a e).2) hP.2.2);have d3:=vv (a2.o.fs hzb hP.2.2);obtain⟨rfl,-,-⟩:=hP;go_wp2_with fail
 refine(by_ B A1 m1 k1 d c1 _ _ _ d3.o d2.o HG.o (by omega)).mono ?_;rintro e w4 ⟨A4,k4,c4,rfl,hQ,a3,a6⟩;have b6:∀a,A4=some a->a.off=0:=fun a e=>by
  rcases a3 with hf|hf
  ·exact(hf a e).2
  ·exact hzb a (hf ▸ e)
 have d4:=vv hQ;have d5:=vv b6;obtain⟨hi,x,hx⟩:=d1.o;have a7:=hi.below a6;have d6:=(a6.cell (p:=⟨g,2,none⟩) hi.lt).trans hx;have d7:=a7.lt;have e7:=a7.fz 2;have b7:=vv a7;have d8:=vv d6;have d9:Hid (Fs [(g,0,2)] w w4):=vv (((d0.o.after a5.o).trans (Fs.of_nil a6)).drop (fun p hp _=>by simpa using hp) (fun p hp=>by simpa using hp));clear hQ b6 a3 a6 hi a7 hx;go_wp2;go_ret
 refine⟨rfl,RatAt.made b7.o ⟨x,d8.o⟩ (d4.o.den b0.o d5.o) HD.o b0.o a0.o.1 a0.o.2,fs3 ?_⟩;exact d9.o.trans (Fs.set2 b7.o _)
theorem q96(g:Nat)(b:Bool)(A B:Option Addr)(n c m d:Nat)(xs ys:List Nat)(w:World)(h:RatSh w g)(ha:Rd w A n c xs)(hb:Rd w B m d ys)(hD:0<val ys)(hza:∀a,A=some a->a.off=0)(hzb:∀a,B=some a->a.off=0)
  (hst:Std w) (hn:n<549755813888) (hm:m<549755813888) :
  Calls Tryz.prog 162 #[.pointer (some ⟨g,0,none⟩),.bool b,.slice A n c,.slice B m d] w (q2E g (sg b (val xs)) (val ys) w):=by
 rcases Nat.eq_zero_or_pos (val xs) with h0|h0
 ·exact q3v g b A B n c m d xs ys w h ha hb hD h0
 ·exact q4k g b A B n c m d xs ys w h ha hb hD h0 hza hzb hst hn hm
theorem SetFrac(g gx gy:Nat)(u:Int)(D:Nat)(w:World)(h:RatSh w g)(hx:IntAt w gx 0 u)(hy:IntAt w gy 0 (D:Int))(hD:0<D)(hst:Std w)(hn:Sz u.natAbs)(hm:Sz D):
  Calls Tryz.prog 159 #[.pointer (some ⟨g,0,none⟩),.pointer (some ⟨gx,0,none⟩),.pointer (some ⟨gy,0,none⟩)] w (q2E g u D w):=by
 have a3:=hx.lt;have a4:=hy.lt;obtain⟨A,n,c,h0,h1,hr,hz⟩:=hx.ex;obtain⟨B,m,d,k0,k1,hs,hy⟩:=hy.ex;rw[decide_eq_false (by omega)] at k0;have a7:Rd w B m d (toL D):=hs;have HA:=vv hr;have HB:=vv a7;have HH:=vv h;have b1:=vv hst;have HD:=vv hD;have HN:=vv (hr.sz hn);have HM:=vv (a7.sz hm);clear hr hz hs a7 hy h hx hn hm hst hD;have fin:∀w1 w2 A' B',Below w.heap.size w w1->Below w1.heap.size w1 w2->Rd w2 A' n n (toL u.natAbs)->Rd w2 B' m m (toL D)->(∀a,A'=some a->a.off=0)->(∀a,B'=some a->a.off=0) ->
   Calls Tryz.prog 162 #[.pointer (some ⟨g,0,none⟩),.bool (decide (u<0)),.slice A' n n,.slice B' m m] w2 (q2E g u D w):=by
  intro w1 w2 A' B' a9 b2 ha hb b3 b4;have a8:=a9.trans (b2.mono a9.size);refine(q96 g _ A' B' n n m m _ _ w2 (HH.o.below a8) ha hb (by rw[q01];exact HD.o) b3 b4 (b1.o.fs (Fs.of_nil a8)) (by have:=HN.o;omega) (by have:=HM.o;omega)).mono ?_;rintro e w' ⟨he,hR,hF⟩;rw[q01,q01,q3Z] at hR;exact⟨he,hR,hF.after a8⟩
 have Fin:=vv fin;clear fin;go_enter Tryz.func159,Tryz.ntmps159
 go_wp2_with fail
 refine q02 (fun w'=>w'.cell? ⟨gx,0,none⟩=some (.bool (decide (u<0)))/\w'.cell? ⟨gx,1,none⟩=some (.slice A n c)/\w'.cell? ⟨gy,0,none⟩=some (.bool false)/\w'.cell? ⟨gy,1,none⟩=some (.slice B m d)) 20
  (.still 0 (.still 1 (.still 2 (.still 3 (.still 4 (.still 5 (.still 6 (.still 7 (.still 8 (.still 9 (.still 10 (.still 11 (.still 12 (.still 13 (.still 15 (.still 16 (.still 17 (.still 18 (.one 14 (.one 19 .done)))))))))))))))))))) (by kernel_rfl) (by kernel_rfl) (fun _ _ d _ _ h=>by cases d<;>exact h) ⟨h0,h1,k0,k1⟩ (fun hS0=>?_)
 iterate 18
  refine q00 (v:=?_) rfl (by rfl) ?_ ?_;rotate_left
  ·intro w b8;go_simp;with_reducible rfl
  simp only[Act.put,sa,sb,sc]
 refine q03 rfl (by rfl) (fun K hK=>?_);go_simp;refine(q0I _ _ _ _ _ HA.o.drew).mono ?_;rintro e w1 ⟨rfl,hO,a1⟩;have HO:=vv (hO.rd HA.o.len.symm lr HA.o.sm);have a0:Hid (Below w.heap.size w w1):=vv ⟨a1.os,a1.tape,a1.output,a1.size,a1.block⟩;clear hO a1;go_wp2_with fail
 refine hK.out _ _ ⟨(a0.o.cell (p:=⟨gx,0,none⟩) a3).trans h0,(a0.o.cell (p:=⟨gx,1,none⟩) a3).trans h1,(a0.o.cell (p:=⟨gy,0,none⟩) a4).trans k0,(a0.o.cell (p:=⟨gy,1,none⟩) a4).trans k1⟩ (fun a2=>?_);clear hK;refine q03 rfl (by rfl) (fun K hK=>?_);go_simp;refine(q0I _ _ _ _ _ (HB.o.below a0.o rfl)).mono ?_;rintro e w2 ⟨rfl,b0,a5⟩;have b5:=vv (b0.rd HB.o.len.symm lr HB.o.sm);have b6:=vv (HO.o.below a5 rfl);have b7:=vv a5;have a6:=vn a0 a5;clear b0 a5;go_wp2_with fail
 refine hK.out _ _ ⟨(a6.o.cell (p:=⟨gx,0,none⟩) a3).trans h0,(a6.o.cell (p:=⟨gx,1,none⟩) a3).trans h1,(a6.o.cell (p:=⟨gy,0,none⟩) a4).trans k0,(a6.o.cell (p:=⟨gy,1,none⟩) a4).trans k1⟩ (fun a2=>?_);clear hK;refine q0a ?_;go_wp2_with fail
 refine(Fin.o w1 w2 _ _ a0.o b7.o b6.o b5.o (fun a e=>by cases e;rfl) (fun a e=>by cases e;rfl)).mono ?_;rintro e w3 ⟨rfl,hR,hF⟩;have HR:=vv hR;go_wp2;go_ret
 exact⟨rfl,HR.o,hF⟩
theorem SetInt64R(g:Nat)(x:Int)(w:World)(h:RatSh w g)(h1:-9223372036854775808<=x)(h2:x<=9223372036854775807):
  Calls Tryz.prog 170 #[.pointer (some ⟨g,0,none⟩),.int .i64 x] w (q2E g x 1 w):=by
 have HH:=vv h;have HN:=vv fun w=>NewInt x w h1 h2
 clear h h1 h2;go_enter Tryz.func170,Tryz.ntmps170
 go_wp2_with fail
 refine(HN.o _).mono ?_;rintro e w1 ⟨g1,rfl,a2,a0,a1⟩;have HI:=vv a0;have HB:=vv a1;clear a0 a1;go_wp2_with fail
 refine(SetInt g g1 x _ (HH.o.below HB.o) HI.o).mono ?_;rintro e w2 ⟨rfl,hR,hF⟩;have HR:=vv hR;go_wp2;go_ret
 exact⟨rfl,HR.o,hF.after HB.o⟩
theorem q6X(g:Nat)(x:Int)(D:Nat)(w:World)(h:RatSh w g)(h1:-9223372036854775808<=x)(h2:x<=9223372036854775807)(hD:0<D)(hD2:D<=9223372036854775807)(hst:Std w):
  Calls Tryz.prog 261 #[.pointer (some ⟨g,0,none⟩),.int .i64 x,.int .i64 (D:Int)] w (q2E g x D w):=by
 have HH:=vv h;have a5:=vv hst;have HN:=vv fun w=>NewInt x w h1 h2
 have a6:=vv fun w=>NewInt D w (by omega) (by omega)
 have a7:Hid (Sz x.natAbs):=vv (Sz.small (by omega));have a8:Hid (Sz D):=vv (Sz.small (by omega));clear h hst h1 h2 hD2;go_enter Tryz.func261,Tryz.ntmps261
 go_wp2_with fail
 refine(HN.o _).mono ?_;rintro e w1 ⟨g1,rfl,b1,a2,a3⟩;have HI:=vv a2;have HB:=vv a3;clear a2 a3;go_wp2_with fail
 refine(a6.o _).mono ?_;rintro e w2 ⟨g2,rfl,b2,a4,a0⟩;have a9:=vv (HI.o.below a0);have b0:=vv a4;have a1:=vn HB a0;clear a4 a0;go_wp2_with fail
 refine(SetFrac g g1 g2 x D _ (HH.o.below a1.o) a9.o b0.o hD (a5.o.fs (Fs.of_nil a1.o)) a7.o a8.o).mono ?_;rintro e w3 ⟨rfl,hR,hF⟩;have HR:=vv hR;go_wp2;go_ret
 exact⟨rfl,HR.o,hF.after a1.o⟩
theorem NewRat(x:Int)(D:Nat)(w:World)(h1:-9223372036854775808<=x)(h2:x<=9223372036854775807)(hD:0<D)(hD2:D<=9223372036854775807)(hst:Std w):
  Calls Tryz.prog 218 #[.int .i64 x,.int .i64 (D:Int)] w (q1h x D w):=by
 have a1:=vv hst;clear hst;go_enter Tryz.func218,Tryz.ntmps218
 go_wp2_with fail
 have HB:Hid (∀t,Below w.heap.size w (w.alloc (.cells #[.bool false,.slice none 0 0,.slice none 0 0] t))):=vv fun t=>(Below.refl _ w).alloc lr _
 refine(q6X _ x D _ (RatAt.zero w 119).sh h1 h2 hD hD2 (a1.o.fs (Fs.of_nil (HB.o _)))).mono ?_;rintro e w1 hP;have a0:=hP.below (HB.o _) (by simp) lr;obtain⟨rfl,hR,hF⟩:=hP;have HR:=vv hR;go_wp2;go_ret
 exact⟨_,rfl,lr,HR.o,a0⟩
theorem q9w(g gx:Nat)(p:Int)(d:Nat)(w:World)(h:RatSh w g)(hx:RatAt w gx p d):
  Calls Tryz.prog 116 #[.pointer (some ⟨g,0,none⟩),.pointer (some ⟨gx,0,none⟩)] w (q2E g p d w):=by
 have HH:=vv h;have HX:=vv hx.num;have HP:=vv hx.pos;have a6:=hx.lt;obtain⟨v,hv⟩:=h.int;have a7:=hv.lt;have HV:=vv hv;obtain⟨A,n,c,e2,hd⟩:=hx.den;obtain⟨xs,hr,a0⟩:=hd.rd;have HC:=vv a0;have HR:=vv hr;clear h hx hv hd hr a0;go_enter Tryz.func116,Tryz.ntmps116
 go_wp2_with fail
 refine(q0I _ _ _ _ _ HR.o).mono ?_;rintro e w1 ⟨rfl,hO,a2⟩;have HO:=vv (q1w.of_copy (hO.rd HR.o.len.symm lr HR.o.sm) HC.o (fun a e=>by cases e;rfl));have a1:=vv a2;clear hO a2;go_wp2_with fail
 refine q02 (fun _=>True) 6
  (.still 0 (.still 1 (.still 2 (.still 3 (.still 4 (.still 5 .done)))))) (by kernel_rfl) (by kernel_rfl) (fun _ _ d _ _ h=>by cases d<;>exact h) trivial (fun hS0=>?_)
 clear hS0
 iterate 6
  refine q00 (v:=?_) rfl (by rfl) ?_ ?_;rotate_left
  ·intro w a8;go_simp;with_reducible rfl
  simp only[Act.put,sa,sb,sc]
 refine q0a ?_;go_wp2_with fail
 refine(Set g 0 gx 0 v _ _ (HV.o.below a1.o).drew (HX.o.below a1.o).drew).mono ?_;rintro e w2 hP;have hP:=hP.f (HV.o.below a1.o).drew;have hS:RatSh w1.drew g:=(HH.o.below a1.o).like rfl;have HN:=vv (hS.num hP);have HF:=vv (hP.2.2.undrew.after a1.o);have a3:=vv (HO.o.fs hP.2.2.undrew);obtain⟨rfl,-,-⟩:=hP;obtain⟨hi,x,hx⟩:=HN.o;have a4:=hi.lt;have a9:=hi.fz 2;have HI:=vv hi;have a5:=vv hx;clear hi;go_wp2;go_ret
 exact⟨rfl,RatAt.made HI.o ⟨x,a5.o⟩ a3.o HP.o (q1m HP.o) (q2z HP.o) (q0W p d),fs3 (HF.o.trans (Fs.set2 HI.o _))⟩
theorem AbsR(g gx:Nat)(p:Int)(d:Nat)(w:World)(h:RatSh w g)(hx:RatAt w gx p d):
  Calls Tryz.prog 119 #[.pointer (some ⟨g,0,none⟩),.pointer (some ⟨gx,0,none⟩)] w (q2E g (p.natAbs:Int) d w):=by
 have HS:=vv (q9w g gx p d w h hx);clear h hx;go_enter Tryz.func119,Tryz.ntmps119
 go_wp2_with fail
 refine HS.o.mono ?_;rintro e w1 ⟨rfl,hR,hF⟩;obtain⟨A,n,c,c0,-,-,-⟩:=hR.num.ex;have a0:=hR.lt;have a1:=hR.num.fz 0;have HR:=vv (hR.resign (p.natAbs:Int) (Int.natAbs_natCast _));have HF:=vv hF;rw[decide_eq_false (p:=(p.natAbs:Int)<0) (by omega)] at HR;clear hR hF;go_wp2;go_ret
 exact⟨rfl,HR.o.1,(HF.o.trans HR.o.2).drop (fun p hp _=>by simpa using hp) (fun p hp=>by simpa using hp)⟩
theorem NegR(g gx:Nat)(p:Int)(d:Nat)(w:World)(h:RatSh w g)(hx:RatAt w gx p d):
  Calls Tryz.prog 73 #[.pointer (some ⟨g,0,none⟩),.pointer (some ⟨gx,0,none⟩)] w (q2E g (-p) d w):=by
 have HS:=vv (q9w g gx p d w h hx);have HP:=vv hx.pos;clear h hx;go_enter Tryz.func73,Tryz.ntmps73
 go_wp2_with fail
 refine HS.o.mono ?_;rintro e w1 ⟨rfl,hR,hF⟩;obtain⟨A,n,c,c0,c1,hr,hz⟩:=hR.num.ex;have a0:=hR.lt;have a1:=hR.num.fz 0;have hn:=hr.words;have a2:=hr.sm;have HR:=vv (hR.resign (-p) (Int.natAbs_neg _));have HF:=vv hF;have h1:=q2i (p:=p) HP.o;have h2:=q2F (p:=p) (d:=d);clear hR hF hr hz;by_cases hp:p<0
 ·rw[decide_eq_true (h1.2 hp)] at c0;rw[decide_eq_false (p:=-p<0) (by omega)] at HR;clear h1 h2 hp hn;go_wp2;go_ret
  exact⟨rfl,HR.o.1,(HF.o.trans HR.o.2).drop (fun p hp _=>by simpa using hp) (fun p hp=>by simpa using hp)⟩
 ·rw[decide_eq_false (fun k=>hp (h1.1 k))] at c0;by_cases hz:p=0
  ·obtain rfl:n=0:=by rw[<- hn,q07,h2.2 hz];rfl
   rw[decide_eq_false (p:=-p<0) (by omega)] at HR;clear h1 h2 hp hn hz;go_wp2;go_ret
   exact⟨rfl,HR.o.1,(HF.o.trans HR.o.2).drop (fun p hp _=>by simpa using hp) (fun p hp=>by simpa using hp)⟩
  ·have a3:decide (0<n)=true:=by
    rw[decide_eq_true_iff];rcases Nat.eq_zero_or_pos n with e|e
    ·rw[e] at hn;have:=q07.1 hn;omega
    ·exact e
   rw[decide_eq_true (p:=-p<0) (by omega)] at HR;clear h1 h2 hp hn hz;go_wp2;go_ret
   exact⟨rfl,HR.o.1,(HF.o.trans HR.o.2).drop (fun p hp _=>by simpa using hp) (fun p hp=>by simpa using hp)⟩
theorem Inv(g gx:Nat)(N d:Nat)(w:World)(h:RatSh w g)(hx:RatAt w gx (N:Int) d)(hN:0<N):
  Calls Tryz.prog 114 #[.pointer (some ⟨g,0,none⟩),.pointer (some ⟨gx,0,none⟩)] w (q2E g (d:Int) N w):=by
 have HH:=vv h;have HX:=vv hx;have HL:=vv (q3j hN hx.pos);have HP:=vv (q1m (p:=(N:Int)) hx.pos);have HN:=vv hN;have a2:=q2i (p:=(N:Int)) hx.pos;have a5:=hx.lt;obtain⟨v,hv⟩:=h.int;have b7:=hv.lt;have HV:=vv hv;obtain⟨A,n,c,c0,c1,hr,hz⟩:=hx.num.ex;rw[decide_eq_false (by omega)] at c0;have HA:=vv hr;have a3:=vv (below gx _ _ w hx);clear h hx hv hr a2 hN;go_enter Tryz.func114,Tryz.ntmps114
 go_wp2_with fail
 refine a3.o.mono ?_;rintro e w1 ⟨B,m,d1,rfl,hR,b8,a6⟩;have HR:=vv hR;have a9:=vv a6;clear hR a6;go_wp2_with fail
 refine(q0I _ _ _ _ _ HR.o).mono ?_;rintro e w2 ⟨rfl,hO,a7⟩;have HO:=vv (hO.rd HR.o.len.symm lr HR.o.sm);have a0:=vn a9 a7;have c1':=(a0.o.cell (p:=⟨gx,1,none⟩) a5).trans c1;have b0:gx<w2.heap.size:=Nat.lt_of_lt_of_le a5 a0.o.size;clear hO a7;go_wp2_with fail
 refine(q0I _ _ _ _ _ (HA.o.below a0.o rfl)).mono ?_;rintro e w3 ⟨rfl,a8,a4⟩;have b1:=vv ((a8.rd HA.o.len.symm lr HA.o.sm).den HL.o.2.2 (fun a e=>by cases e;rfl));have b2:=vv (HO.o.below a4 rfl);have a1:=vn a0 a4;clear a8 a4;go_wp2_with fail
 refine(q0r g 0 v (ld N d:Nat) _ _ m m (ld N d) _ (HV.o.below a1.o) b2.o (fun a e=>by cases e;rfl) rfl (q1V (by omega))).mono ?_;rintro e w4 hP;have hP:=hP.f (HV.o.below a1.o);have b3:=vv ((HH.o.below a1.o).num hP);have HF:=vv (hP.2.2.after a1.o);have b4:=vv (b1.o.fs hP.2.2);obtain⟨rfl,-,-⟩:=hP;obtain⟨hi,x,hx⟩:=b3.o;have b5:=hi.lt;have b9:=hi.fz 2;have HI:=vv hi;have b6:=vv hx;clear hi;go_wp2;go_ret
 exact⟨rfl,RatAt.made HI.o ⟨x,b6.o⟩ b4.o HN.o HL.o.2.2 HL.o.1 HL.o.2.1,fs3 (HF.o.trans (Fs.set2 HI.o _))⟩
theorem q3I(g:Nat)(s:Bool)(A D B C:Option Addr)(na ca nd cd nb cb nc cc a d b c:Nat)(w:World)(h:RatSh w g)(ha:Rd w A na ca (toL a))(hb:Rd w B nb cb (toL b))(hd0:0<d)(hc0:0<c)
  (h0:a=0\/0<a/\b=0) (hst:Std w) :
  Calls Tryz.prog 109 #[.pointer (some ⟨g,0,none⟩),.bool s,.slice A na ca,.slice D nd cd,.slice B nb cb,.slice C nc cc] w (q2E g (sg s (a*b)) (d*c) w):=by
 have a0:=ha.words;have a1:=hb.words;have a2:=ha.sm;have a3:=hb.sm;have HE:Hid (sg s (a*b)=0):=vv (by have:a*b=0:=(by rcases h0 with h|h<;>simp [h]);rw[this];cases s<;>rfl);have HM:=vv (Nat.mul_pos hd0 hc0);have HS:Hid (Calls Tryz.prog 162 #[.pointer (some ⟨g,0,none⟩),.bool false,.slice none 0 0,.slice (some ⟨w.heap.size,0,none⟩) 1 1] (w.alloc (.cells #[.int .u32 1] 34)) (q2E g (sg s (a*b)) (d*c) w)):=by
  have hB:Below w.heap.size w (w.alloc (.cells #[.int .u32 1] 34)):=(Below.refl _ _).alloc lr _;have hO:Own (w.alloc (.cells #[.int .u32 1] 34)) w.heap.size 34 [1]:=Own.lit _ (q0w.2 ⟨by omega,q0K⟩) (by simp [q0p]);refine vv ((q96 g false none (some ⟨w.heap.size,0,none⟩) 0 0 1 1 [] [1] _ (h.below hB) (Rd.nil _) (hO.rd rfl lr (by omega)) (by decide) (fun a e=>by cases e) (fun a e=>by cases e;rfl) (hst.fs (Fs.of_nil hB)) (by omega) (by omega)).mono ?_);rintro e w' ⟨he,hR,hF⟩;refine⟨he,?_,hF.after hB⟩;rw[HE.o];exact hR.cross HM.o (by simp [sg,val])
 clear ha hb hd0 hc0 hst h;rcases h0 with rfl|⟨ha,rfl⟩
 ·obtain rfl:na=0:=a0.symm;clear a0 a1;go_enter Tryz.func109,Tryz.ntmps109
  go_wp2_with fail
  refine HS.o.mono ?_;rintro e w1 ⟨rfl,hR,hF⟩;have HR:=vv hR;go_wp2;go_ret
  exact⟨rfl,HR.o,hF⟩
 ·obtain rfl:nb=0:=a1.symm;have t0:((na:Int)==0)=false:=by
   have:=q07 (n:=a);simp;omega
  clear a0 a1 ha;go_enter Tryz.func109,Tryz.ntmps109
  go_wp2_with fail
  refine HS.o.mono ?_;rintro e w1 ⟨rfl,hR,hF⟩;have HR:=vv hR;go_wp2;go_ret
  exact⟨rfl,HR.o,hF⟩
theorem q6g(g:Nat)(s:Bool)(A D B C:Option Addr)(na ca nd cd nb cb nc cc a d b c:Nat)(w:World)(h:RatSh w g)(ha:Rd w A na ca (toL a))(hd:Rd w D nd cd (toL d))(hb:Rd w B nb cb (toL b))(hc:Rd w C nc cc (toL c))(hd0:0<d)(hc0:0<c)
  (had:Nat.gcd a d=1) (hbc:Nat.gcd b c=1) (ha0:0<a) (hb0:0<b) (hst:Std w) (sa:Sz a) (sd:Sz d) (sb:Sz b) (sc:Sz c) :
  Calls Tryz.prog 109 #[.pointer (some ⟨g,0,none⟩),.bool s,.slice A na ca,.slice D nd cd,.slice B nb cb,.slice C nc cc] w (q2E g (sg s (a*b)) (d*c) w):=by
 have e0:=ha.words;have e1:=hb.words;have e8:=ha.sz sa;have e9:=hb.sz sb;have f0:=hc.sz sc;have f1:=hd.sz sd;have t0:((na:Int)==0)=false:=by
  have:=q07 (n:=a);simp;omega
 have t1:((nb:Int)==0)=false:=by
  have:=q07 (n:=b);simp;omega
 have c0:=vv (q88 hd0 hc0 had hbc ha0 hb0);have HG:=vv (q0B (n:=a) hc0);have b2:=vv (q0B (n:=b) hd0);have HM:=vv (Nat.mul_pos hd0 hc0);have c1:Hid (0<d/Nat.gcd b d*(c/Nat.gcd a c)):=vv (Nat.mul_pos (Nat.div_pos (Nat.le_of_dvd hd0 (Nat.gcd_dvd_right _ _)) b2.o) (Nat.div_pos (Nat.le_of_dvd hc0 (Nat.gcd_dvd_right _ _)) HG.o));have c2:=vv hst;have HH:=vv h;obtain⟨v,hv⟩:=h.int;have HV:=vv hv;have HA:=vv ha;have HB:=vv hb;have HC:=vv hc;have HD:=vv hd;clear h ha hb hc hd hd0 hc0 had hbc ha0 hb0 hst hv e0 e1 sa sb sc sd;go_enter Tryz.func109,Tryz.ntmps109
 go_wp2_with fail
 refine(q2S A C na nc ca cc a c w HA.o HC.o c2.o (by omega) (by omega)).mono ?_;rintro e w1 ⟨G1,g1,k1,rfl,c9,f2,d0⟩;have a4:=vv d0;have a1:=vv c9;clear c9 d0;go_wp2_with fail
 refine(q2S B D nb nd cb cd b d _ (HB.o.below a4.o rfl) (HD.o.below a4.o rfl) (c2.o.fs (Fs.of_nil a4.o)) (by omega) (by omega)).mono ?_;rintro e w2 ⟨G2,g2,k2,rfl,d1,f3,b3⟩;have d2:=vn a4 b3;have a1:=vv (a1.o.below b3 rfl);have a0:=vv d1;clear d1 b3;go_wp2_with fail
 refine(by_ A G1 na g1 ca k1 a _ _ (HA.o.below d2.o rfl) a1.o HG.o (by omega)).mono ?_;rintro e w3 ⟨A3,n3,c3,rfl,b4,-,a5⟩;have d3:=vn d2 a5;have a1:=vv (a1.o.below a5 rfl);have a0:=vv (a0.o.below a5 rfl);have f4:=b4.le_of HA.o (Nat.div_le_self _ _);have a6:=vv b4;clear b4 a5;go_wp2_with fail
 refine(by_ B G2 nb g2 cb k2 b _ _ (HB.o.below d3.o rfl) a0.o b2.o (by omega)).mono ?_;rintro e w4 ⟨A4,n4,c4,rfl,b5,-,a3⟩;have e2:=vn d3 a3;have a1:=vv (a1.o.below a3 rfl);have a0:=vv (a0.o.below a3 rfl);have a6:=vv (a6.o.below a3 rfl);have f5:=b5.le_of HB.o (Nat.div_le_self _ _);have d4:=vv b5;clear b5 a3;go_wp2_with fail
 refine(q1j A3 A4 n3 n4 c3 c4 _ _ _ a6.o d4.o (by omega)).mono ?_;rintro e w5 hP;obtain⟨A5,n5,c5,rfl,d5,e3,a7⟩:=hP.val2;have d6:=vn e2 a7;have a1:=vv (a1.o.below a7 rfl);have a0:=vv (a0.o.below a7 rfl);have a2:=vv d5;clear d5 a7 hP a6 d4;go_wp2_with fail
 refine(by_ D G2 nd g2 cd k2 d _ _ (HD.o.below d6.o rfl) a0.o b2.o (by omega)).mono ?_;rintro e w6 ⟨A6,n6,c6,rfl,b6,-,a8⟩;have d7:=vn d6 a8;have a1:=vv (a1.o.below a8 rfl);have a2:=vv (a2.o.below a8 rfl);have f6:=b6.le_of HD.o (Nat.div_le_self _ _);have a9:=vv b6;clear b6 a8;go_wp2_with fail
 refine(by_ C G1 nc g1 cc k1 c _ _ (HC.o.below d7.o rfl) a1.o HG.o (by omega)).mono ?_;rintro e w7 ⟨A7,n7,c7,rfl,b7,-,b0⟩;have e4:=vn d7 b0;have a2:=vv (a2.o.below b0 rfl);have a9:=vv (a9.o.below b0 rfl);have f7:=b7.le_of HC.o (Nat.div_le_self _ _);have d8:=vv b7;clear b7 b0;go_wp2_with fail
 refine(q1j A6 A7 n6 n7 c6 c7 _ _ _ a9.o d8.o (by omega)).mono ?_;rintro e w8 hP;obtain⟨A8,n8,c8,rfl,d9,e5,b8⟩:=hP.val2;have b1:=vn e4 b8;have a2:=vv (a2.o.below b8 rfl);have b9:=vv (d9.den c1.o (fun a e=>(e5 a e).2));clear d9 b8 hP a9 d8;go_wp2_with fail
 refine(q0r g 0 v (sg s (a/Nat.gcd a c*(b/Nat.gcd b d))) _ A5 n5 c5 _ _ (HV.o.below b1.o) a2.o (fun a e=>(e3 a e).2) (q0R _ _) (q1a _ _)).mono ?_;rintro e w9 hP;have hP:=hP.f (HV.o.below b1.o);have HN:=vv ((HH.o.below b1.o).num hP);have HF:=vv (hP.2.2.after b1.o);have b9:=vv (b9.o.fs hP.2.2);obtain⟨rfl,-,-⟩:=hP;obtain⟨hi,x,hx⟩:=HN.o;have e6:=hi.lt;have f8:=hi.fz 2;have HI:=vv hi;have e7:=vv hx;clear hi;go_wp2;go_ret
 refine⟨rfl,RatAt.made HI.o ⟨x,e7.o⟩ b9.o HM.o c1.o (by rw[q0R];exact c0.o.1) ?_,fs3 (HF.o.trans (Fs.set2 HI.o _))⟩;have:=congrArg (Nat.cast:Nat->Int) c0.o.2;rw[Int.natCast_mul,Int.natCast_mul (a*b)] at this;cases s
 ·exact this
 ·show -((a/Nat.gcd a c*(b/Nat.gcd b d):Nat):Int)*_ = -((a*b:Nat):Int)*_;rw[Int.neg_mul,Int.neg_mul,this]
theorem q3D(g:Nat)(s:Bool)(A D B C:Option Addr)(na ca nd cd nb cb nc cc a d b c:Nat)(w:World)(h:RatSh w g)(ha:Rd w A na ca (toL a))(hd:Rd w D nd cd (toL d))(hb:Rd w B nb cb (toL b))(hc:Rd w C nc cc (toL c))(hd0:0<d)(hc0:0<c)
  (had:Nat.gcd a d=1) (hbc:Nat.gcd b c=1) (hst:Std w) (sa:Sz a) (sd:Sz d) (sb:Sz b) (sc:Sz c) :
  Calls Tryz.prog 109 #[.pointer (some ⟨g,0,none⟩),.bool s,.slice A na ca,.slice D nd cd,.slice B nb cb,.slice C nc cc] w (q2E g (sg s (a*b)) (d*c) w):=by
 rcases Nat.eq_zero_or_pos a with h0|h0
 ·exact q3I g s A D B C na ca nd cd nb cb nc cc a d b c w h ha hb hd0 hc0 (.inl h0) hst
 rcases Nat.eq_zero_or_pos b with h1|h1
 ·exact q3I g s A D B C na ca nd cd nb cb nc cc a d b c w h ha hb hd0 hc0 (.inr ⟨h0,h1⟩) hst
 exact q6g g s A D B C na ca nd cd nb cb nc cc a d b c w h ha hd hb hc hd0 hc0 had hbc h0 h1 hst sa sd sb sc
theorem MulR(g gx gy:Nat)(p q:Int)(d e':Nat)(w:World)(h:RatSh w g)(hx:RatAt w gx p d)(hy:RatAt w gy q e')(hst:Std w)(sp:Sz p.natAbs)(sd:Sz d)(sq:Sz q.natAbs)(se:Sz e'):
  Calls Tryz.prog 68 #[.pointer (some ⟨g,0,none⟩),.pointer (some ⟨gx,0,none⟩),.pointer (some ⟨gy,0,none⟩)] w (q2E g (p*q) (d*e') w):=by
 have a5:=hx.lt;have a6:=hy.lt;have HX:=vv hx;have HY:=vv hy;have HH:=vv h;have b1:=vv hst;have HP:=vv sp;have HQ:=vv sq;have HD:=vv sd;have HE:=vv se;obtain⟨A,n,c,h0,h1,hr,hz⟩:=hx.num.ex;obtain⟨B,m,c',k0,k1,hs,b2⟩:=hy.num.ex;have HA:=vv hr;have HB:=vv hs;clear h hx hy hst sp sd sq se hr hs hz b2;have fin:∀(s:Bool) w2 A' n' c2 B' m' c3,(decide (lp p d<0) != decide (lp q e'<0))=s->Below w.heap.size w w2->Rd w2 A' n' c2 (toL (ld p d))->Rd w2 B' m' c3 (toL (ld q e')) ->
   Calls Tryz.prog 109 #[.pointer (some ⟨g,0,none⟩),.bool s,.slice A n c,.slice A' n' c2,.slice B m c',.slice B' m' c3] w2 (q2E g (p*q) (d*e') w):=by
  intro s w2 A' n' c2 B' m' c3 hs a2 ha hb;refine(q3D g s A A' B B' n c n' c2 m c' m' c3 _ _ _ _ w2 (HH.o.below a2) (HA.o.below a2 rfl) ha (HB.o.below a2 rfl) hb (q1m HX.o.pos) (q1m HY.o.pos) (q2z HX.o.pos) (q2z HY.o.pos) (b1.o.fs (Fs.of_nil a2)) (HP.o.mono (q3F _ _)) (HD.o.mono (q3G _ _)) (HQ.o.mono (q3F _ _)) (HE.o.mono (q3G _ _))).mono ?_;rintro e w' ⟨he,hR,hF⟩;refine⟨he,hR.cross (Nat.mul_pos HX.o.pos HY.o.pos) ?_,hF.after a2⟩;have e0:sg s ((lp p d).natAbs*(lp q e').natAbs)=lp p d*lp q e':=by
   have e1:=q3Z (lp p d*lp q e');rw[q4r,hs,Int.natAbs_mul] at e1
   conv=>rhs;rw[<- e1]
   by_cases hz:0<(lp p d).natAbs*(lp q e').natAbs
   ·rw[decide_eq_true hz,Bool.and_true]
   ·have:(lp p d).natAbs*(lp q e').natAbs=0:=by omega
    rw[this];cases s<;>rfl
  rw[e0];have c1:=q0W p d;have c2:=q0W q e';simp only[Int.natCast_mul]
  calc lp p d*lp q e'*(↑d*↑e')=(lp p d*d)*(lp q e'*e'):=by grind
   _=(p*ld p d)*(q*ld q e'):=by rw[c1,c2]
   _=_:=by grind
 have Fin:=vv fin;clear fin;go_enter Tryz.func68,Tryz.ntmps68
 go_wp2_with fail
 refine q02 (fun w'=>w'.cell? ⟨gx,0,none⟩=some (.bool (decide (lp p d<0)))/\w'.cell? ⟨gx,1,none⟩=some (.slice A n c)/\w'.cell? ⟨gy,0,none⟩=some (.bool (decide (lp q e'<0)))/\w'.cell? ⟨gy,1,none⟩=some (.slice B m c')) 26
  (.still 0 (.still 1 (.still 2 (.still 3 (.still 4 (.still 5 (.still 6 (.still 7 (.still 8 (.still 9 (.still 10 (.still 11 (.still 12 (.still 13 (.still 14 (.still 15 (.still 16 (.still 17 (.still 19 (.still 20 (.still 21 (.still 22 (.still 23 (.still 24 (.one 18 (.one 25 .done)))))))))))))))))))))))))) (by kernel_rfl) (by kernel_rfl) (fun _ _ d _ _ h=>by cases d<;>exact h) ⟨h0,h1,k0,k1⟩ (fun hS0=>?_)
 iterate 24
  refine q00 (v:=?_) rfl (by rfl) ?_ ?_;rotate_left
  ·intro w b4;go_simp;with_reducible rfl
  simp only[Act.put,sa,sb,sc]
 refine q03 rfl (by rfl) (fun K hK=>?_);go_simp;refine(below gx _ _ _ HX.o.drew).mono ?_;rintro e w1 ⟨A1,n1,c1,rfl,a9,b5,a0⟩;have a7:=vv a9;have a1:Hid (Below w.heap.size w w1):=vv ⟨a0.os,a0.tape,a0.output,a0.size,a0.block⟩;clear a9 a0;go_wp2_with fail
 refine hK.out _ _ ⟨(a1.o.cell (p:=⟨gx,0,none⟩) a5).trans h0,(a1.o.cell (p:=⟨gx,1,none⟩) a5).trans h1,(a1.o.cell (p:=⟨gy,0,none⟩) a6).trans k0,(a1.o.cell (p:=⟨gy,1,none⟩) a6).trans k1⟩ (fun a3=>?_);clear hK;refine q03 rfl (by rfl) (fun K hK=>?_);go_simp;refine(below gy _ _ _ (HY.o.below a1.o)).mono ?_;rintro e w2 ⟨A2,n2,c2,rfl,b0,b6,a8⟩;have b3:=vv b0;have a7:=vv (a7.o.below a8 rfl);have a4:=vn a1 a8;clear b0 a8;go_wp2_with fail
 refine hK.out _ _ ⟨(a4.o.cell (p:=⟨gx,0,none⟩) a5).trans h0,(a4.o.cell (p:=⟨gx,1,none⟩) a5).trans h1,(a4.o.cell (p:=⟨gy,0,none⟩) a6).trans k0,(a4.o.cell (p:=⟨gy,1,none⟩) a6).trans k1⟩ (fun a3=>?_);clear hK;refine q0a ?_;go_wp2_with fail
 refine(Fin.o _ w2 A1 n1 c1 A2 n2 c2 rfl a4.o a7.o b3.o).mono ?_;rintro e w3 ⟨rfl,hR,hF⟩;have HR:=vv hR;go_wp2;go_ret
 exact⟨rfl,HR.o,hF⟩
theorem QuoR(g gx gy:Nat)(p:Int)(N d e':Nat)(w:World)(h:RatSh w g)(hx:RatAt w gx p d)(hy:RatAt w gy (N:Int) e')(hN:0<N)(hst:Std w)(sp:Sz p.natAbs)(sd:Sz d)(sq:Sz N)(se:Sz e'):
  Calls Tryz.prog 157 #[.pointer (some ⟨g,0,none⟩),.pointer (some ⟨gx,0,none⟩),.pointer (some ⟨gy,0,none⟩)] w (q2E g (p*e') (d*N) w):=by
 have a5:=hx.lt;have a6:=hy.lt;have HX:=vv hx;have HY:=vv hy;have HH:=vv h;have b2:=vv hst;have HP:=vv sp;have HQ:=vv sq;have HD:=vv sd;have HE:=vv se;have HN:=vv hN;have HI:=vv (q3j hN hy.pos);obtain⟨A,n,c,h0,h1,hr,hz⟩:=hx.num.ex;obtain⟨B,m,c',k0,k1,hs,b3⟩:=hy.num.ex;have a7:=q2i (p:=(N:Int)) hy.pos;rw[decide_eq_false (by omega)] at k0;have HA:=vv hr;have HB:=vv hs;clear h hx hy hst sp sd sq se hr hs hz b3 a7 hN;have fin:∀w2 A' n' c2 B' m' c3,Below w.heap.size w w2->Rd w2 A' n' c2 (toL (ld p d))->Rd w2 B' m' c3 (toL (ld N e')) ->
   Calls Tryz.prog 109 #[.pointer (some ⟨g,0,none⟩),.bool (decide (lp p d<0)),.slice A n c,.slice A' n' c2,.slice B' m' c3,.slice B m c'] w2 (q2E g (p*e') (d*N) w):=by
  intro w2 A' n' c2 B' m' c3 a2 ha hb;refine(q3D g _ A A' B' B n c n' c2 m' c3 m c' _ _ _ _ w2 (HH.o.below a2) (HA.o.below a2 rfl) ha hb (HB.o.below a2 rfl) (q1m HX.o.pos) HI.o.2.2 (q2z HX.o.pos) HI.o.1 (b2.o.fs (Fs.of_nil a2)) (HP.o.mono (q3F _ _)) (HD.o.mono (q3G _ _)) (HE.o.mono (q3G _ _)) (HQ.o.mono (q3F _ _))).mono ?_;rintro e w' ⟨he,hR,hF⟩;refine⟨he,hR.cross (Nat.mul_pos HX.o.pos HN.o) ?_,hF.after a2⟩;have e0:sg (decide (lp p d<0)) ((lp p d).natAbs*ld N e')=lp p d*(ld N e':Nat):=by
   have e1:=q3Z (lp p d)
   conv=>rhs;rw[<- e1]
   cases decide (lp p d<0)
   ·show(((lp p d).natAbs*ld N e':Nat):Int)=((lp p d).natAbs:Int)*_;rw[Int.natCast_mul]
   ·show -(((lp p d).natAbs*ld N e':Nat):Int) = -((lp p d).natAbs:Int)*_;rw[Int.natCast_mul,Int.neg_mul]
  rw[e0];have c1:=q0W p d;have c2:=HI.o.2.1;simp only[Int.natCast_mul]
  calc lp p d*↑(ld (↑N) e')*(↑d*↑N)=(lp p d*d)*(↑(ld (↑N) e')*↑N):=by grind
   _=(p*ld p d)*(↑e'*↑(lp (↑N) e').natAbs):=by rw[c1,c2]
   _=_:=by grind
 have Fin:=vv fin;clear fin;go_enter Tryz.func157,Tryz.ntmps157
 go_wp2_with fail
 refine q02 (fun w'=>w'.cell? ⟨gx,0,none⟩=some (.bool (decide (lp p d<0)))/\w'.cell? ⟨gx,1,none⟩=some (.slice A n c)/\w'.cell? ⟨gy,0,none⟩=some (.bool false)/\w'.cell? ⟨gy,1,none⟩=some (.slice B m c')) 26
  (.still 0 (.still 1 (.still 2 (.still 3 (.still 4 (.still 5 (.still 6 (.still 7 (.still 8 (.still 9 (.still 10 (.still 11 (.still 12 (.still 13 (.still 14 (.still 15 (.still 16 (.still 17 (.still 19 (.still 21 (.still 22 (.still 23 (.still 24 (.still 25 (.one 18 (.one 20 .done)))))))))))))))))))))))))) (by kernel_rfl) (by kernel_rfl) (fun _ _ d _ _ h=>by cases d<;>exact h) ⟨h0,h1,k0,k1⟩ (fun hS0=>?_)
 iterate 24
  refine q00 (v:=?_) rfl (by rfl) ?_ ?_;rotate_left
  ·intro w b5;go_simp;with_reducible rfl
  simp only[Act.put,sa,sb,sc]
 refine q03 rfl (by rfl) (fun K hK=>?_);go_simp;refine(below gx _ _ _ HX.o.drew).mono ?_;rintro e w1 ⟨A1,n1,c1,rfl,b0,b6,a0⟩;have a8:=vv b0;have a1:Hid (Below w.heap.size w w1):=vv ⟨a0.os,a0.tape,a0.output,a0.size,a0.block⟩;clear b0 a0;go_wp2_with fail
 refine hK.out _ _ ⟨(a1.o.cell (p:=⟨gx,0,none⟩) a5).trans h0,(a1.o.cell (p:=⟨gx,1,none⟩) a5).trans h1,(a1.o.cell (p:=⟨gy,0,none⟩) a6).trans k0,(a1.o.cell (p:=⟨gy,1,none⟩) a6).trans k1⟩ (fun a3=>?_);clear hK;refine q03 rfl (by rfl) (fun K hK=>?_);go_simp;refine(below gy _ _ _ (HY.o.below a1.o)).mono ?_;rintro e w2 ⟨A2,n2,c2,rfl,b1,b7,a9⟩;have b4:=vv b1;have a8:=vv (a8.o.below a9 rfl);have a4:=vn a1 a9;clear b1 a9;go_wp2_with fail
 refine hK.out _ _ ⟨(a4.o.cell (p:=⟨gx,0,none⟩) a5).trans h0,(a4.o.cell (p:=⟨gx,1,none⟩) a5).trans h1,(a4.o.cell (p:=⟨gy,0,none⟩) a6).trans k0,(a4.o.cell (p:=⟨gy,1,none⟩) a6).trans k1⟩ (fun a3=>?_);clear hK;refine q0a ?_;go_wp2_with fail
 refine(Fin.o w2 A1 n1 c1 A2 n2 c2 a4.o a8.o b4.o).mono ?_;rintro e w3 ⟨rfl,hR,hF⟩;have HR:=vv hR;go_wp2;go_ret
 exact⟨rfl,HR.o,hF⟩
theorem q9C(g gx gy:Nat)(m n:Int)(P Q:Nat)(w:World)(h:RatSh w g)(hx:RatAt w gx m P)(hy:RatAt w gy n Q)(hm:Nat.gcd m.natAbs P=1)(hn:Nat.gcd n.natAbs Q=1)(hst:Std w)(sp:Sm m.natAbs)(sd:Sm P)(sq:Sm n.natAbs)(se:Sm Q):
  Calls Tryz.prog 260 #[.pointer (some ⟨g,0,none⟩),.pointer (some ⟨gx,0,none⟩),.pointer (some ⟨gy,0,none⟩),.bool true] w (q2E g (m*Q-n*P) (P*Q) w):=by
 have d3:=hx.lt;have c0:=hy.lt;have HX:=vv hx;have HY:=vv hy;have HH:=vv h;have g3:=vv hst;have HM:=vv hm;have HN:=vv hn;obtain⟨lx1,lx2⟩:=q2Z hx.pos hm;obtain⟨ly1,ly2⟩:=q2Z hy.pos hn;have e5:=vv hx.pos;have f1:=vv hy.pos;have d2:=vv (q0B (n:=P) hy.pos);have HL:=vv fun s hs=>q7F (m:=m) (n:=-n) (s:=s) hx.pos hy.pos hm (by rw[Int.natAbs_neg];exact hn) hs
 have g4:=hx.num;have g5:=hy.num;rw[lx1] at g4;rw[ly1] at g5;obtain⟨A,na,ca,h0,h1,hr,hz⟩:=g4.ex;obtain⟨B,nb,cb,k0,k1,hs,m1⟩:=g5.ex;have HA:=vv hr;have HB:=vv hs;have o7:=hr.sz sp.sz;have o8:=hs.sz sq.sz;have c6:=vv (below gx m P w hx);have j9:=vv fun w' (hb:Below w.heap.size w w')=>below gy n Q w' (hy.below hb)
 rw[lx2] at c6;rw[ly2] at j9;have m2:=vv sd.sz;have m3:=vv se.sz;have e4:Hid (Sz (m*(Q/Nat.gcd P Q:Nat)).natAbs/\Sz (-n*(P/Nat.gcd P Q:Nat)).natAbs/\Sz (m*(Q/Nat.gcd P Q:Nat) + -n*(P/Nat.gcd P Q:Nat)).natAbs):=by
  have a1:(m*(Q/Nat.gcd P Q:Nat)).natAbs<=m.natAbs*Q:=by rw[Int.natAbs_mul,Int.natAbs_natCast];exact Nat.mul_le_mul_left _ (Nat.div_le_self _ _)
  have a2:(-n*(P/Nat.gcd P Q:Nat)).natAbs<=n.natAbs*P:=by rw[Int.natAbs_mul,Int.natAbs_natCast,Int.natAbs_neg];exact Nat.mul_le_mul_left _ (Nat.div_le_self _ _)
  refine vv ⟨(sp.mul se).mono a1,(sq.mul sd).mono a2,?_⟩;have a3:=Int.natAbs_add_le (m*(Q/Nat.gcd P Q:Nat)) (-n*(P/Nat.gcd P Q:Nat));refine Sz.mono (b:=m.natAbs*Q+n.natAbs*P) ?_ (by omega);have b1:=q0z m.natAbs Q;have b2:=q0z n.natAbs P;have b3:=q4O (m.natAbs*Q) (n.natAbs*P);unfold Sm at sp sd sq se;unfold Sz;omega
 obtain⟨v,hv⟩:=h.int;have HV:=vv hv;clear h hx hy hst sp sd sq se hr hs hz m1 hm hn lx1 lx2 ly1 ly2 g4 g5 hv;go_enter Tryz.func260,Tryz.ntmps260
 go_wp2_with fail
 refine c6.o.mono ?_;rintro e w1 ⟨A1,n1,c1,rfl,g6,k2,k3⟩;have o9:=g6.sz m2.o;have a4:=vv g6;have k4:=vv k3;have f2:=vv k2;clear g6 k3 k2;go_wp2_with fail
 refine(j9.o _ k4.o).mono ?_;rintro e w2 ⟨A2,n2,c2,rfl,g7,k5,g8⟩;have p0:=g7.sz m3.o;have a5:=vv g7;have a4:=vv (a4.o.below g8 rfl);have k6:=vn k4 g8;have f3:=vv k5;clear g7 g8 k5;go_wp2_with fail
 refine(q2S A1 A2 n1 n2 c1 c2 P Q w2 a4.o a5.o (g3.o.fs (Fs.of_nil k6.o)) (by omega) (by omega)).mono ?_;rintro e w3 ⟨G,n3,c3,rfl,hG,k7,f4⟩;have p1:=hG.le_of a4.o (Nat.gcd_le_left _ e5.o);have f5:Hid (∀a,G=some a->a.off=0):=vv fun a e=>(k7 a e).2
 have HG:=vv hG;have a4:=vv (a4.o.below f4 rfl);have a5:=vv (a5.o.below f4 rfl);have k8:=vn k6 f4;have m4:=k8.o.size;clear hG f4 k7;obtain⟨o,ho⟩:∃o:Obj,o=.cells #[.bool false,.slice none 0 0] 117:=⟨_,rfl⟩;have g9:Below w3.heap.size w3 (w3.alloc o):=(Below.refl _ w3).alloc lr _;have i0:Below (w3.alloc o).heap.size (w3.alloc o) ((w3.alloc o).alloc o):=(Below.refl _ (w3.alloc o)).alloc lr _;have k9:(w3.alloc o).heap.size=w3.heap.size+1:=by simp
 have l0:IntAt (w3.alloc o) w3.heap.size 0 0:=by rw[ho];exact IntAt.zero w3 _
 have l1:IntAt ((w3.alloc o).alloc o) (w3.heap.size+1) 0 0:=by rw[<- k9,ho];exact IntAt.zero _ _
 obtain⟨wx,e6⟩:=yx ((w3.alloc o).alloc o);have b9:Below w3.heap.size w3 wx:=by rw[e6];exact g9.trans (i0.mono g9.size)
 have a7:=vv (l0.below i0);have b6:=vv l1;rw[<- e6] at a7 b6;have a4:=vv (a4.o.below b9 rfl);have a5:=vv (a5.o.below b9 rfl);have HG:=vv (HG.o.below b9 rfl);have c6:=vn k8 b9;have l2:wx.heap.size=w3.heap.size+1+1:=by rw[e6];simp
 have m5:=vv e6;have HO:=vv ho;have p2:=vv l2;have a0:=(c6.o.cell (p:=⟨gx,0,none⟩) d3).trans h0;have a1:=(c6.o.cell (p:=⟨gx,1,none⟩) d3).trans h1;have b0:=(c6.o.cell (p:=⟨gy,0,none⟩) c0).trans k0;have b1:=(c6.o.cell (p:=⟨gy,1,none⟩) c0).trans k1;have m6:gx<wx.heap.size:=Nat.lt_of_lt_of_le d3 c6.o.size;have i1:gy<wx.heap.size:=Nat.lt_of_lt_of_le c0 c6.o.size;clear g9 i0 k9 l0 l1 b9 e6 ho l2;go_wp2_with fail
 rw[<- HO.o,<- m5.o];refine q02 (fun w'=>w'.cell? ⟨gx,0,none⟩=some (.bool (decide (m<0)))/\w'.cell? ⟨gx,1,none⟩=some (.slice A na ca)) 15
  (.still 0 (.still 1 (.still 2 (.still 3 (.still 4 (.still 5 (.still 6 (.still 7 (.still 8 (.still 9 (.still 10 (.still 11 (.still 12 (.one 13 (.one 14 .done))))))))))))))) (by kernel_rfl) (by kernel_rfl) (fun _ _ d _ _ h=>by cases d<;>exact h) ⟨a0,a1⟩ (fun hS0=>?_)
 iterate 13
  refine q00 (v:=?_) rfl (by rfl) ?_ ?_;rotate_left
  ·intro w l3;go_simp;with_reducible rfl
  simp only[Act.put,sa,sb,sc]
 refine q03 rfl (by rfl) (fun K hK=>?_);go_simp;refine(by_ A2 G n2 n3 c2 c3 Q _ _ a5.o.drew HG.o.drew d2.o (by omega)).mono ?_;rintro e w4 ⟨A4,n4,c4,rfl,i2,-,b7⟩;have b7:Below wx.heap.size wx w4:=⟨b7.os,b7.tape,b7.output,b7.size,b7.block⟩;have p3:=i2.le_of a5.o (Nat.div_le_self _ _);have m7:=vv i2;have a4:=vv (a4.o.below b7 rfl);have a5:=vv (a5.o.below b7 rfl);have HG:=vv (HG.o.below b7 rfl);have a7:=vv (a7.o.below b7);have b6:=vv (b6.o.below b7);have f6:=vn c6 b7;have a0:=(f6.o.cell (p:=⟨gx,0,none⟩) d3).trans h0;have a1:=(f6.o.cell (p:=⟨gx,1,none⟩) d3).trans h1;clear i2 b7;go_wp2_with fail
 refine hK.out _ _ ⟨a0,a1⟩ (fun b4=>?_);clear hK;refine q03 rfl (by rfl) (fun K hK=>?_);go_simp;refine(q1j A A4 na n4 ca c4 _ _ _ (HA.o.below f6.o rfl) m7.o (by omega)).mono ?_;rintro e w5 hP;obtain⟨A5,n5,c5,rfl,l4,m8,d4⟩:=hP.val2;have m9:=vv l4;have a4:=vv (a4.o.below d4 rfl);have a5:=vv (a5.o.below d4 rfl);have HG:=vv (HG.o.below d4 rfl);have a7:=vv (a7.o.below d4);have b6:=vv (b6.o.below d4);have f7:=vn f6 d4;have a0:=(f7.o.cell (p:=⟨gx,0,none⟩) d3).trans h0;have a1:=(f7.o.cell (p:=⟨gx,1,none⟩) d3).trans h1;clear l4 d4 hP;go_wp2_with fail
 refine hK.out _ _ ⟨a0,a1⟩ (fun b4=>?_);clear hK;refine q0a ?_;go_wp2_with fail
 refine(q0r _ 0 0 (m*(Q/Nat.gcd P Q:Nat)) _ A5 n5 c5 _ _ a7.o m9.o (fun a e=>(m8 a e).2) (by rw[Int.natAbs_mul,Int.natAbs_natCast]) (by rw[q4r,Int.natAbs_natCast,decide_eq_false (p:=((Q/Nat.gcd P Q:Nat):Int)<0) (Int.not_lt.2 (Int.natCast_nonneg _))];cases decide (m<0)<;>rfl)).mono ?_;rintro e w6 hP;have hP:=hP.f a7.o;have a7:=vv hP.2.1;have b6:=vv (b6.o.fs1 hP.2.2 (by omega));have a4:=vv (a4.o.fs f2.o hP.2.2);have a5:=vv (a5.o.fs f3.o hP.2.2);have HG:=vv (HG.o.fs f5.o hP.2.2);have f8:=vv (hP.below f7.o f7.o.size m4);obtain⟨rfl,-,-⟩:=hP;have b0:=(f8.o.cell (p:=⟨gy,0,none⟩) c0).trans k0;have b1:=(f8.o.cell (p:=⟨gy,1,none⟩) c0).trans k1;have i1:gy<w6.heap.size:=Nat.lt_of_lt_of_le c0 f8.o.size;go_wp2_with fail
 refine q02 (fun w'=>w'.cell? ⟨gy,0,none⟩=some (.bool (decide (n<0)))/\w'.cell? ⟨gy,1,none⟩=some (.slice B nb cb)) 17
  (.still 0 (.still 1 (.still 2 (.still 3 (.still 4 (.still 5 (.still 6 (.still 7 (.still 8 (.still 9 (.still 10 (.still 11 (.still 12 (.still 13 (.still 14 (.one 15 (.one 16 .done))))))))))))))))) (by kernel_rfl) (by kernel_rfl) (fun _ _ d _ _ h=>by cases d<;>exact h) ⟨b0,b1⟩ (fun hS0=>?_)
 iterate 15
  refine q00 (v:=?_) rfl (by rfl) ?_ ?_;rotate_left
  ·intro w l3;go_simp;with_reducible rfl
  simp only[Act.put,sa,sb,sc]
 refine q03 rfl (by rfl) (fun K hK=>?_);go_simp;refine(by_ A1 G n1 n3 c1 c3 P _ _ a4.o.drew HG.o.drew d2.o (by omega)).mono ?_;rintro e w7 ⟨A7,n7,c7,rfl,i3,-,b8⟩;have b8:Below w6.heap.size w6 w7:=⟨b8.os,b8.tape,b8.output,b8.size,b8.block⟩;have p4:=i3.le_of a4.o (Nat.div_le_self _ _);have n0:=vv i3;have a4:=vv (a4.o.below b8 rfl);have a5:=vv (a5.o.below b8 rfl);have HG:=vv (HG.o.below b8 rfl);have a7:=vv (a7.o.below b8);have b6:=vv (b6.o.below b8);have f9:=vn f8 b8;have b0:=(f9.o.cell (p:=⟨gy,0,none⟩) c0).trans k0;have b1:=(f9.o.cell (p:=⟨gy,1,none⟩) c0).trans k1;clear i3 b8;go_wp2_with fail
 refine hK.out _ _ ⟨b0,b1⟩ (fun b4=>?_);clear hK;refine q03 rfl (by rfl) (fun K hK=>?_);go_simp;refine(q1j B A7 nb n7 cb c7 _ _ _ (HB.o.below f9.o rfl) n0.o (by omega)).mono ?_;rintro e w8 hP;obtain⟨A8,n8,c8,rfl,l5,n6,d5⟩:=hP.val2;have n9:=vv l5;have a4:=vv (a4.o.below d5 rfl);have a5:=vv (a5.o.below d5 rfl);have HG:=vv (HG.o.below d5 rfl);have a7:=vv (a7.o.below d5);have b6:=vv (b6.o.below d5);have g0:=vn f9 d5;have b0:=(g0.o.cell (p:=⟨gy,0,none⟩) c0).trans k0;have b1:=(g0.o.cell (p:=⟨gy,1,none⟩) c0).trans k1;clear l5 d5 hP;go_wp2_with fail
 refine hK.out _ _ ⟨b0,b1⟩ (fun b4=>?_);clear hK;refine q0a ?_;go_wp2_with fail
 refine(q0r _ 0 0 (-n*(P/Nat.gcd P Q:Nat)) _ A8 n8 c8 _ _ b6.o n9.o (fun a e=>(n6 a e).2) (by rw[Int.natAbs_mul,Int.natAbs_natCast,Int.natAbs_neg]) ?_).mono ?_
 ·rw[Int.neg_mul,q6l,q4r,Int.natAbs_mul,Int.natAbs_natCast,decide_eq_false (p:=((P/Nat.gcd P Q:Nat):Int)<0) (Int.not_lt.2 (Int.natCast_nonneg _))];cases decide (n<0)<;>cases decide (0<n.natAbs*(P/Nat.gcd P Q))<;>rfl
 rintro e w9 hP;have hP:=hP.f b6.o;have b6:=vv hP.2.1;have a7:=vv (a7.o.fs1 hP.2.2 (by omega));have a4:=vv (a4.o.fs f2.o hP.2.2);have a5:=vv (a5.o.fs f3.o hP.2.2);have HG:=vv (HG.o.fs f5.o hP.2.2);have l6:=vv (hP.below g0.o g0.o.size (by omega));obtain⟨rfl,-,-⟩:=hP;clear a0 a1 b0 b1;go_wp2_with fail
 refine(Add _ 0 _ 0 _ 0 _ _ _ _ a7.o a7.o b6.o e4.o.1 e4.o.2.1).mono ?_;rintro e w10 hP;have hP:=hP.f a7.o;have a7:=vv hP.2.1;have a4:=vv (a4.o.fs f2.o hP.2.2);have a5:=vv (a5.o.fs f3.o hP.2.2);have HG:=vv (HG.o.fs f5.o hP.2.2);have d6:=vv (hP.below l6.o l6.o.size (by omega));obtain⟨rfl,-,-⟩:=hP;obtain⟨s,hs⟩:=yx (m*(Q/Nat.gcd P Q:Nat) + -n*(P/Nat.gcd P Q:Nat));have e4:=vv e4.o.2.2;have HL:=vv (HL.o s hs);rw[<- hs] at a7 e4;have HS:=vv hs;have a8:=a7.o.lt;have e7:=a7.o;obtain⟨AS,ns,cs,s0,s1,g1,l7⟩:=e7.ex;have i4:=g1.words;have p5:=g1.sz e4.o;have g2:=vv g1;have p6:=vv l7;clear hs g1 l7 e7;rcases Nat.eq_zero_or_pos ns with hz|o0
 ·subst hz;have l8:s=0:=by have:=q07.1 i4;omega
  have HF:Hid (m*Q-n*P=0):=by
   refine vv ?_;have e1:=HL.o.2;rw[l8] at e1;have hp:(0:Int)<(P/Nat.gcd P Q*(Q/Nat.gcd (Int.natAbs 0) (Nat.gcd P Q)):Nat):=by
    have:0<P/Nat.gcd P Q*(Q/Nat.gcd (Int.natAbs 0) (Nat.gcd P Q)):=Nat.mul_pos (Nat.div_pos (Nat.le_of_dvd e5.o (Nat.gcd_dvd_left _ _)) d2.o) (by rw[Int.natAbs_zero,Nat.gcd_zero_left];exact Nat.div_pos (Nat.le_of_dvd f1.o (Nat.gcd_dvd_right _ _)) d2.o);omega
   simp [sg] at e1
   have:=Int.mul_eq_zero.1 e1.symm;rcases this with h|h
   ·rw[Int.sub_eq_add_neg,<- Int.neg_mul];exact h
   ·have h':((P/Nat.gcd P Q*(Q/Nat.gcd (Int.natAbs 0) (Nat.gcd P Q)):Nat):Int)=0:=by
     rw[Int.natAbs_zero,Nat.gcd_zero_left]
     exact_mod_cast h
    omega
  clear l8 i4;have hB:Below w10.heap.size w10 (w10.alloc (.cells #[.int .u32 1] 34)):=(Below.refl _ _).alloc lr _;have hO:Own (w10.alloc (.cells #[.int .u32 1] 34)) w10.heap.size 34 [1]:=Own.lit _ (q0w.2 ⟨by omega,q0K⟩) (by simp [q0p]);have i5:=vn d6 hB;have HO:=vv hO;clear hB hO;go_wp2_with fail
  refine(q96 g false none (some ⟨w10.heap.size,0,none⟩) 0 0 1 1 [] [1] _ (HH.o.below i5.o) (Rd.nil _) (HO.o.rd rfl lr (by omega)) (by decide) (fun a e=>by cases e) (fun a e=>by cases e;rfl) (g3.o.fs (Fs.of_nil i5.o)) (by omega) (by omega)).mono ?_;rintro e w11 ⟨rfl,hR,hF⟩;have HR:=vv hR;go_wp2;go_ret
  refine⟨rfl,?_,hF.after i5.o⟩;rw[HF.o];exact HR.o.cross (Nat.mul_pos e5.o f1.o) (by simp [sg,val])
 ·have p7:((ns:Int)==0)=false:=by simp;omega
  clear i4;go_wp2_with fail
  refine(q2S AS G ns n3 cs c3 _ _ _ g2.o HG.o (g3.o.fs (Fs.of_nil d6.o)) (by omega) (by omega)).mono ?_;rintro e w11 ⟨H,n11,c11,rfl,i6,l9,a9⟩;have o1:=i6.le_of HG.o (Nat.gcd_le_right _ d2.o);have c9:=vv i6;have o2:Hid (∀a,H=some a->a.off=0):=vv fun a e=>(l9 a e).2
  have i7:=vv (q0B (n:=s.natAbs) d2.o);have g2:=vv (g2.o.below a9 rfl);have a4:=vv (a4.o.below a9 rfl);have a5:=vv (a5.o.below a9 rfl);have HG:=vv (HG.o.below a9 rfl);have s0:=(a9.cell (p:=⟨w3.heap.size,0,none⟩) a8).trans s0;have s1:=(a9.cell (p:=⟨w3.heap.size,1,none⟩) a8).trans s1;have a8:w3.heap.size<w11.heap.size:=Nat.lt_of_lt_of_le a8 a9.size;have i8:=vn d6 a9;clear i6 l9 a9;go_wp2_with fail
  refine q02 (fun w'=>w'.cell? ⟨w3.heap.size,0,none⟩=some (.bool (decide (s<0)))/\w'.cell? ⟨w3.heap.size,1,none⟩=some (.slice AS ns cs)) 14
   (.still 0 (.still 1 (.still 2 (.still 3 (.still 4 (.still 5 (.still 6 (.still 7 (.still 8 (.still 9 (.still 10 (.still 11 (.one 12 (.one 13 .done)))))))))))))) (by kernel_rfl) (by kernel_rfl) (fun _ _ d _ _ h=>by cases d<;>exact h) ⟨s0,s1⟩ (fun hS0=>?_)
  iterate 12
   refine q00 (v:=?_) rfl (by rfl) ?_ ?_;rotate_left
   ·intro w l3;go_simp;with_reducible rfl
   simp only[Act.put,sa,sb,sc]
  refine q03 rfl (by rfl) (fun K hK=>?_);go_simp;refine(by_ AS H ns n11 cs c11 _ _ _ g2.o.drew c9.o.drew i7.o (by omega)).mono ?_;rintro e w12 ⟨A12,n12,c12,rfl,e8,-,a6⟩;have a6:Below w11.heap.size w11 w12:=⟨a6.os,a6.tape,a6.output,a6.size,a6.block⟩;have d7:=vv e8;have a4:=vv (a4.o.below a6 rfl);have a5:=vv (a5.o.below a6 rfl);have HG:=vv (HG.o.below a6 rfl);have c9:=vv (c9.o.below a6 rfl);have s0:=(a6.cell (p:=⟨w3.heap.size,0,none⟩) a8).trans s0;have s1:=(a6.cell (p:=⟨w3.heap.size,1,none⟩) a8).trans s1;have a8:w3.heap.size<w12.heap.size:=Nat.lt_of_lt_of_le a8 a6.size;have i9:=vn i8 a6;clear e8 a6;go_wp2_with fail
  refine hK.out _ _ ⟨s0,s1⟩ (fun b4=>?_);clear hK;refine q03 rfl (by rfl) (fun K hK=>?_);go_simp;refine(q0I _ _ _ _ _ d7.o).mono ?_;rintro e w13 ⟨rfl,hO,b5⟩;have j0:=vv (hO.rd d7.o.len.symm lr d7.o.sm);have a4:=vv (a4.o.below b5 rfl);have a5:=vv (a5.o.below b5 rfl);have HG:=vv (HG.o.below b5 rfl);have c9:=vv (c9.o.below b5 rfl);have s0:=(b5.cell (p:=⟨w3.heap.size,0,none⟩) a8).trans s0;have s1:=(b5.cell (p:=⟨w3.heap.size,1,none⟩) a8).trans s1;have d0:=vn i9 b5;clear hO b5;go_wp2_with fail
  refine hK.out _ _ ⟨s0,s1⟩ (fun b4=>?_);clear hK;refine q0a ?_;go_wp2_with fail
  refine(q0r g 0 v (sg (decide (s<0)) (s.natAbs/Nat.gcd s.natAbs (Nat.gcd P Q))) _ _ n12 n12 _ _ (HV.o.below d0.o) j0.o (fun a e=>by cases e;rfl) (q0R _ _) (q1a _ _)).mono ?_;rintro e w14 hP;have hP:=hP.f (HV.o.below d0.o);have j1:=vv ((HH.o.below d0.o).num hP);have HF:=vv (hP.2.2.after d0.o);have a4:=vv (a4.o.fs f2.o hP.2.2);have a5:=vv (a5.o.fs f3.o hP.2.2);have HG:=vv (HG.o.fs f5.o hP.2.2);have c9:=vv (c9.o.fs o2.o hP.2.2);obtain⟨rfl,-,-⟩:=hP;clear s0 s1;go_wp2_with fail
  refine(by_ A1 G n1 n3 c1 c3 P _ _ a4.o HG.o d2.o (by omega)).mono ?_;rintro e w15 ⟨A15,n15,c15,rfl,d8,-,d1⟩;have o3:=d8.le_of a4.o (Nat.div_le_self _ _);have d9:=vv d8;have a5:=vv (a5.o.below d1 rfl);have c9:=vv (c9.o.below d1 rfl);have j2:=vv d1;clear d8 d1;go_wp2_with fail
  refine(by_ A2 H n2 n11 c2 c11 Q _ _ a5.o c9.o i7.o (by omega)).mono ?_;rintro e w16 ⟨A16,n16,c16,rfl,e0,-,e2⟩;have o4:=e0.le_of a5.o (Nat.div_le_self _ _);have j3:=vv e0;have d9:=vv (d9.o.below e2 rfl);have j4:=vn j2 e2;clear e0 e2;go_wp2_with fail
  refine(q1j A15 A16 n15 n16 c15 c16 _ _ _ d9.o j3.o (by omega)).mono ?_;rintro e w17 hP;obtain⟨A17,n17,c17,rfl,e9,j5,f0⟩:=hP.val2;have e3:=vn j4 f0;have m0:Hid (0<P/Nat.gcd P Q*(Q/Nat.gcd s.natAbs (Nat.gcd P Q))):=vv (Nat.mul_pos (Nat.div_pos (Nat.le_of_dvd e5.o (Nat.gcd_dvd_left _ _)) d2.o) (Nat.div_pos (Nat.le_of_dvd f1.o (Nat.dvd_trans (Nat.gcd_dvd_right _ _) (Nat.gcd_dvd_right _ _))) i7.o));have j6:=vv (e9.den m0.o (fun a e=>(j5 a e).2));clear e9 f0 hP;obtain⟨hi,x,hx⟩:=j1.o;have j7:=(e3.o.cell (p:=⟨g,2,none⟩) hi.lt).trans hx;have hi:=hi.below e3.o;have o5:=hi.lt;have p8:=hi.fz 2;have HI:=vv hi;have o6:=vv j7;have j8:Hid (Fs [(g,0,2)] w w17):=vv ((HF.o.trans (Fs.of_nil e3.o)).drop (fun p hp _=>by simpa using hp) (fun p hp=>by simpa using hp));clear hi hx;go_wp2;go_ret
  refine⟨rfl,RatAt.made HI.o ⟨x,o6.o⟩ j6.o (Nat.mul_pos e5.o f1.o) m0.o (by rw[q0R];exact HL.o.1) ?_,fs3 (j8.o.trans (Fs.set2 HI.o _))⟩;rw[HL.o.2,Int.neg_mul,<- Int.sub_eq_add_neg]
theorem SubR(g gx gy:Nat)(p q:Int)(d e':Nat)(w:World)(h:RatSh w g)(hx:RatAt w gx p d)(hy:RatAt w gy q e')(hst:Std w)(sp:Sm p.natAbs)(sd:Sm d)(sq:Sm q.natAbs)(se:Sm e'):
  Calls Tryz.prog 217 #[.pointer (some ⟨g,0,none⟩),.pointer (some ⟨gx,0,none⟩),.pointer (some ⟨gy,0,none⟩)] w (q2E g (p*e'-q*d) (d*e') w):=by
 have HE:Hid ((lp p d*↑(ld q e')-lp q e'*↑(ld p d))*((d*e':Nat):Int)=(p*e'-q*d)*((ld p d*ld q e':Nat):Int)):=by
  have c1:=q0W p d;have c2:=q0W q e';refine vv ?_;simp only[Int.natCast_mul]
  calc (lp p d*↑(ld q e')-lp q e'*↑(ld p d))*(↑d*↑e')=(lp p d*d)*↑(ld q e')*e'-(lp q e'*e')*↑(ld p d)*d:=by grind
   _=(p*ld p d)*↑(ld q e')*e'-(q*ld q e')*↑(ld p d)*d:=by rw[c1,c2]
   _=_:=by grind
 have HP:=vv (Nat.mul_pos hx.pos hy.pos);have HS:=vv (q9C g gx gy (lp p d) (lp q e') (ld p d) (ld q e') w h (hx.cross (q1m hx.pos) (q0W p d).symm) (hy.cross (q1m hy.pos) (q0W q e').symm) (q2z hx.pos) (q2z hy.pos) hst (sp.mono (q3F _ _)) (sd.mono (q3G _ _)) (sq.mono (q3F _ _)) (se.mono (q3G _ _)));clear h hx hy hst sp sd sq se;go_enter Tryz.func217,Tryz.ntmps217
 go_wp2_with fail
 refine HS.o.mono ?_;rintro e w1 ⟨rfl,hR,hF⟩;have HR:=vv hR;go_wp2;go_ret
 exact⟨rfl,HR.o.cross HP.o HE.o,hF⟩
theorem q5E(g gx:Nat)(a b d e':Nat)(w:World)(hx:RatAt w g (a:Int) d)(hy:RatAt w gx (b:Int) e')(h0:a=0\/b=0):
  Calls Tryz.prog 123 #[.pointer (some ⟨g,0,none⟩),.pointer (some ⟨gx,0,none⟩)] w fun e w'=>e=.returned (.int .i64 (q3s ((a:Int)*e') (b*d)))/\Below w.heap.size w w':=by
 have HX:=vv (RSign g _ _ w hx);have HY:=vv (RSign gx _ _ w hy);have hd:=hx.pos;have he:=hy.pos;clear hx hy;rcases Nat.eq_zero_or_pos a with ha|ha<;>rcases Nat.eq_zero_or_pos b with hb|hb
 ·have HR:Hid (q3s ((a:Int)*e') (b*d)=0):=vv (by rw[ha,hb];simp [q3s]);have H1:Hid ((a:Int).sign=0):=vv (by rw[ha];rfl);have H2:Hid ((b:Int).sign=0):=vv (by rw[hb];rfl);rw[H1.o] at HX;rw[H2.o] at HY;clear ha hb hd he h0;go_enter Tryz.func123,Tryz.ntmps123
  go_wp2_with fail
  refine HX.o.mono ?_;rintro e w' ⟨rfl,rfl⟩;go_wp2_with fail
  refine HY.o.mono ?_;rintro e w' ⟨rfl,rfl⟩;go_wp2_with fail
  refine HX.o.mono ?_;rintro e w' ⟨rfl,rfl⟩;go_wp2_with fail
  refine HX.o.mono ?_;rintro e w' ⟨rfl,rfl⟩;go_wp2_with fail
  refine HY.o.mono ?_;rintro e w' ⟨rfl,rfl⟩;go_wp2_with fail
  refine HX.o.mono ?_;rintro e w' ⟨rfl,rfl⟩;go_wp2_with fail
  refine HY.o.mono ?_;rintro e w' ⟨rfl,rfl⟩;go_wp2;go_ret
  exact⟨q0i HR.o.symm,Below.refl _ _⟩
 ·have HR:Hid (q3s ((a:Int)*e') (b*d) = -1):=vv (by
   rw[ha];have:=Int.mul_pos (a:=(b:Int)) (b:=(d:Int)) (by omega) (by omega);exact q2G (by simp;omega))
  have H1:Hid ((a:Int).sign=0):=vv (by rw[ha];rfl);have H2:Hid ((b:Int).sign=1):=vv (Int.sign_eq_one_of_pos (by omega));rw[H1.o] at HX;rw[H2.o] at HY;clear ha hb hd he h0;go_enter Tryz.func123,Tryz.ntmps123
  go_wp2_with fail
  refine HX.o.mono ?_;rintro e w' ⟨rfl,rfl⟩;go_wp2_with fail
  refine HY.o.mono ?_;rintro e w' ⟨rfl,rfl⟩;go_wp2_with fail
  refine HX.o.mono ?_;rintro e w' ⟨rfl,rfl⟩;go_wp2_with fail
  refine HY.o.mono ?_;rintro e w' ⟨rfl,rfl⟩;go_wp2;go_ret
  exact⟨q0i HR.o.symm,Below.refl _ _⟩
 ·have HR:Hid (q3s ((a:Int)*e') (b*d)=1):=vv (by
   rw[hb];have:=Int.mul_pos (a:=(a:Int)) (b:=(e':Int)) (by omega) (by omega);exact q2H (by simp;omega))
  have H1:Hid ((a:Int).sign=1):=vv (Int.sign_eq_one_of_pos (by omega));have H2:Hid ((b:Int).sign=0):=vv (by rw[hb];rfl);rw[H1.o] at HX;rw[H2.o] at HY;clear ha hb hd he h0;go_enter Tryz.func123,Tryz.ntmps123
  go_wp2_with fail
  refine HX.o.mono ?_;rintro e w' ⟨rfl,rfl⟩;go_wp2_with fail
  refine HY.o.mono ?_;rintro e w' ⟨rfl,rfl⟩;go_wp2_with fail
  refine HX.o.mono ?_;rintro e w' ⟨rfl,rfl⟩;go_wp2_with fail
  refine HY.o.mono ?_;rintro e w' ⟨rfl,rfl⟩;go_wp2_with fail
  refine HX.o.mono ?_;rintro e w' ⟨rfl,rfl⟩;go_wp2_with fail
  refine HY.o.mono ?_;rintro e w' ⟨rfl,rfl⟩;go_wp2;go_ret
  exact⟨q0i HR.o.symm,Below.refl _ _⟩
 ·omega
theorem q8n(g gx:Nat)(a b d e':Nat)(w:World)(hx:RatAt w g (a:Int) d)(hy:RatAt w gx (b:Int) e')(ha:0<a)(hb:0<b)(sa:Sz a)(sd:Sz d)(sb:Sz b)(se:Sz e'):
  Calls Tryz.prog 123 #[.pointer (some ⟨g,0,none⟩),.pointer (some ⟨gx,0,none⟩)] w fun e w'=>e=.returned (.int .i64 (q3s ((a:Int)*e') (b*d)))/\Below w.heap.size w w':=by
 have HX:=vv (RSign g _ _ w hx);have HY:=vv (RSign gx _ _ w hy);rw[Int.sign_eq_one_of_pos (by omega)] at HX HY;have a1:=hx.lt;have a6:=hy.lt;have b8:=vv hx;have b9:=vv hy;have n1:=q2i (p:=(a:Int)) hx.pos;have n2:=q2i (p:=(b:Int)) hy.pos;obtain⟨A,n,c,h0,h1,hr,hz⟩:=hx.num.ex;obtain⟨B,m,c',k0,k1,hs,c0⟩:=hy.num.ex;rw[decide_eq_false (by omega)] at h0;have hn:=hr.sz (sa.mono (q3F a d));have hm:=hs.sz (sb.mono (q3F b e'));have HA:=vv hr;have HB:=vv hs;have c5:=vv sd;have c6:=vv se;have HR:Hid (q0J ((lp a d).natAbs*ld b e') ((lp b e').natAbs*ld a d)=q3s ((a:Int)*e') (b*d)):=by
  refine vv ?_;have e1:=q3j ha hx.pos;have e2:=q3j hb hy.pos;have f1:ld a d*a=d*(lp a d).natAbs:=by have:=e1.2.1;exact_mod_cast this
  have f2:ld b e'*b=e'*(lp b e').natAbs:=by have:=e2.2.1;exact_mod_cast this
  have e3:q3s ((a:Int)*e') (b*d)=q0J (a*e') (b*d):=by
   rw[q3q (by have:=Int.mul_nonneg (Int.natCast_nonneg a) (Int.natCast_nonneg e');omega) (by have:=Int.mul_nonneg (Int.natCast_nonneg b) (Int.natCast_nonneg d);omega),Int.natAbs_mul,Int.natAbs_mul]
   rfl
  rw[e3,<- q2B (d*e') _ _ (Nat.mul_pos hx.pos hy.pos),<- q2B (ld a d*ld b e') (a*e') (b*d) (Nat.mul_pos (q1m hx.pos) (q1m hy.pos))];congr 1
  ·calc d*e'*((lp a d).natAbs*ld b e')=(d*(lp a d).natAbs)*(e'*ld b e'):=by grind
    _=(ld a d*a)*(e'*ld b e'):=by rw[f1]
    _=_:=by grind
  ·calc d*e'*((lp b e').natAbs*ld a d)=(e'*(lp b e').natAbs)*(d*ld a d):=by grind
    _=(ld b e'*b)*(d*ld a d):=by rw[f2]
    _=_:=by grind
 clear hx hy ha hb n1 n2 hr hs hz c0 sa sb sd se k0;go_enter Tryz.func123,Tryz.ntmps123
 go_wp2_with fail
 refine HX.o.mono ?_;rintro e w' ⟨rfl,rfl⟩;go_wp2_with fail
 refine HY.o.mono ?_;rintro e w' ⟨rfl,rfl⟩;go_wp2_with fail
 refine HX.o.mono ?_;rintro e w' ⟨rfl,rfl⟩;go_wp2_with fail
 refine q02 (fun w'=>w'.cell? ⟨g,1,none⟩=some (.slice A n c)/\w'.cell? ⟨gx,1,none⟩=some (.slice B m c')) 16
  (.still 0 (.still 1 (.still 2 (.still 3 (.still 4 (.still 5 (.still 8 (.still 9 (.still 10 (.still 11 (.still 12 (.still 13 (.one 6 (.one 7 (.one 14 (.one 15 .done)))))))))))))))) (by kernel_rfl) (by kernel_rfl) (fun _ _ d _ _ h=>by cases d<;>exact h) ⟨h1,k1⟩ (fun hS0=>?_)
 iterate 12
  refine q00 (v:=?_) rfl (by rfl) ?_ ?_;rotate_left
  ·intro w d4;go_simp;with_reducible rfl
  simp only[Act.put,sa,sb,sc]
 refine q03 rfl (by rfl) (fun K hK=>?_);go_simp;refine(below gx _ _ _ b9.o.drew).mono ?_;rintro e w1 ⟨A1,n1,c1,rfl,b1,d5,a2⟩;have d6:=b1.sz (c6.o.mono (q3G _ _));have c7:=vv b1;have a7:Hid (Below w.heap.size w w1):=vv ⟨a2.os,a2.tape,a2.output,a2.size,a2.block⟩;clear b1 a2;go_wp2_with fail
 refine hK.out _ _ ⟨(a7.o.cell (p:=⟨g,1,none⟩) a1).trans h1,(a7.o.cell (p:=⟨gx,1,none⟩) a6).trans k1⟩ (fun a0=>?_);clear hK;refine q03 rfl (by rfl) (fun K hK=>?_);go_simp;refine(q1j A A1 n n1 c c1 _ _ _ (HA.o.below a7.o rfl) c7.o (by omega)).mono ?_;rintro e w2 hP;obtain⟨A2,n2,c2,rfl,b5,d7,b6⟩:=hP.val2;have a3:=vv b5;have a8:=vn a7 b6;clear b5 b6 hP;go_wp2_with fail
 refine hK.out _ _ ⟨(a8.o.cell (p:=⟨g,1,none⟩) a1).trans h1,(a8.o.cell (p:=⟨gx,1,none⟩) a6).trans k1⟩ (fun a0=>?_);clear hK;refine q03 rfl (by rfl) (fun K hK=>?_);go_simp;refine(below g _ _ _ (b8.o.below a8.o)).mono ?_;rintro e w3 ⟨A3,n3,c3,rfl,b2,d8,b3⟩;have d9:=b2.sz (c5.o.mono (q3G _ _));have c8:=vv b2;have a3:=vv (a3.o.below b3 rfl);have a9:=vn a8 b3;clear b2 b3;go_wp2_with fail
 refine hK.out _ _ ⟨(a9.o.cell (p:=⟨g,1,none⟩) a1).trans h1,(a9.o.cell (p:=⟨gx,1,none⟩) a6).trans k1⟩ (fun a0=>?_);clear hK;refine q03 rfl (by rfl) (fun K hK=>?_);go_simp;refine(q1j B A3 m n3 c' c3 _ _ _ (HB.o.below a9.o rfl) c8.o (by omega)).mono ?_;rintro e w4 hP;obtain⟨A4,n4,c4,rfl,b7,e0,b4⟩:=hP.val2;have c9:=vv b7;have a3:=vv (a3.o.below b4 rfl);have a4:=vn a9 b4;have d0:=(a4.o.cell (p:=⟨g,0,none⟩) a1).trans h0;have a5:g<w4.heap.size:=Nat.lt_of_lt_of_le a1 a4.o.size;clear b7 b4 hP;go_wp2_with fail
 refine hK.out _ _ ⟨(a4.o.cell (p:=⟨g,1,none⟩) a1).trans h1,(a4.o.cell (p:=⟨gx,1,none⟩) a6).trans k1⟩ (fun a0=>?_);clear hK;refine q0a ?_;go_wp2_with fail
 refine(q0F A2 A4 n2 n4 c2 c4 _ _ _ a3.o c9.o (by rw[q01]) (by rw[q01])).mono ?_;rintro e w5 ⟨rfl,b0⟩;rw[q01,q01,HR.o];have d1:=(b0.cell (p:=⟨g,0,none⟩) a5).trans d0;have d2:g<w5.heap.size:=Nat.lt_of_lt_of_le a5 b0.size;have d3:=vn a4 b0;clear b0;go_wp2;go_ret
 exact⟨rfl,d3.o⟩
theorem CmpR(g gx:Nat)(a b d e':Nat)(w:World)(hx:RatAt w g (a:Int) d)(hy:RatAt w gx (b:Int) e')(sa:Sz a)(sd:Sz d)(sb:Sz b)(se:Sz e'):
  Calls Tryz.prog 123 #[.pointer (some ⟨g,0,none⟩),.pointer (some ⟨gx,0,none⟩)] w fun e w'=>e=.returned (.int .i64 (q0J (a*e') (b*d)))/\Below w.heap.size w w':=by
 have e3:q3s ((a:Int)*e') (b*d)=q0J (a*e') (b*d):=by
  rw[q3q (by have:=Int.mul_nonneg (Int.natCast_nonneg a) (Int.natCast_nonneg e');omega) (by have:=Int.mul_nonneg (Int.natCast_nonneg b) (Int.natCast_nonneg d);omega),Int.natAbs_mul,Int.natAbs_mul]
  rfl
 rw[<- e3];rcases Nat.eq_zero_or_pos a with h|ha
 ·exact q5E g gx a b d e' w hx hy (.inl h)
 rcases Nat.eq_zero_or_pos b with h|hb
 ·exact q5E g gx a b d e' w hx hy (.inr h)
 exact q8n g gx a b d e' w hx hy ha hb sa sd sb se
end Go.Proofs.YtcdimmblnbkjjaaGreatDoor.B
namespace Go.Proofs.YtcdimmblnbkjjaaGreatDoor.R5
open Go Go.RowKit
abbrev fm(E F:Int):Value:=.agg #[.int .i64 E,.int .i64 F]
theorem q5n{k:Nat}(h:k<=62):(1:Int)<=2^k/\(2:Int)^k<=4611686018427387904:=by
 have h1:(2:Nat)^k<=2^62:=Nat.pow_le_pow_right (by omega) h;have h2:=Nat.two_pow_pos k;have h3:((2^k:Nat):Int)=(2:Int)^k:=by rw[Int.natCast_pow];rfl
 rw[<- h3];omega
theorem q77{E:Nat}(h2:E<=11):wrap64 (wrap64 (2^(E-1))-1)=q09 E:=by
 have h:=q5n (k:=E-1) (by omega);unfold wrap64 q09;omega
theorem q5g{k:Nat}(h:k<=63):IntKind.u64.wrap (2^k)=((2^k:Nat):Int):=by
 have h1:(2:Nat)^k<=2^63:=Nat.pow_le_pow_right (by omega) h;have h3:((2^k:Nat):Int)=(2:Int)^k:=by rw[Int.natCast_pow];rfl
 rw[<- h3,IntKind.wrap_u64];have:=Nat.two_pow_pos k;omega
theorem q9B(E F:Nat)(w:World)(h1:2<=E)(h2:E<=11)(h3:1<=F)(h4:F<=52):
  Calls Tryz.prog 66 #[fm E F] w fun e w'=>e=.returned (.bool true)/\Below w.heap.size w w':=by
 go_enter Tryz.func66,Tryz.ntmps66
 go_wp2;go_ret
 exact⟨q1K (decide_eq_true (by omega)),(Below.refl _ _).alloc lr _⟩
theorem q8A(E:Nat)(F:Int)(w:World)(h1:2<=E)(h2:E<=11):
  Calls Tryz.prog 122 #[fm E F] w fun e w'=>e=.returned (.int .i64 (q09 E))/\Below w.heap.size w w':=by
 go_enter Tryz.func122,Tryz.ntmps122
 go_wp2;go_ret
 exact⟨q0i (q77 h2),(Below.refl _ _).alloc lr _⟩
theorem Sign(E F:Nat)(w:World)(h1:2<=E)(h2:E<=11)(h3:1<=F)(h4:F<=52):
  Calls Tryz.prog 118 #[fm E F] w fun e w'=>e=.returned (.int .u64 ((2^(E+F):Nat):Int))/\Below w.heap.size w w':=by
 go_enter Tryz.func118,Tryz.ntmps118
 go_wp2;go_ret
 exact⟨q0i (q5g (by omega)),(Below.refl _ _).alloc lr _⟩
theorem RatAt.one2{w:World}{g:Nat}{k:Nat}(h:RatAt w g ((1:Int)*2^k) 1):RatAt w g ((2^k:Nat):Int) 1:=by
 have e:(1:Int)*2^k=((2^k:Nat):Int):=by rw[Int.one_mul,Int.natCast_pow];rfl
 rwa [e] at h
theorem q1n(k:Nat):bl (2^k)=k+1:=q95 (by rw[Nat.pow_succ];have:=Nat.two_pow_pos k;omega) (by rw[Nat.add_sub_cancel];exact lr) (by omega)
theorem q7i(k:Nat)(w:World)(hk:k<=4294967295):
  Calls Tryz.prog 70 #[.int .i64 (k:Int)] w (q1h ((2^k:Nat):Int) 1 w):=by
 have a9:Hid (∀(w:World) t,Below w.heap.size w (w.alloc (.cells #[.bool false,.slice none 0 0] t))):=vv fun w t=>(Below.refl _ w).alloc lr _
 have b5:Hid (∀(w:World) t,Below w.heap.size w (w.alloc (.cells #[.bool false,.slice none 0 0,.slice none 0 0] t))):=vv fun w t=>(Below.refl _ w).alloc lr _
 have b0:=vv (RatAt.zero w 119);obtain⟨w0,a4⟩:=yx (w.alloc (.cells #[.bool false,.slice none 0 0,.slice none 0 0] 119));have a6:=b5.o w 119;rw[<- a4] at a6 b0;have b1:=vv a6;have a7:w0.heap.size=w.heap.size+1:=by rw[a4];simp
 have c0:=vv a7;have b2:=vv (IntAt.zero w0 117);rw[a7] at b2;have HW:=vv a4;clear a4 a6 a7;have b6:max (k:Int) (-(k:Int))=(k:Int):=by omega
 go_enter Tryz.func70,Tryz.ntmps70
 go_wp2_with fail
 rw[<- HW.o];have a1:=vv (b1.o.trans ((a9.o w0 117).mono b1.o.size));have a0:=vv (b0.o.below (a9.o w0 117));refine(B.NewInt 1 _ (by omega) (by omega)).mono ?_;rintro e w1 ⟨g1,rfl,c1,b3,a5⟩;have b7:=vv b3;have a2:=vv (b2.o.below a5);have a0:=vv (a0.o.below a5);have b4:=a1.o.trans (a5.mono a1.o.size);have a1:=vv b4;clear b3 a5 b4;go_wp2_with fail
 refine(B.Lsh _ 0 g1 0 k 0 1 _ a2.o b7.o (by exact Sz.small (by decide)) (by omega)).mono ?_;rintro e w2 hP;have hP:=hP.f a2.o;have b8:=vv hP.2.1;have a8:=vv (a0.o.fs1 hP.2.2 (by omega));have a3:=vv (hP.below a1.o a1.o.size (by omega));obtain⟨rfl,-,-⟩:=hP;go_wp2_with fail
 refine(B.SetInt w.heap.size (w.heap.size+1) _ _ a8.o.sh b8.o).mono ?_;rintro e w3 hP;have b9:=vv (hP.below a3.o a3.o.size lr);obtain⟨rfl,hR,-⟩:=hP;have HR:=vv (RatAt.one2 hR);clear hR;go_wp2;go_ret
 exact⟨_,rfl,lr,HR.o,b9.o⟩
theorem q5P(k:Nat)(w:World)(hk:k<=4294967295)(h0:0<k):
  Calls Tryz.prog 70 #[.int .i64 (-(k:Int))] w (q1h 1 (2^k) w):=by
 have a9:Hid (∀(w:World) t,Below w.heap.size w (w.alloc (.cells #[.bool false,.slice none 0 0] t))):=vv fun w t=>(Below.refl _ w).alloc lr _
 have b6:Hid (∀(w:World) t,Below w.heap.size w (w.alloc (.cells #[.bool false,.slice none 0 0,.slice none 0 0] t))):=vv fun w t=>(Below.refl _ w).alloc lr _
 have b0:=vv (RatAt.zero w 119);obtain⟨w0,a4⟩:=yx (w.alloc (.cells #[.bool false,.slice none 0 0,.slice none 0 0] 119));have a6:=b6.o w 119;rw[<- a4] at a6 b0;have b1:=vv a6;have a7:w0.heap.size=w.heap.size+1:=by rw[a4];simp
 have c2:=vv a7;have b2:=vv (IntAt.zero w0 117);rw[a7] at b2;have HW:=vv a4;clear a4 a6 a7;have b7:-(-(k:Int))=(k:Int):=by omega
 have b8:max (-(k:Int)) (k:Int)=(k:Int):=by omega
 have c3:-(k:Int)<0:=by omega
 go_enter Tryz.func70,Tryz.ntmps70
 go_wp2_with fail
 rw[<- HW.o];have a1:=vv (b1.o.trans ((a9.o w0 117).mono b1.o.size));have a0:=vv (b0.o.below (a9.o w0 117));refine(B.NewInt 1 _ (by omega) (by omega)).mono ?_;rintro e w1 ⟨g1,rfl,c4,b3,a5⟩;have b9:=vv b3;have a2:=vv (b2.o.below a5);have a0:=vv (a0.o.below a5);have b4:=a1.o.trans (a5.mono a1.o.size);have a1:=vv b4;clear b3 a5 b4;go_wp2_with fail
 refine(B.Lsh _ 0 g1 0 k 0 1 _ a2.o b9.o (by exact Sz.small (by decide)) (by omega)).mono ?_;rintro e w2 hP;have hP:=hP.f a2.o;have c0:=vv hP.2.1;have a8:=vv (a0.o.fs1 hP.2.2 (by omega));have a3:=vv (hP.below a1.o a1.o.size (by omega));obtain⟨rfl,-,-⟩:=hP;go_wp2_with fail
 refine(B.SetInt w.heap.size (w.heap.size+1) _ _ a8.o.sh c0.o).mono ?_;rintro e w3 hP;have b5:=vv (hP.below a3.o a3.o.size lr);obtain⟨rfl,hR,-⟩:=hP;have HR:=vv (RatAt.one2 hR);clear hR;go_wp2_with fail
 refine(B.Inv w.heap.size w.heap.size (2^k) 1 _ HR.o.sh HR.o (Nat.two_pow_pos k)).mono ?_;rintro e w4 hP;have c1:=vv (hP.below b5.o b5.o.size lr);obtain⟨rfl,hR,-⟩:=hP;have HR:=vv hR;clear hR;go_wp2;go_ret
 exact⟨_,rfl,lr,HR.o,c1.o⟩
theorem q4v(n:Int)(w:World)(h1:-4294967295<=n)(h2:n<=4294967295):
  Calls Tryz.prog 70 #[.int .i64 n] w (q1h ((p2 n:Nat):Int) (p2 (-n)) w):=by
 rcases Int.lt_or_le n 0 with h|h
 ·obtain⟨k,rfl⟩:∃k:Nat,n = -(k:Int):=⟨n.natAbs,by omega⟩;rw[q0k (n:=-(k:Int)) (by omega),show -(-(k:Int))=k by omega,q1A];exact q5P k w (by omega) (by omega)
 ·obtain⟨k,rfl⟩:∃k:Nat,n=(k:Int):=⟨n.natAbs,by omega⟩;rw[q0k (n:=-(k:Int)) (by omega),q1A];exact q7i k w (by omega)
theorem Sm.p2{n:Int}(h:n<=4294967295):Sm (p2 n):=by
 unfold Sm;unfold Go.Proofs.YtcdimmblnbkjjaaGreatDoor.p2;rw[q1n];omega
theorem q53{a b:Nat}(hb:0<b):((lp (a:Int) b).natAbs:Int)=lp (a:Int) b:=by
 have:=q2i (p:=(a:Int)) hb;omega
theorem RatAt.kept{w:World}{g a b:Nat}(h:RatAt w g (a:Int) b):RatAt w g (((lp (a:Int) b).natAbs:Nat):Int) (ld (a:Int) b):=
 h.cross (q1m h.pos) (by rw[q53 h.pos];exact(q0W _ _).symm)
theorem q3J{a b:Nat}(hb:0<b):a*ld (a:Int) b=(lp (a:Int) b).natAbs*b:=by
 have h:=q0W (a:Int) b;rw[<- q53 hb] at h
 exact_mod_cast h.symm
theorem q7u{a b:Nat}(ha:0<a)(hb:0<b):0<(lp (a:Int) b).natAbs:=(q3j ha hb).2.2
theorem q9z(g a b:Nat)(w:World)(h:RatAt w g (a:Int) b):
  Calls Tryz.prog 154 #[.pointer (some ⟨g,0,none⟩)] w (q0Z ((lp (a:Int) b).natAbs:Nat) w):=by
 rw[q53 h.pos];exact B.Num g _ _ w h
theorem q9E(g N D:Nat)(w:World)(hx:RatAt w g (N:Int) D)(hN:∀w',Below w.heap.size w w'->Calls Tryz.prog 154 #[.pointer (some ⟨g,0,none⟩)] w' (q0Z (N:Int) w'))
  (hD:∀w',Below w.heap.size w w'->Calls Tryz.prog 155 #[.pointer (some ⟨g,0,none⟩)] w' (q0Z (D:Int) w')) (ha:0<N) (sa:Sm N) (sb:Sm D) :
  Calls Tryz.prog 120 #[.pointer (some ⟨g,0,none⟩)] w fun e w'=>e=.returned (.int .i64 (q0H N D))/\Below w.heap.size w w':=by
 have hb:=hx.pos;have HT:=vv (q6H (e:=(bl N:Int)-bl D) ha hb rfl);have HX:=vv hx;have HN:=vv hN;have HD:=vv hD;have b8:bl N<=4294967296:=sa;have b9:bl D<=4294967296:=sb;have c0:=q3t hb;have c1:=q3t ha;have b1:=vv sa.sz;have b2:=vv sb.sz;obtain⟨n,hn⟩:=yx ((bl N:Int)-bl D);have HP:=vv fun w=>q4v n w (by omega) (by omega)
 have a0:Hid (Sz (p2 n)/\Sz (p2 (-n))):=vv ⟨(Sm.p2 (by omega)).sz,(Sm.p2 (by omega)).sz⟩;rw[<- hn] at HT;have c2:-4294967296<=n:=by omega
 have c3:n<=4294967296:=by omega
 have b3:=vv hn;clear hx sa sb hb hN hD ha hn;go_enter Tryz.func120,Tryz.ntmps120
 go_wp2_with fail
 refine(HN.o _ (Below.refl _ _)).mono ?_;rintro e w1 ⟨g1,rfl,c4,a1,a2⟩;have b4:=vv a1;have a3:=vv a2;clear a1 a2;go_wp2_with fail
 refine(B.BitLen g1 0 _ _ b4.o).mono ?_;rintro e w' ⟨rfl,rfl⟩;go_wp2_with fail
 refine(HD.o _ a3.o).mono ?_;rintro e w2 ⟨g2,rfl,c5,a4,a5⟩;have b5:=vv a4;have b6:=vn a3 a5;clear a4 a5;go_wp2_with fail
 refine(B.BitLen g2 0 _ _ b5.o).mono ?_;rintro e w' ⟨rfl,rfl⟩;go_wp2_with fail
 rw[<- b3.o];refine(HP.o _).mono ?_;rintro e w3 ⟨g3,rfl,c6,a6,a7⟩;have b7:=vv a6;have a8:=vn b6 a7;clear a6 a7;go_wp2_with fail
 refine(B.CmpR g3 g _ N _ D _ b7.o (HX.o.below a8.o) a0.o.1 a0.o.2 b1.o b2.o).mono ?_;rintro e w4 ⟨rfl,a9⟩;have b0:=vn a8 a9;clear a9;by_cases hc:N*p2 (-n)<D*p2 n
 ·have hv:q0J (p2 n*D) (N*p2 (-n))=1:=q2q (by rw[Nat.mul_comm (p2 n)];exact hc);rw[hv];have HR:Hid (q0H N D=n-1):=vv (by rw[HT.o,if_pos hc]);clear hv hc;go_wp2;go_ret
  exact⟨q0i HR.o.symm,b0.o⟩
 ·obtain⟨t,ht⟩:=yx (q0J (p2 n*D) (N*p2 (-n)));have hd:decide (0<t)=false:=by
   rw[decide_eq_false_iff_not,ht,q2U,Nat.mul_comm (p2 n)];exact hc
  rw[<- ht];have HR:Hid (q0H N D=n):=vv (by rw[HT.o,if_neg hc]);clear ht hc;go_wp2;go_ret
  exact⟨q0i HR.o.symm,b0.o⟩
theorem log(g a b:Nat)(w:World)(hx:RatAt w g (a:Int) b)(ha:0<a)(sa:Sm a)(sb:Sm b):
  Calls Tryz.prog 120 #[.pointer (some ⟨g,0,none⟩)] w fun e w'=>e=.returned (.int .i64 (q0H a b))/\Below w.heap.size w w':=by
 have hb:=hx.pos;have e0:q0H a b=q0H (lp (a:Int) b).natAbs (ld (a:Int) b):=q3K ha hb (q1m hb) (q3J hb);rw[e0];exact q9E g _ _ w (RatAt.kept hx) (fun w' hw=>q9z g a b w' (hx.below hw)) (fun w' hw=>B.Denom g _ _ w' (hx.below hw)) (q7u ha hb) (sa.mono (q3F _ _)) (sb.mono (q3G _ _))
abbrev q1H:Obj:=.cells #[.bool false,.slice none 0 0,.slice none 0 0] 119
abbrev q90:Obj:=.cells #[.bool false,.slice none 0 0] 117
theorem q0y(w:World):RatAt (w.alloc q1H) w.heap.size 0 1/\Below w.heap.size w (w.alloc q1H):=⟨RatAt.zero w _,(Below.refl _ w).alloc lr _⟩
theorem q43(w:World):IntAt (w.alloc q90) w.heap.size 0 0/\Below w.heap.size w (w.alloc q90):=⟨IntAt.zero w _,(Below.refl _ w).alloc lr _⟩
theorem q5i(w:World):RatAt ((w.alloc q1H).alloc q1H) w.heap.size 0 1/\RatAt ((w.alloc q1H).alloc q1H) (w.heap.size+1) 0 1/\Below w.heap.size w ((w.alloc q1H).alloc q1H):=by
 obtain⟨h1,h2⟩:=q0y w;obtain⟨k1,k2⟩:=q0y (w.alloc q1H);have e:(w.alloc q1H).heap.size=w.heap.size+1:=by simp
 rw[e] at k1;exact⟨h1.below k2,k1,h2.trans (k2.mono h2.size)⟩
def q2p(neg:Bool)(mode N D:Nat):Bool:=q3A neg mode (decide (N/D%2=1)) (q0J (2*(N%D)) D)
theorem q8B(g N D:Nat)(neg:Bool)(mode:Nat)(w:World)(hx:RatAt w g (N:Int) D)(hN:∀w',Below w.heap.size w w'->Calls Tryz.prog 154 #[.pointer (some ⟨g,0,none⟩)] w' (q0Z (N:Int) w'))
  (hD:∀w',Below w.heap.size w w'->Calls Tryz.prog 155 #[.pointer (some ⟨g,0,none⟩)] w' (q0Z (D:Int) w')) (sa:Sm N) (sb:Sm D) (hst:Std w) (hm:mode<=4) :
  Calls Tryz.prog 168 #[.pointer (some ⟨g,0,none⟩),.bool neg,.int .u8 (mode:Int)] w (q0Z ((rnd neg mode N D:Nat):Int) w):=by
 have hd:=hx.pos;have HX:=vv hx;have c3:=vv hN;have c4:=vv hD;have d3:=vv hst;have d4:=vv sa;have d5:=vv sb;have i5:=hx.lt;have f4:=Nat.mod_lt N hd;have d6:=Nat.div_le_self N D;have d7:=Nat.div_add_mod N D;have d8:Hid (Sm (N/D)):=vv (sa.mono d6);have f5:Hid (Sm (N%D)):=vv (sb.mono (by omega));have f6:Hid ((N:Int)/(D:Int)=((N/D:Nat):Int)):=vv (by rw[Int.natCast_ediv]);have f7:=vv hd;have b4:Hid ((N:Int)*((1:Nat):Int)-((N/D:Nat):Int)*(D:Nat)=((N%D:Nat):Int)/\D*1=D):=vv ⟨by
  have:((D*(N/D)+N%D:Nat):Int)=N:=by rw[d7]
  rw[Int.natCast_add,Int.natCast_mul,Int.mul_comm] at this;rw[Int.natCast_one,Int.mul_one,<- this];omega,Nat.mul_one _⟩
 have H1:Hid (N%D=0->rnd neg mode N D=N/D):=vv fun h=>by unfold rnd;rw[if_pos h]
 have H2:Hid (N%D≠0->q2p neg mode N D=true->rnd neg mode N D=N/D+1):=vv fun h k=>by unfold rnd;rw[if_neg h];exact if_pos k
 have H3:Hid (N%D≠0->q2p neg mode N D=false->rnd neg mode N D=N/D):=vv fun h k=>by unfold rnd;rw[if_neg h];exact if_neg (by unfold q2p at k;rw[k];decide)
 have HM:=vv hm;clear hx hN hD hst sa sb hd f4 d6 d7 hm;go_enter Tryz.func168,Tryz.ntmps168
 go_wp2_with fail
 obtain⟨z1,z2⟩:=q43 w;obtain⟨w0,d9⟩:=yx (w.alloc q90);rw[<- d9] at z1 z2 ⊢;have f8:=vv z1;have e0:=vv z2;have f9:=z2.size;clear z1 z2 d9;refine(c3.o _ e0.o).mono ?_;rintro e w1 ⟨g1,rfl,i6,e1,c5⟩;have c6:=vv e1;have g0:=vv (f8.o.below c5);have e2:=vn e0 c5;clear e1 c5;go_wp2_with fail
 refine(c4.o _ e2.o).mono ?_;rintro e w2 ⟨g2,rfl,i7,e3,b5⟩;have g3:=vv e3;have c6:=vv (c6.o.below b5);have g4:=vv (g0.o.below b5);have e4:=vn e2 b5;clear e3 b5;go_wp2_with fail
 refine(B.Div w.heap.size 0 g1 0 g2 0 _ _ _ _ g4.o c6.o g3.o (by have:=f7.o;omega) d4.o.sz).mono ?_;rintro e w3 hP;have hP:q5Y w.heap.size 0 ((N:Int)/(D:Int)) w2 e w3:=hP;have e5:=vv (hP.below e4.o e4.o.size lr);obtain⟨rfl,b6,-⟩:=hP;rw[f6.o] at b6;have g5:=vv b6;have g6:=e5.o.size;have g8:=b6.lt;clear b6;go_wp2_with fail
 obtain⟨z1,z2,z3⟩:=q5i w3;obtain⟨w4,e6⟩:=yx ((w3.alloc q1H).alloc q1H);rw[<- e6] at z1 z2 z3 ⊢;have c7:=vv z1;have c8:=vv z2;have e7:=vv (g5.o.below z3);have e8:=vn e5 z3;clear z1 z2 z3 e6;refine(B.SetInt (w3.heap.size+1) w.heap.size _ _ c8.o.sh e7.o).mono ?_;rintro e w5 hP;have i0:=vv (e7.o.fs1 hP.2.2 (by omega));have c9:=vv (c7.o.fs1 hP.2.2 (by omega));have b7:=vv (hP.below e8.o e8.o.size (by omega));obtain⟨rfl,e9,-⟩:=hP;have i1:=vv e9;clear e9;go_wp2_with fail
 refine(B.SubR w3.heap.size g (w3.heap.size+1) (N:Int) ((N/D:Nat):Int) D 1 _ c9.o.sh (HX.o.below b7.o) i1.o (d3.o.fs (Fs.of_nil b7.o)) (by exact d4.o) d5.o (by exact d8.o) (by unfold Sm;decide)).mono ?_;rintro e w6 hP;rw[b4.o.1,b4.o.2] at hP;have f0:=vv (i0.o.fs1 hP.2.2 (by omega));have d0:=vv (hP.below b7.o b7.o.size (by omega));obtain⟨rfl,f1,-⟩:=hP;have b8:=vv f1;clear f1;go_wp2_with fail
 refine(B.RSign w3.heap.size _ _ _ b8.o).mono ?_;rintro e w' ⟨rfl,rfl⟩;by_cases h0:N%D=0
 ·have a2:=vv (H1.o h0);have hs:((N%D:Nat):Int).sign=0:=by rw[h0];rfl
  rw[hs];clear h0 hs;go_wp2;go_ret
  exact⟨_,rfl,lr,by rw[a2.o];exact f0.o,d0.o⟩
 have hs:((N%D:Nat):Int).sign=1:=Int.sign_eq_one_of_pos (by omega);rw[hs];have H0:=vv h0;clear h0 hs;go_wp2_with fail
 refine(B.NewRat 1 2 _ (by omega) (by omega) (by omega) (by omega) (d3.o.fs (Fs.of_nil d0.o))).mono ?_;rintro e w7 ⟨g7,rfl,i8,f2,b9⟩;have i2:=vv f2;have b8:=vv (b8.o.below b9);have i3:=vv (f0.o.below b9);have i4:=vn d0 b9;clear f2 b9;go_wp2_with fail
 refine(B.CmpR w3.heap.size g7 (N%D) 1 D 2 _ b8.o i2.o f5.o.sz d5.o.sz (by unfold Sz;decide) (by unfold Sz;decide)).mono ?_;rintro e w8 ⟨rfl,d1⟩;have a8:=vv (i3.o.below d1);have b2:=vn i4 d1;clear d1;have hc:q0J (N%D*2) (1*D)=q0J (2*(N%D)) D:=by rw[Nat.mul_comm,Nat.one_mul]
 rw[hc];clear hc;have hm:=HM.o;have a1:Hid (q2p neg mode N D=q3A neg mode (decide (N/D%2=1)) (q0J (2*(N%D)) D)):=vv rfl;have a6:=q4g (2*(N%D)) D;have HO:=vv (Nat.mod_two_eq_zero_or_one (N/D));have b3:=vv (B.Bit0 w.heap.size 0 _ _ a8.o);have a7:Hid (∀w9 g9,Below w8.heap.size w8 w9->IntAt w9 g9 0 1->Calls Tryz.prog 220 #[.pointer (some ⟨w.heap.size,0,none⟩),.pointer (some ⟨w.heap.size,0,none⟩),.pointer (some ⟨g9,0,none⟩)] w9 fun e w'=>e=.returned (.pointer (some ⟨w.heap.size,0,none⟩))/\IntAt w' w.heap.size 0 ((N/D+1:Nat):Int)/\Below w.heap.size w w'):=by
  refine vv fun w9 g9 hb h9=>?_
  refine(B.Add w.heap.size 0 w.heap.size 0 g9 0 _ _ _ _ (a8.o.below hb) (a8.o.below hb) h9 (by exact d8.o.sz) (by unfold Sz;decide)).mono ?_;rintro e w' hP;have hP:=hP.f (a8.o.below hb);have f3:=b2.o.trans (hb.mono b2.o.size);exact⟨hP.1,hP.2.1,hP.below f3 f3.size lr⟩
 rw[Int.natAbs_natCast] at b3;generalize q0J (2*(N%D)) D=c at *
 rcases(by omega:mode=0/\c=1\/mode=0/\c = -1\/mode=0/\c=0\/mode=1/\0<=c\/mode=1/\c<0\/mode=2\/mode=3\/mode=4) with ⟨a0,hc⟩|⟨a0,hc⟩|⟨a0,hc⟩|⟨a0,hc⟩|⟨a0,hc⟩|a0|a0|a0
 ·
  have t0:((mode:Int)==0)=true:=by rw[a0];rfl
  have t1:((mode:Int)==1)=false:=by rw[a0];rfl
  have t2:((mode:Int)==2)=false:=by rw[a0];rfl
  have t3:((mode:Int)==3)=false:=by rw[a0];rfl
  have t4:((mode:Int)==4)=false:=by rw[a0];rfl
  have a3:Hid (q2p neg mode N D=true):=vv (by rw[a1.o,a0,hc];rfl);have c0:decide (0<c)=true:=by rw[hc];rfl
  clear hc;clear a0 hm a6;have a2:=vv (H2.o H0.o a3.o);go_wp2_with fail
  refine(B.NewInt 1 _ (by omega) (by omega)).mono ?_;rintro e w9 ⟨g9,rfl,c2,a4,a5⟩;have a9:=vv a4;have b0:=vv a5;clear a4 a5;go_wp2_with fail
  refine(a7.o _ _ b0.o a9.o).mono ?_;rintro e w10 ⟨rfl,hI,hB⟩;have HI:=vv hI;have b1:=vv hB;clear hI hB;go_wp2;go_ret
  exact⟨_,rfl,lr,by rw[a2.o];exact HI.o,b1.o⟩
 ·
  have t0:((mode:Int)==0)=true:=by rw[a0];rfl
  have t1:((mode:Int)==1)=false:=by rw[a0];rfl
  have t2:((mode:Int)==2)=false:=by rw[a0];rfl
  have t3:((mode:Int)==3)=false:=by rw[a0];rfl
  have t4:((mode:Int)==4)=false:=by rw[a0];rfl
  have a3:Hid (q2p neg mode N D=false):=vv (by rw[a1.o,a0,hc];rfl);have c0:decide (0<c)=false:=by rw[hc];rfl
  have c1:(c==0)=false:=by rw[hc];rfl
  clear hc;clear a0 hm a6;have a2:=vv (H3.o H0.o a3.o);go_wp2;go_ret
  exact⟨_,rfl,lr,by rw[a2.o];exact a8.o,b2.o⟩
 ·rcases HO.o with ho|ho
  ·
   have t0:((mode:Int)==0)=true:=by rw[a0];rfl
   have t1:((mode:Int)==1)=false:=by rw[a0];rfl
   have t2:((mode:Int)==2)=false:=by rw[a0];rfl
   have t3:((mode:Int)==3)=false:=by rw[a0];rfl
   have t4:((mode:Int)==4)=false:=by rw[a0];rfl
   have a3:Hid (q2p neg mode N D=false):=vv (by rw[a1.o,a0,hc,ho];rfl);have c0:decide (0<c)=false:=by rw[hc];rfl
   have c1:(c==0)=true:=by rw[hc];rfl
   have d2:=vv ho;clear hc ho;clear a0 hm a6;have a2:=vv (H3.o H0.o a3.o);go_wp2_with fail
   refine b3.o.mono ?_;rintro e w' ⟨rfl,rfl⟩;rw[d2.o];go_wp2_with fail
   go_wp2;go_ret
   exact⟨_,rfl,lr,by rw[a2.o];exact a8.o,b2.o⟩
  ·
   have t0:((mode:Int)==0)=true:=by rw[a0];rfl
   have t1:((mode:Int)==1)=false:=by rw[a0];rfl
   have t2:((mode:Int)==2)=false:=by rw[a0];rfl
   have t3:((mode:Int)==3)=false:=by rw[a0];rfl
   have t4:((mode:Int)==4)=false:=by rw[a0];rfl
   have a3:Hid (q2p neg mode N D=true):=vv (by rw[a1.o,a0,hc,ho];rfl);have c0:decide (0<c)=false:=by rw[hc];rfl
   have c1:(c==0)=true:=by rw[hc];rfl
   have d2:=vv ho;clear hc ho;clear a0 hm a6;have a2:=vv (H2.o H0.o a3.o);go_wp2_with fail
   refine b3.o.mono ?_;rintro e w' ⟨rfl,rfl⟩;rw[d2.o];go_wp2_with fail
   refine(B.NewInt 1 _ (by omega) (by omega)).mono ?_;rintro e w9 ⟨g9,rfl,c2,a4,a5⟩;have a9:=vv a4;have b0:=vv a5;clear a4 a5;go_wp2_with fail
   refine(a7.o _ _ b0.o a9.o).mono ?_;rintro e w10 ⟨rfl,hI,hB⟩;have HI:=vv hI;have b1:=vv hB;clear hI hB;go_wp2;go_ret
   exact⟨_,rfl,lr,by rw[a2.o];exact HI.o,b1.o⟩
 ·
  have t0:((mode:Int)==0)=false:=by rw[a0];rfl
  have t1:((mode:Int)==1)=true:=by rw[a0];rfl
  have t2:((mode:Int)==2)=false:=by rw[a0];rfl
  have t3:((mode:Int)==3)=false:=by rw[a0];rfl
  have t4:((mode:Int)==4)=false:=by rw[a0];rfl
  have c0:decide (0<=c)=true:=decide_eq_true hc;have a3:Hid (q2p neg mode N D=true):=vv (by rw[a1.o,a0];exact c0);clear hc;clear a0 hm a6;have a2:=vv (H2.o H0.o a3.o);go_wp2_with fail
  refine(B.NewInt 1 _ (by omega) (by omega)).mono ?_;rintro e w9 ⟨g9,rfl,c2,a4,a5⟩;have a9:=vv a4;have b0:=vv a5;clear a4 a5;go_wp2_with fail
  refine(a7.o _ _ b0.o a9.o).mono ?_;rintro e w10 ⟨rfl,hI,hB⟩;have HI:=vv hI;have b1:=vv hB;clear hI hB;go_wp2;go_ret
  exact⟨_,rfl,lr,by rw[a2.o];exact HI.o,b1.o⟩
 ·
  have t0:((mode:Int)==0)=false:=by rw[a0];rfl
  have t1:((mode:Int)==1)=true:=by rw[a0];rfl
  have t2:((mode:Int)==2)=false:=by rw[a0];rfl
  have t3:((mode:Int)==3)=false:=by rw[a0];rfl
  have t4:((mode:Int)==4)=false:=by rw[a0];rfl
  have c0:decide (0<=c)=false:=decide_eq_false (by omega);have a3:Hid (q2p neg mode N D=false):=vv (by rw[a1.o,a0];exact c0);clear hc;clear a0 hm a6;have a2:=vv (H3.o H0.o a3.o);go_wp2;go_ret
  exact⟨_,rfl,lr,by rw[a2.o];exact a8.o,b2.o⟩
 ·
  have t0:((mode:Int)==0)=false:=by rw[a0];rfl
  have t1:((mode:Int)==1)=false:=by rw[a0];rfl
  have t2:((mode:Int)==2)=true:=by rw[a0];rfl
  have t3:((mode:Int)==3)=false:=by rw[a0];rfl
  have t4:((mode:Int)==4)=false:=by rw[a0];rfl
  have a3:Hid (q2p neg mode N D=false):=vv (by rw[a1.o,a0];rfl);clear a0 hm a6;have a2:=vv (H3.o H0.o a3.o);go_wp2;go_ret
  exact⟨_,rfl,lr,by rw[a2.o];exact a8.o,b2.o⟩
 ·cases neg
  ·
   have t0:((mode:Int)==0)=false:=by rw[a0];rfl
   have t1:((mode:Int)==1)=false:=by rw[a0];rfl
   have t2:((mode:Int)==2)=false:=by rw[a0];rfl
   have t3:((mode:Int)==3)=true:=by rw[a0];rfl
   have t4:((mode:Int)==4)=false:=by rw[a0];rfl
   have a3:Hid (q2p _ mode N D=true):=vv (by rw[a1.o,a0];rfl);clear a0 hm a6;have a2:=vv (H2.o H0.o a3.o);go_wp2_with fail
   refine(B.NewInt 1 _ (by omega) (by omega)).mono ?_;rintro e w9 ⟨g9,rfl,c2,a4,a5⟩;have a9:=vv a4;have b0:=vv a5;clear a4 a5;go_wp2_with fail
   refine(a7.o _ _ b0.o a9.o).mono ?_;rintro e w10 ⟨rfl,hI,hB⟩;have HI:=vv hI;have b1:=vv hB;clear hI hB;go_wp2;go_ret
   exact⟨_,rfl,lr,by rw[a2.o];exact HI.o,b1.o⟩
  ·
   have t0:((mode:Int)==0)=false:=by rw[a0];rfl
   have t1:((mode:Int)==1)=false:=by rw[a0];rfl
   have t2:((mode:Int)==2)=false:=by rw[a0];rfl
   have t3:((mode:Int)==3)=true:=by rw[a0];rfl
   have t4:((mode:Int)==4)=false:=by rw[a0];rfl
   have a3:Hid (q2p _ mode N D=false):=vv (by rw[a1.o,a0];rfl);clear a0 hm a6;have a2:=vv (H3.o H0.o a3.o);go_wp2;go_ret
   exact⟨_,rfl,lr,by rw[a2.o];exact a8.o,b2.o⟩
 ·cases neg
  ·
   have t0:((mode:Int)==0)=false:=by rw[a0];rfl
   have t1:((mode:Int)==1)=false:=by rw[a0];rfl
   have t2:((mode:Int)==2)=false:=by rw[a0];rfl
   have t3:((mode:Int)==3)=false:=by rw[a0];rfl
   have t4:((mode:Int)==4)=true:=by rw[a0];rfl
   have a3:Hid (q2p _ mode N D=false):=vv (by rw[a1.o,a0];rfl);clear a0 hm a6;have a2:=vv (H3.o H0.o a3.o);go_wp2;go_ret
   exact⟨_,rfl,lr,by rw[a2.o];exact a8.o,b2.o⟩
  ·
   have t0:((mode:Int)==0)=false:=by rw[a0];rfl
   have t1:((mode:Int)==1)=false:=by rw[a0];rfl
   have t2:((mode:Int)==2)=false:=by rw[a0];rfl
   have t3:((mode:Int)==3)=false:=by rw[a0];rfl
   have t4:((mode:Int)==4)=true:=by rw[a0];rfl
   have a3:Hid (q2p _ mode N D=true):=vv (by rw[a1.o,a0];rfl);clear a0 hm a6;have a2:=vv (H2.o H0.o a3.o);go_wp2_with fail
   refine(B.NewInt 1 _ (by omega) (by omega)).mono ?_;rintro e w9 ⟨g9,rfl,c2,a4,a5⟩;have a9:=vv a4;have b0:=vv a5;clear a4 a5;go_wp2_with fail
   refine(a7.o _ _ b0.o a9.o).mono ?_;rintro e w10 ⟨rfl,hI,hB⟩;have HI:=vv hI;have b1:=vv hB;clear hI hB;go_wp2;go_ret
   exact⟨_,rfl,lr,by rw[a2.o];exact HI.o,b1.o⟩
theorem q3T(g a b:Nat)(neg:Bool)(mode:Nat)(w:World)(hx:RatAt w g (a:Int) b)(sa:Sm a)(sb:Sm b)(hst:Std w)(hm:mode<=4):
  Calls Tryz.prog 168 #[.pointer (some ⟨g,0,none⟩),.bool neg,.int .u8 (mode:Int)] w (q0Z ((rnd neg mode a b:Nat):Int) w):=by
 have hb:=hx.pos;rw[q6r hb (q1m (p:=(a:Int)) hb) (q3J hb)];exact q8B g _ _ neg mode w (RatAt.kept hx) (fun w' hw=>q9z g a b w' (hx.below hw)) (fun w' hw=>B.Denom g _ _ w' (hx.below hw)) (sa.mono (q3F _ _)) (sb.mono (q3G _ _)) hst hm
end Go.Proofs.YtcdimmblnbkjjaaGreatDoor.R5
