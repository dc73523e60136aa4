/- Lemmas. -/
import Derived.Test.YtcdimmblnbkjjaaGreatDoorPartAP
import Derived.Test.YtcdimmblnbkjjaaGreatDoorPartAJ
import Derived.Test.YtcdimmblnbkjjaaGreatDoorPartAB
import Derived.Deep.RegionHeld3
set_option linter.all false
set_option maxRecDepth 100000
namespace Go.Proofs.YtcdimmblnbkjjaaGreatDoor.B
open Go Go.RowKit
def q3t(q r:Nat)(w:World)(e:Ending)(w':World):Prop:=
 ∃A m c A' m' c',e=.returned (.tuple #[.slice A m c,.slice A' m' c'])/\Rd w' A m c (toL q)/\Rd w' A' m' c' (toL r)/\Fr w.heap.size A/\Fr w.heap.size A'/\Below w.heap.size w w'
end Go.Proofs.YtcdimmblnbkjjaaGreatDoor.B
namespace Go.Proofs.YtcdimmblnbkjjaaGreatDoor.A
open Go Go.RowKit
def q3t(q r:Nat)(w:World)(e:Ending)(w':World):Prop:=
 ∃A m c A' m' c',e=.returned (.tuple #[.slice A m c,.slice A' m' c'])/\Rd w' A m c (toL q)/\Rd w' A' m' c' (toL r)/\Fr w.heap.size A/\Fr w.heap.size A'/\Below w.heap.size w w'
theorem q8C(A B:Option Addr)(n m c d a b:Nat)(w:World)(ha:Rd w A n c (toL a))(hb:Rd w B m d (toL b))(h:a<b):
  Calls Tryz.prog 247 #[.slice A n c,.slice B m d] w (q3t (a/b) (a%b) w):=by
 have t0:decide (q1G a b<0)=true:=by rw[q2c h];rfl
 have e1:a/b=0:=Nat.div_eq_of_lt h;have e2:a%b=a:=Nat.mod_eq_of_lt h;rw[e1,e2];have hc:Calls Tryz.prog 245 #[.slice A n c,.slice B m d] w fun e w'=>e=.returned (.int .i64 (q1G a b))/\Below w.heap.size w w':=by
  have:=q1l A B n m c d (toL a) (toL b) w ha hb (by rw[q03]) (by rw[q03]);rw[q03,q03] at this;exact this
 have HC:=vv hc;clear hc e1 e2;go_enter Tryz.func247,Tryz.ntmps247
 go_wp2_with fail
 refine HC.o.mono ?_;rintro e w1 ⟨rfl,a0⟩;have HA:=vv (ha.below a0 rfl);go_wp2_with fail
 refine(q1P _ _ _ _ _ HA.o).mono ?_;rintro e w2 ⟨rfl,hO,a1⟩;go_wp2;go_ret2
 exact⟨none,0,0,_,_,_,rfl,Rd.nil _,hO.rd HA.o.len.symm lr HA.o.sm,Fr.none_ _,Fr.at_ a0.size,a0.trans (a1.mono a0.size)⟩
theorem div_one(A B:Option Addr)(n c d a b:Nat)(w:World)(ha:Rd w A n c (toL a))(hb:Rd w B 1 d (toL b))(h:b<=a):
  Calls Tryz.prog 247 #[.slice A n c,.slice B 1 d] w (q3t (a/b) (a%b) w):=by
 have t0:decide (q1G a b<0)=false:=by simp only[decide_eq_false_iff_not];have:=q1Q.2 h;omega
 have hc:Calls Tryz.prog 245 #[.slice A n c,.slice B 1 d] w fun e w'=>e=.returned (.int .i64 (q1G a b))/\Below w.heap.size w w':=by
  have:=q1l A B n 1 c d (toL a) (toL b) w ha hb (by rw[q03]) (by rw[q03]);rw[q03,q03] at this;exact this
 have HC:=vv hc;have a3:words b=1:=hb.words;have a6:b<4294967296:=by have:=q0o b;rw[a3] at this;simpa using this
 have a7:0<b:=by
  rcases Nat.eq_zero_or_pos b with h0|h0
  ·subst h0;rw[q1r] at a3;omega
  ·exact h0
 have a8:nth (toL b) 0=b:=by rw[q0V];simp;omega
 obtain⟨g,off,rfl,b0,a0⟩:=hb.cell (by omega);have hx:=a0 0 (by omega);rw[Nat.add_zero,a8] at hx;clear hc a3 a8 a0;go_enter Tryz.func247,Tryz.ntmps247
 go_wp2_with fail
 refine HC.o.mono ?_;rintro e w1 ⟨rfl,a1⟩;have HA:=vv (ha.below a1 rfl);have b5:w1.cell? ⟨g,off,none⟩=some (.int .u32 (b:Int)):=(a1.cell (p:=⟨g,off,none⟩) b0).trans hx;go_wp2_with fail
 refine(q8D _ _ _ b _ _ HA.o a7 a6).mono ?_;rintro e w2 ⟨A2,m2,c2,rfl,a4,b1,b2⟩;rw[q03] at a4;rw[q03];have hr:a%b<4294967296:=Nat.lt_trans (Nat.mod_lt _ a7) a6;generalize hreq:a%b=r at *
 have a2:Own (w2.alloc (.cells #[.int .u32 (r:Int)] 34)) w2.heap.size 34 [r]:=Own.lit _ (q0B.2 ⟨hr,q11⟩) (by simp [q0w]);have a5:=vv (a1.trans (b2.mono a1.size));have b3:=vv (a5.o.alloc a5.o.size (.cells #[.int .u32 (r:Int)] 34));have b4:=vv (a4.below ((Below.refl _ w2).alloc lr (.cells #[.int .u32 (r:Int)] 34)) rfl);have HO:=vv a2;clear hreq a4 a2;go_wp2_with fail
 refine(q1T _ _ _ _ _ (HO.o.rd (n:=1) (c:=1) rfl lr (by omega))).mono ?_;rintro e w' ⟨m',rfl,rfl,a9⟩;rw[q3G] at a9;go_wp2;go_ret2
 exact⟨A2,m2,c2,_,m',1,rfl,b4.o,a9,b1.mono a1.size,Fr.at_ a5.o.size,b3.o⟩
set_option maxHeartbeats 400000 in
theorem q8B(A B:Option Addr)(n m c d a b:Nat)(w:World)(ha:Rd w A n c (toL a))(hb:Rd w B m d (toL b))(h:b<=a)(hm:2<=m)(hs:n<17592186044416):
  Calls Tryz.prog 247 #[.slice A n c,.slice B m d] w (q3t (a/b) (a%b) w):=by
 have t0:decide (q1G a b<0)=false:=by simp only[decide_eq_false_iff_not];have:=q1Q.2 h;omega
 have hc:Calls Tryz.prog 245 #[.slice A n c,.slice B m d] w fun e w'=>e=.returned (.int .i64 (q1G a b))/\Below w.heap.size w w':=by
  have:=q1l A B n m c d (toL a) (toL b) w ha hb (by rw[q03]) (by rw[q03]);rw[q03,q03] at this;exact this
 have HC:=vv hc;have b0:words b=m:=hb.words;have d8:words a=n:=ha.words;have e4:0<b:=by
  rcases Nat.eq_zero_or_pos b with h0|h0
  ·subst h0;rw[q1r] at b0;omega
  ·exact h0
 have j4:m<=n:=by rw[<- b0,<- d8];exact q2u h
 obtain⟨g,off,rfl,j5,a3⟩:=hb.cell (by omega);have hx:=a3 (m-1) (by omega);have j6:=hb.nth_lt (m-1);obtain⟨n1,n2,n3⟩:=q8b e4;rw[b0] at n1 n2 n3;have t1:((m:Int)==1)=false:=by simp;omega
 obtain⟨s,a5⟩:=yx (32-bl (nth (toL b) (m-1)));rw[<- a5] at n1 n2 n3;have b1:a*2^s<4294967296^(n+1):=by
  have h1:=q0o a;rw[d8] at h1;have h2:a*2^s<4294967296^n*2^s:=Nat.mul_lt_mul_of_pos_right h1 (Nat.two_pow_pos _);have h3:2^s<=2^32:=Nat.pow_le_pow_right (by omega) (by omega);have h4:4294967296^n*2^s<=4294967296^n*2^32:=Nat.mul_le_mul_left _ h3;rw[Nat.pow_succ];omega
 have e5:=vv b1;have e6:=vv a5;have e7:=vv n1;have f7:=vv n2;have j7:=vv (And.intro d8 b0);have HH:=vv h;clear hc b0 d8 a3 n1 n2 a5 b1 h;have j1:(0:Int)<=(m:Int)-1:=by omega
 have j2:(m:Int)-1<(m:Int):=by omega
 go_enter Tryz.func247,Tryz.ntmps247
 go_wp2_with fail
 refine HC.o.mono ?_;rintro e w1 ⟨rfl,b2⟩;have j8:=vv (ha.below b2 rfl);have j9:=vv (hb.below b2 rfl);have k0:w1.cell? ⟨g,off+(m-1),none⟩=some (.int .u32 ((nth (toL b) (m-1):Nat):Int)):=(b2.cell (p:=⟨g,off+(m-1),none⟩) j5).trans hx;have a4:=vv b2;clear b2 hx;go_wp2_with fail
 refine(qcf _ _ j6).mono ?_;rintro e w' ⟨rfl,rfl⟩;rw[<- e6.o];clear k0;go_wp2_with fail
 refine(up _ _ _ _ s _ rfl _ j9.o (by omega)).mono ?_;rw[q03];rintro e w2 ⟨A2,m2,c2,rfl,d9,f8,e8⟩;have k3:m2=m:=by rw[<- d9.words];exact e7.o
 subst k3;have b3:=d9.block_lt (by omega);have k4:=vv d9;have n8:=vv (f8.mono a4.o.size);have k5:=vv (j8.o.below e8 rfl);have a0:=vn a4 e8;have a6:=vv b3;clear d9 f8 e8 b3;have k6:=mk1 n (by omega);have e0:Below w2.heap.size w2 (w2.alloc (.cells (madeCells #[.int .u32 0] (n+1)) 34)):=(Below.refl _ _).alloc lr _;have f9:=vv (k5.o.below e0 rfl);have k7:=vv (k4.o.below e0 rfl);have g0:=vv (Own.made w2 (n+1) 34);have b4:=vn a0 e0;clear e0;have b5:(w2.alloc (.cells (madeCells #[.int .u32 0] (n+1)) 34)).heap.size=w2.heap.size+1:=World.size_alloc _ _;have b6:=vv b5;clear b5;go_wp2_with fail
 refine(up _ _ _ _ s _ rfl _ f9.o (by omega)).mono ?_;rw[q03];rintro e w4 ⟨A4,m4,c4,rfl,a8,k8,b7⟩;have k9:m4<=n+1:=a8.bound e5.o;have g1:=vv (g0.o.below b7 (by rw[b6.o];omega));have b8:=vv (k7.o.below b7 rfl);have b9:=vn b4 b7;have e9:Hid (w2.heap.size+1<=w4.heap.size):=vv (by have:=b7.size;rw[b6.o] at this;exact this);have H1:=vv g1.o.heap;have g2:=vv a8;have c0:Hid ((q0w (toL (a*2^s))).length=Nat.min m4 (n+1)):=vv (by
  have:=a8.len;have e:(q0w (toL (a*2^s))).length=m4:=by simpa [q0w] using this
  rw[e];exact(Nat.min_eq_left k9).symm)
 have c1:Hid (0+(q0w (toL (a*2^s))).length<=(q0w (List.replicate (n+1) 0)).length):=vv (by
  have:=a8.len;simp only[q0w,List.length_map,List.length_replicate];omega)
 have Hs:Hid ((Tryz.prog.info? 34).map (·.size)=some 1):=vv (by kernel_rfl);have g3:=vv a8.len;clear a8 k8 b7 k6;go_wp2_with ((with_reducible refine wpList_copy_splice (o:=⟨some 53,_,_,_,_,_⟩) rfl _ _ 26 26 rfl 34 Tryz.underlying26 Hs.o _ _ (n+1) (n+1) m4 c4 rfl rfl w2.heap.size 0 _ 34 H1.o (q0w (toL (a*2^s))) c0.o (g2.o.copyPos rfl) c1.o (q3S _) w2.heap.size w4 (Below.refl _ _) lr ?_))
 intro w5 hh e1;have g4:Hid (Own w5 w2.heap.size 34 (toL (a*2^s)++List.replicate (n+1-m4) 0)):=vv (by
  refine Own.of_heap ?_ (q1Z.2 ⟨q1B _,q1C _⟩);have:=hh.o;have e:splice (q0w (List.replicate (n+1) 0)) 0 (q0w (toL (a*2^s)))=q0w (toL (a*2^s)++List.replicate (n+1-m4) 0):=by
   unfold splice q0w;rw[List.take_zero,List.nil_append,List.map_append,Nat.zero_add,List.length_map,g3.o,<- List.map_drop,List.drop_replicate]
  rw[e] at this;exact this)
 have l0:=vv (b8.o.below' e1 a6.o);have c3:=vv (b9.o.trans (e1.mono a0.o.size));have a2:Hid (w2.heap.size+1<=w5.heap.size):=vv (Nat.le_trans e9.o e1.size);have g5:Hid (val (toL (a*2^s)++List.replicate (n+1-m4) 0)=a*2^s):=vv (by rw[q2N,q03]);have l1:Hid ((toL (a*2^s)++List.replicate (n+1-m4) 0).length=n+1):=vv (by rw[List.length_append,g3.o,List.length_replicate];omega);clear hh e1 b8 f9 g1 g0 H1 g2 c0 c1;generalize toL (a*2^s)++List.replicate (n+1-m4) 0=U0 at *
 have c5:=mk1 (n-m2) (by omega);have ec:((n-m2:Nat):Int)=(n:Int)-(m2:Int):=by omega
 rw[ec] at c5;clear ec;have l2:=vv (g4.o.alloc (.cells (madeCells #[.int .u32 0] (n-m2+1)) 34));have l3:=vv (Own.made w5 (n-m2+1) 34);have a7:Below w5.heap.size w5 (w5.alloc (.cells (madeCells #[.int .u32 0] (n-m2+1)) 34)):=(Below.refl _ _).alloc lr _;have l4:=vv (l0.o.below a7 rfl);have c6:=vn c3 a7;have n9:Hid ((w5.alloc (.cells (madeCells #[.int .u32 0] (n-m2+1)) 34)).heap.size=w5.heap.size+1):=vv (World.size_alloc _ _);clear a7;have l5:Hid (val (U0.drop (n-m2+1))<b*2^s):=vv (q7s g4.o.2 g5.o (by have:=q0o a;rw[j7.o.1] at this;exact this) n3 j4 (by omega) f7.o);have g6:Hid (∀a,A2=some a->a.block≠w2.heap.size):=vv fun a e=>by have:=a6.o a e;omega
 have l6:Hid (∀a,A2=some a->a.block≠w5.heap.size):=vv fun a e=>by have:=a6.o a e;have:=a2.o;omega
 have g7:w2.heap.size≠w5.heap.size:=by have:=a2.o;omega
 have f0:=vv g7;have c8:Hid (w.heap.size<=w2.heap.size):=vv a0.o.size;clear g7;go_wp2;go_loopw [13] (fun z wx=>∃(k:Nat) (i:Int) (U Q:List Nat),z=.int .i64 i/\i+1=k/\k<=n-m2+1/\U.length=n+1/\Q.length=n-m2+1/\Own wx w2.heap.size 34 U/\Own wx w5.heap.size 34 Q /\
   Rd wx A2 m2 c2 (toL (b*2^s))/\val (U.drop k)<b*2^s/\a*2^s=val U+b*2^s*(4294967296^k*val (Q.drop k))/\Below w.heap.size w wx) (fun z _=>(intOf z+1).toNat)
 case atStart =>
  refine⟨n-m2+1,_,U0,List.replicate (n-m2+1) 0,rfl,by omega,lr,l1.o,by simp,l2.o,l3.o,l4.o,l5.o,?_,c6.o⟩;rw[g5.o,List.drop_of_length_le (by rw[List.length_replicate];exact lr),q4M,Nat.mul_zero,Nat.mul_zero,Nat.add_zero]
 case round =>
  clear c5;obtain⟨k,i,U,Q,rfl,hi,hk,g8,g9,i0,a9,i1,i2,c9,d0⟩:=hrel;have d1:=vv i0;have e2:=vv a9;have i3:=vv i1;have i4:=vv i2;have d2:=vv c9;have d3:=vv g8;have d4:=vv g9;have a1:=vv d0;clear i0 i1 i2 c9 g8 g9 d0;rcases Nat.eq_zero_or_pos k with rfl|l7
  ·obtain rfl:i = -1:=by omega
   clear hi;have f1:=d2.o;rw[Nat.pow_zero,Nat.one_mul,List.drop_zero] at f1;have e3:=i4.o;rw[List.drop_zero] at e3;obtain⟨hq,hr⟩:=qa1 e4 f1 e3;have i5:val (U.take m2)=val U:=by
    have h1:=q0o (b*2^s);rw[e7.o] at h1;rw[<- q30 d1.o.2,Nat.mod_eq_of_lt (Nat.lt_trans e3 h1)]
   have l8:=vv hq;have l9:=vv hr;have m0:=vv i5;have m1:=vv (a9.rd (n:=n-m2+1) (c:=n-m2+1) d4.o.symm lr (by omega)).drew;have m3:=vv ((d1.o.rd (n:=n+1) (c:=n+1) d3.o.symm lr (by omega)).take (k:=m2) (by omega)).drew;clear f1 e3 hq hr i5 a9;have k1:(m2:Int)<=(n:Int)+1:=by omega
   have k2:(0:Int)<=(m2:Int):=by omega
   go_wp2_with fail
   go_region_held3 (fun _=>True) (trivial) (first
    | (go_at_call 144;(with_reducible refine(q1T _ _ _ _ _ m1.o).mono ?_);rintro e w' ⟨mq,rfl,rfl,i6⟩)
    | (go_at_call 144;(with_reducible refine(q1T _ _ _ _ _ m3.o).mono ?_);rintro e w' ⟨mr,rfl,rfl,m5⟩)
    | (go_at_call 267;(with_reducible refine(qbg _ _ _ _ s _ rfl _ m5 (by omega)).mono ?_);rintro e w7 ⟨A7,n7,c7,rfl,i7,m6,i8⟩))
   go_wp2;go_ret2
   rw[l8.o] at i6;rw[m0.o,q03,l9.o] at i7;refine⟨_,mq,_,A7,n7,c7,rfl,i6.below i8 rfl,i7,Fr.at_ ?_,m6.mono ?_,a1.o.drew.trans (i8.mono ?_)⟩
   ·exact Nat.le_trans c8.o (Nat.le_of_succ_le a2.o)
   ·exact a1.o.size
   ·exact a1.o.size
  ·obtain⟨j,rfl⟩:∃j,k=j+1:=⟨k-1,by omega⟩;obtain rfl:i=(j:Int):=by omega
   clear hi;have i9:=a9.cell (i:=j) (by rw[d4.o];omega);have m7:=a9.frozen j;clear a9;have WIN:=vv (qap (n:=m2) d1.o.2 (by
    have:=q0o (b*2^s);rw[e7.o] at this;exact Nat.le_of_lt this) i4.o)
   have j0:=vv (qb5 w2.heap.size j m2 (n+1-j) U A2 c2 (toL (b*2^s)) wr hm i3.o f7.o d1.o (by rw[d3.o];omega) (by omega) (by rw[d3.o];omega) g6.o (by rw[q03];exact WIN.o.2));go_wp2_with fail
   rw[show j+m2+1-j=m2+1 by omega];refine j0.o.mono ?_;rintro e w6 ⟨rfl,⟨V,f2,f3,j3,f4⟩,hG⟩;rw[q03] at f4;have d5:val ((U.drop j).take (m2+1))/val (toL (b*2^s))<4294967296:=by
    rw[q03];exact Nat.div_lt_of_lt_mul (by rw[Nat.mul_comm];exact WIN.o.2)
   have STP:=vv (q8A d1.o.2 f2.2 f3 (by rw[d3.o];omega) (fun p hp=>j3 p hp) WIN.o.1 f4);have m8:=vv f2;have m9:=vv (f3.trans d3.o);have n0:w6.cell? ⟨w5.heap.size,j,none⟩=some (.int .u32 ((nth Q j:Nat):Int)):=(q0y hG (p:=⟨w5.heap.size,j,none⟩) e2.o.lt (fun e=>f0.o e.symm)).trans i9;have d6:Hid (Own w6 w5.heap.size 34 Q):=vv ⟨e2.o.1.of_block (hG.block _ e2.o.lt (fun e=>f0.o (by injection e with e;exact e.symm))),e2.o.2⟩;have n4:=d6.o.frozen j;have f5:=vv (i3.o.only hG g6.o);have d7:=vv (q0a a1.o hG a1.o.size c8.o);have f6:=vv d5;have INV:=vv (qa0 (Q:=Q) (by rw[d4.o];omega) d2.o STP.o.1);have n5:Hid (0<b*2^s):=vv (Nat.mul_pos e4 (Nat.two_pow_pos _));have n6:Hid (val ((U.drop j).take (m2+1))/val (toL (b*2^s))=val ((U.drop j).take (m2+1))/(b*2^s)):=vv (by rw[q03]);clear f4 d5 f2 f3 j3 hG i9 m7 j0;generalize val ((U.drop j).take (m2+1))/val (toL (b*2^s))=x at *
   go_wp2;go_roundw
   case rel =>
    refine⟨j,_,V,Q.set j x,rfl,by omega,by omega,m9.o,by rw[List.length_set];exact d4.o,m8.o.setOther f0.o _,d6.o.set (by rw[d4.o];omega) f6.o rfl,?_,?_,?_,d7.o.setCell (show w.heap.size<=w5.heap.size from Nat.le_trans a0.o.size (Nat.le_of_succ_le a2.o)) _⟩
    ·exact f5.o.only (g:=w5.heap.size) (q07 (World.grownBy.refl _ _) (.inl rfl) _) l6.o
    ·rw[STP.o.2];exact Nat.mod_lt _ n5.o
    ·rw[n6.o];exact INV.o
   case measure=>simp [intOf]
end Go.Proofs.YtcdimmblnbkjjaaGreatDoor.A
