/- Lemmas. -/
import Derived.Test.YtcdimmblnbkjjaaGreatDoorPartAS
import Derived.Test.YtcdimmblnbkjjaaGreatDoorPartAB
import Derived.Deep.LoopGhost
set_option linter.all false
set_option maxRecDepth 100000
namespace Go.Proofs.YtcdimmblnbkjjaaGreatDoor.B
open Go Go.RowKit
def qc1(a b:Nat)(w0:World)(s0 s1:Value)(wx:World):Prop:=
 ∃(A:Option Addr) (n c x:Nat) (B:Option Addr) (m d y:Nat),s0=.slice A n c/\s1=.slice B m d/\Rd wx A n c (toL x)/\Rd wx B m d (toL y)/\y<=x/\Nat.gcd x y=Nat.gcd a b/\n<549755813888/\Below w0.heap.size w0 wx/\Std wx
end Go.Proofs.YtcdimmblnbkjjaaGreatDoor.B
namespace Go.Proofs.YtcdimmblnbkjjaaGreatDoor.A
open Go Go.RowKit
theorem two_words{N:Nat}(h:N<4294967296^2):nth (toL N) 0+4294967296*nth (toL N) 1=N:=by
 rw[q0V,q0V,Nat.pow_zero,Nat.pow_one];rw[show(4294967296:Nat)^2=18446744073709551616 by rfl] at h;omega
def qc1(a b:Nat)(w0:World)(s0 s1:Value)(wx:World):Prop:=
 ∃(A:Option Addr) (n c x:Nat) (B:Option Addr) (m d y:Nat),s0=.slice A n c/\s1=.slice B m d/\Rd wx A n c (toL x)/\Rd wx B m d (toL y)/\y<=x/\Nat.gcd x y=Nat.gcd a b/\n<549755813888/\Below w0.heap.size w0 wx/\Std wx
set_option maxHeartbeats 1000000 in
theorem qb6(A B:Option Addr)(n m c d a b:Nat)(w:World)(ha:Rd w A n c (toL a))(hb:Rd w B m d (toL b))(hs:Std w)(hn:n<549755813888)(hm:m<549755813888):
  Calls Tryz.prog 279 #[.slice A n c,.slice B m d] w (q0e (Nat.gcd a b) w):=by
 have hc:Calls Tryz.prog 245 #[.slice A n c,.slice B m d] w fun e w'=>e=.returned (.int .i64 (q1G a b))/\Below w.heap.size w w':=by
  have:=q1l A B n m c d (toL a) (toL b) w ha hb (by rw[q03]) (by rw[q03]);rw[q03,q03] at this;exact this
 have HC:=vv hc;have HA:=vv ha;have HB:=vv hb;have HS:=vv hs;clear hc ha hb hs;go_enter Tryz.func279,Tryz.ntmps279
 go_wp2_with fail
 refine HC.o.mono ?_;rintro e w1 ⟨rfl,d5⟩;have f8:=vv (HA.o.below d5 rfl);have f9:=vv (HB.o.below d5 rfl);have g0:=vv d5;have g1:=vv (HS.o.below d5);clear d5;go_upto_if 25 with fail
 go_cut [0,1] (fun s0 s1 wx=>qc1 a b w s0 s1 wx)
 case first =>
  rcases Nat.lt_or_ge a b with h|h
  ·have t0:q1G a b<0:=by rw[q2c h];omega
   go_wp2;go_meet
   case rel=>exact⟨B,m,d,b,A,n,c,a,rfl,rfl,f9.o,f8.o,Nat.le_of_lt h,Nat.gcd_comm b a,hm,g0.o,g1.o⟩
  ·have t0:0<=q1G a b:=q1Q.2 h;go_wp2;go_meet
   case rel=>exact⟨A,n,c,a,B,m,d,b,rfl,rfl,f8.o,f9.o,h,rfl,hn,g0.o,g1.o⟩
 case rest =>
  obtain⟨A1,n1,c1,x,B1,m1,d1,y,rfl,rfl,hA,hB,b5,hg,g2,a8,a9⟩:=hcut;have a1:=vv hA;have a3:=vv hB;have HG:=vv hg;have a0:=vv a8;have b0:=vv a9;have j0:m1<=n1:=hB.le_of hA b5;have f0:m1=0↔y=0:=by rw[<- hB.words];exact q0c
  have f1:n1=0↔x=0:=by rw[<- hA.words];exact q0c
  clear HC HA HB HS f8 f9 g0 g1 hA hB hg a8 a9;obtain⟨w2,rfl⟩:∃w2:World,w2=wc:=⟨_,rfl⟩;rcases Nat.eq_zero_or_pos y with a4|a4
  ·obtain rfl:m1=0:=f0.2 a4;have HY:=vv a4;clear a4 f0;have c0:Hid (x=Nat.gcd a b):=vv (by rw[<- HG.o,HY.o,Nat.gcd_zero_right]);have f2:=vv (q1P A1 n1 c1 (toL x) w2 a1.o);clear b5;have d6:n1=0\/(0<n1/\0<x):=by
    rcases Nat.eq_zero_or_pos n1 with h|h
    ·exact .inl h
    ·exact .inr ⟨h,Nat.pos_of_ne_zero fun e=>by have:=f1.2 e;omega⟩
   clear f1;rcases d6 with rfl|⟨d7,b6⟩
   ·go_wp2_with fail
    go_loopg [0,1] 0 (fun k s0 s1 wx=>s0=.slice A1 0 c1/\s1=.slice B1 0 d1/\wx=w2)
    case atStart=>exact⟨rfl,rfl,rfl⟩
    case round =>
     obtain⟨rfl,rfl,rfl⟩:=hrel;go_wp2_with fail
     refine f2.o.mono ?_;rintro e w3 ⟨rfl,hO,a2⟩;have d8:=vv hO;clear hO;go_wp2;go_ret
     refine⟨_,0,0,rfl,?_,Fr.at_ a0.o.size,a0.o.trans (a2.mono a0.o.size)⟩;rw[<- c0.o];exact d8.o.rd a1.o.len.symm lr a1.o.sm
   ·have d9:=vv (q13 _ _ _ _ w2 a1.o b6 b0.o);have a6:=vv (bitLen _ _ _ _ w2 a1.o);have b2:bl x<=17592186044416:=by
     have:x<2^(32*n1):=by
      have:=q0o x;rw[a1.o.words] at this
      rwa [Nat.pow_mul]
     have:=q1F this;omega
    have b4:=q1S b6;have hq:((((tz x:Nat):Int)+1)==((bl x:Nat):Int))=true\/((((tz x:Nat):Int)+1)==((bl x:Nat):Int))=false:=by
     cases((((tz x:Nat):Int)+1)==((bl x:Nat):Int))
     ·exact .inr rfl
     ·exact .inl rfl
    rcases hq with hq|hq;all_goals
     go_wp2_with (first
      | (go_at_call 266;(with_reducible refine d9.o.mono ?_);rintro e w' ⟨rfl,rfl⟩)
      | (go_at_call 95;(with_reducible refine a6.o.mono ?_);rintro e w' ⟨rfl,rfl⟩))
     go_loopg [0,1] 0 (fun k s0 s1 wx=>s0=.slice A1 n1 c1/\s1=.slice B1 0 d1/\wx=w2)
     case atStart=>exact⟨rfl,rfl,rfl⟩
     case round =>
      obtain⟨rfl,rfl,rfl⟩:=hrel;go_wp2_with fail
      refine f2.o.mono ?_;rintro e w3 ⟨rfl,hO,a2⟩;have d8:=vv hO;clear hO;go_wp2;go_ret
      refine⟨_,n1,n1,rfl,?_,Fr.at_ a0.o.size,a0.o.trans (a2.mono a0.o.size)⟩;rw[<- c0.o];exact d8.o.rd a1.o.len.symm lr a1.o.sm
  ·have g3:0<m1:=Nat.pos_of_ne_zero fun e=>by have:=f0.1 e;omega
   have b6:0<x:=Nat.lt_of_lt_of_le a4 b5;have d7:0<n1:=Nat.pos_of_ne_zero fun e=>by have:=f1.1 e;omega
   clear f0 f1;have j1:=vv (q13 _ _ _ _ w2 a3.o a4 b0.o);have c8:=vv (bitLen _ _ _ _ w2 a3.o);have d9:=vv (q13 _ _ _ _ w2 a1.o b6 b0.o);have a6:=vv (bitLen _ _ _ _ w2 a1.o);have b1:bl y<=17592186044416:=by
    have:y<2^(32*m1):=by
     have:=q0o y;rw[a3.o.words] at this
     rwa [Nat.pow_mul]
    have:=q1F this;omega
   have b2:bl x<=17592186044416:=by
    have:x<2^(32*n1):=by
     have:=q0o x;rw[a1.o.words] at this
     rwa [Nat.pow_mul]
    have:=q1F this;omega
   have b3:=q1S a4;have b4:=q1S b6;go_upto_if 38 with (first
    | (go_at_call 266;(with_reducible refine j1.o.mono ?_);rintro e w' ⟨rfl,rfl⟩)
    | (go_at_call 95;(with_reducible refine c8.o.mono ?_);rintro e w' ⟨rfl,rfl⟩))
   have c9:Below w2.heap.size w2 (w2.alloc (.cells #[.int .u32 1] 34)):=(Below.refl _ _).alloc lr _;have e0:Own (w2.alloc (.cells #[.int .u32 1] 34)) w2.heap.size 34 [1]:=Own.lit _ (q0B.2 ⟨by omega,q11⟩) (by simp [q0w]);have g4:=vv (e0.rd (n:=1) (c:=1) rfl lr (by omega));have c5:=vv c9;have c6:=vv (q13 _ _ _ _ _ (a3.o.below c9 rfl) a4 (b0.o.below c9));have c7:=vv (q13 _ _ _ _ _ (a1.o.below c9 rfl) b6 (b0.o.below c9));clear c9 e0;by_cases hq:tz y+1=bl y
   ·have j2:((tz y:Nat):Int)+1=((bl y:Nat):Int):=by omega
    have g5:=vv (q3i b6 a4 hq);clear hq;have em:min ((tz x:Nat):Int) ((tz y:Nat):Int)=((min (tz x) (tz y):Nat):Int):=by omega
    go_wp2_with (first
     | (go_at_call 266;(with_reducible refine c6.o.mono ?_);rintro e w' ⟨rfl,rfl⟩)
     | (go_at_call 266;(with_reducible refine c7.o.mono ?_);rintro e w' ⟨rfl,rfl⟩))
    refine(up _ _ _ _ (min (tz x) (tz y)) _ rfl _ g4.o (by omega)).mono ?_;rintro e w3 ⟨A3,m3,c3,rfl,a5,c2,a2⟩;go_wp2;go_ret
    refine⟨A3,m3,c3,rfl,?_,c2.mono ?_,a0.o.trans ((c5.o.trans (a2.mono c5.o.size)).mono a0.o.size)⟩
    ·rw[<- HG.o,g5.o];exact a5
    ·exact Nat.le_trans a0.o.size c5.o.size
   ·have j2:((((tz y:Nat):Int)+1)==((bl y:Nat):Int))=false:=by simp;omega
    clear hq;by_cases hq:tz x+1=bl x
    ·have j3:((tz x:Nat):Int)+1=((bl x:Nat):Int):=by omega
     have g5:Hid (Nat.gcd x y=1*2^min (tz x) (tz y)):=vv (by rw[Nat.gcd_comm,Nat.min_comm];exact q3i a4 b6 hq);clear hq;have em:min ((tz x:Nat):Int) ((tz y:Nat):Int)=((min (tz x) (tz y):Nat):Int):=by omega
     go_upto_if 61 with (first
      | (go_at_call 266;(with_reducible refine d9.o.mono ?_);rintro e w' ⟨rfl,rfl⟩)
      | (go_at_call 95;(with_reducible refine a6.o.mono ?_);rintro e w' ⟨rfl,rfl⟩))
     go_wp2_with (first
      | (go_at_call 266;(with_reducible refine c6.o.mono ?_);rintro e w' ⟨rfl,rfl⟩)
      | (go_at_call 266;(with_reducible refine c7.o.mono ?_);rintro e w' ⟨rfl,rfl⟩))
     refine(up _ _ _ _ (min (tz x) (tz y)) _ rfl _ g4.o (by omega)).mono ?_;rintro e w3 ⟨A3,m3,c3,rfl,a5,c2,a2⟩;go_wp2;go_ret
     refine⟨A3,m3,c3,rfl,?_,c2.mono ?_,a0.o.trans ((c5.o.trans (a2.mono c5.o.size)).mono a0.o.size)⟩
     ·rw[<- HG.o,g5.o];exact a5
     ·exact Nat.le_trans a0.o.size c5.o.size
    ·have j3:((((tz x:Nat):Int)+1)==((bl x:Nat):Int))=false:=by simp;omega
     clear hq;go_wp2_with (first
      | (go_at_call 266;(with_reducible refine d9.o.mono ?_);rintro e w' ⟨rfl,rfl⟩)
      | (go_at_call 95;(with_reducible refine a6.o.mono ?_);rintro e w' ⟨rfl,rfl⟩))
     clear j2 j3 j1 c8 d9 a6 c6 c7 g4 c5 b1 b2 b3 b4;have HX:=vv b5;clear b5 j0 b6 a4 g3 d7;go_loopg [0,1] (x+y) (fun k s0 s1 wx=>∃(A:Option Addr) (n c x:Nat) (B:Option Addr) (m d y:Nat),s0=.slice A n c/\s1=.slice B m d/\Rd wx A n c (toL x)/\Rd wx B m d (toL y)/\y<=x/\Nat.gcd x y=Nat.gcd a b/\n<549755813888/\Below w.heap.size w wx/\Std wx/\x+y<=k)
     case atStart=>exact⟨A1,n1,c1,x,B1,m1,d1,y,rfl,rfl,a1.o,a3.o,HX.o,HG.o,g2,a0.o,b0.o,lr⟩
     case round =>
      clear a1 a3 HG a0 b0 HX g2;obtain⟨A1,n1,c1,x,B1,m1,d1,y,rfl,rfl,hA,hB,b5,hg,g2,a8,a9,hk⟩:=hrel;have a1:=vv hA;have a3:=vv hB;have HG:=vv hg;have a0:=vv a8;have b0:=vv a9;have j0:m1<=n1:=hB.le_of hA b5;clear hA hB hg a8 a9;obtain⟨w2,rfl⟩:∃w2:World,w2=wr:=⟨_,rfl⟩;by_cases hm2:2<m1
      ·have e2:18446744073709551616<=y:=by
        apply Nat.le_of_not_lt
        intro hc;have:=a3.o.bound (k:=2) (by rw[show(4294967296:Nat)^2=18446744073709551616 by rfl];exact hc);omega
       have g6:64<bl x:=by
        apply Nat.lt_of_not_le
        intro hc;have h1:=q20 x;have h2:2^bl x<=2^64:=Nat.pow_le_pow_right (by omega) hc;omega
       have e3:bl x<=17592186044416:=by
        have h1:x<2^(32*n1):=by
         have:=q0o x;rw[a1.o.words] at this
         rwa [Nat.pow_mul]
        have:=q1F h1;omega
       obtain⟨e,he⟩:=yx (bl x-60);have n0:((bl x:Nat):Int)-60=(e:Int):=by omega
       have b7:x<2^(e+60):=by rw[he,show bl x-60+60=bl x by omega];exact q20 x
       have g7:x/2^e<1152921504606846976:=by
        apply Nat.div_lt_of_lt_mul
        rw[show(1152921504606846976:Nat)=2^60 by rfl,<- Nat.pow_add];exact b7
       have a6:=vv (bitLen _ _ _ _ w2 a1.o);have j4:=vv (q6v A1 n1 c1 x e (e:Int) rfl w2 a1.o (by omega) b7);have e4:=vv (q6v B1 m1 d1 y e (e:Int) rfl w2 a3.o (by omega) (Nat.lt_of_le_of_lt b5 b7));have j5:=vv (q4u b5 g7);have j6:=vv g7;have g8:=vv e2;have e5:=vv b5;have n2:e<=17592186044416:=by omega
       clear he b7 g6 e3 g7 e2;go_wp2_with (first
        | (go_at_call 95;(with_reducible refine a6.o.mono ?_);rintro e' w' ⟨rfl,rfl⟩)
        | (go_at_call 297;(with_reducible refine j4.o.mono ?_);rintro e' w' ⟨rfl,rfl⟩)
        | (go_at_call 297;(with_reducible refine e4.o.mono ?_);rintro e' w' ⟨rfl,rfl⟩))
       go_loopg [6,7,8,9,10,11,12,13,14] (y/2^e) (fun k s6 s7 s8 s9 s10 s11 s12 s13 s14 wx=>∃(p q u0 u1 u2 v0 v1 v2:Nat) (ev:Bool),s6=.int .u64 p/\s7=.int .u64 q/\s8=.int .u64 u0/\s9=.int .u64 u1/\s10=.int .u64 u2/\s11=.int .u64 v0/\s12=.int .u64 v1/\s13=.int .u64 v2/\s14=.bool ev /\
        wx=w2/\Lehmer x y e p q u1 u2 v1 v2 ev/\v2<=2305843009213693952/\((v0=0/\u0<=1)\/∃A B,Good x y u0 u1 v0 v1 ev A B)/\q<=k)
       case atStart=>exact⟨x/2^e,y/2^e,0,1,0,0,0,1,false,rfl,rfl,rfl,rfl,rfl,rfl,rfl,rfl,rfl,rfl,j5.o,by omega,.inl ⟨rfl,by omega⟩,lr⟩
       case round =>
        obtain⟨p,q,u0,u1,u2,v0,v1,v2,ev,rfl,rfl,rfl,rfl,rfl,rfl,rfl,rfl,rfl,rfl,hL,n3,j7,j8⟩:=hrel;have HL:=vv hL;have l1:=hL.hu1;have l2:=hL.hu2;have l3:=hL.hs;have l4:=hL.hv;have l5:=hL.h1;have l6:=hL.hxy;have l7:=hL.hx;have g9:=vv j7;clear hL j7 a6 j4 e4 j5;by_cases hc:v2<=q/\v1+v2<=p-q
        ·obtain⟨b8,f3⟩:=hc;have i0:=vv (q2G HL.o j6.o b8);have l8:=i0.o;have i1:((q:Int)==0)=false:=by simp;omega
         have HN:=vv (q51 HL.o b8);have l9:Hid (p-p/q*q<q):=vv (by
          have h1:=Nat.mod_lt p (show 0<q by omega);have e1:=Nat.mod_add_div p q;rw[Nat.mul_comm] at e1;omega)
         have m0:Hid ((v1=0/\u1<=1)\/∃A B,Good x y u1 u2 v1 v2 (!ev) A B):=vv (by
          rcases Nat.eq_zero_or_pos v1 with h|h
          ·left
           refine⟨h,?_⟩;have hd:=HL.o.det;have h1:=HL.o.hs;have h2:=HL.o.hu1;subst h;have m2:v2<=1:=by
            cases ev
            ·simp only[Bool.false_eq_true,if_false,Nat.mul_zero] at hd;have:=Nat.eq_one_of_mul_eq_one_left (m:=u1) (n:=v2) (by omega);omega
            ·simp only[if_true,Nat.mul_zero] at hd;omega
           omega
          ·right
           exact q52 HL.o j6.o b8 f3 h)
         have e6:p/q*q<=p:=Nat.div_mul_le_self p q;have n4:p/q<=p:=Nat.div_le_self p q;have j9:p/q*u2<=p/q*q:=Nat.mul_le_mul_left _ (by omega);have k0:p/q*v2<=p/q*q:=Nat.mul_le_mul_left _ (by omega);have m5:(p:Int)/(q:Int)=((p/q:Nat):Int):=(Int.natCast_ediv _ _).symm;generalize p/q=t at *
         have m1':(t:Int)*(q:Int)<=(p:Int):=by have:=Int.ofNat_le.2 e6;rwa [Int.natCast_mul] at this
         have m2':(t:Int)*(u2:Int)<=(p:Int):=by have:=Int.ofNat_le.2 (Nat.le_trans j9 e6);rwa [Int.natCast_mul] at this
         have m3':(t:Int)*(v2:Int)<=(p:Int):=by have:=Int.ofNat_le.2 (Nat.le_trans k0 e6);rwa [Int.natCast_mul] at this
         have m4':(0:Int)<=(t:Int)*(q:Int):=Int.mul_nonneg (Int.natCast_nonneg _) (Int.natCast_nonneg _);have m5':(0:Int)<=(t:Int)*(u2:Int):=Int.mul_nonneg (Int.natCast_nonneg _) (Int.natCast_nonneg _);have m6':(0:Int)<=(t:Int)*(v2:Int):=Int.mul_nonneg (Int.natCast_nonneg _) (Int.natCast_nonneg _);have m6:=vv e6;clear j9 k0 e6;go_wp2;go_roundg (p-t*q)
         case measure=>have:=l9.o;omega
         case rel =>
          have:=m6.o;exact⟨q,p-t*q,u1,u2,u1+t*u2,v1,v2,v1+t*v2,!ev,rfl,congrArg _ (by omega),rfl,rfl,congrArg _ (by omega),rfl,rfl,congrArg _ (by omega),rfl,rfl,HN.o,by omega,m0.o,lr⟩
        ·have e7:0<y:=by have:=g8.o;omega
         have k1:=vv e7;have i2:(v2<=q/\¬v1+v2<=p-q)\/¬v2<=q:=by
          by_cases h:v2<=q
          ·exact .inl ⟨h,fun h'=>hc ⟨h,h'⟩⟩
          ·exact .inr h
         clear j8 l1 l2 l3 hc;rcases g9.o with ⟨rfl,n5⟩|⟨A0,B0,hG⟩
         ·clear g9;have f4:=vv (q2U _ _ _ _ _ _ _ _ _ a1.o a3.o e7 (by omega));have c0:Hid (Nat.gcd y (x%y)=Nat.gcd a b):=vv (by rw[<- HG.o,Nat.gcd_comm y,<- Nat.gcd_rec,Nat.gcd_comm]);have k2:=vv (Nat.mod_lt x e7);clear e7;rcases i2 with ⟨b8,f3⟩|b8;all_goals
           go_wp2_with fail
           refine f4.o.mono ?_;rintro e' w3 ⟨A3,m3,c3,A4,m4,c4,rfl,a5,a7,c2,d0,a2⟩;have e8:=vv a7;have m7:=vv (a3.o.below a2 rfl);go_wp2;go_roundg (y+x%y)
           case measure=>have:=k2.o;have:=e5.o;omega
           case rel=>exact⟨B1,m1,d1,y,A4,m4,c4,x%y,rfl,rfl,m7.o,e8.o,Nat.le_of_lt k2.o,c0.o,by omega,a0.o.trans (a2.mono a0.o.size),b0.o.below a2,lr⟩
         ·have n6:=hG.p0;have n7:=hG.bu0;have n8:=hG.bu1;have n9:=hG.bv0;have o0:=hG.bv1;have f5:=vv (q9V hG);have k3:=vv ((q8r hG).trans HG.o);have k4:=vv hG.le;have d2:=hG.ea;have d3:=hG.eb;have d4:A0<=x:=by have:=f5.o;omega
          have f6:B0<=x:=by have:=f5.o;omega
          have o1:((v0:Int)==0)=false:=by simp;omega
          clear g9 hG e7;cases ev
          ·rw[if_neg (by decide)] at d2 d3;have i3:=vv (q8J A1 B1 n1 m1 c1 d1 x y A0 (-(u0:Int)) (v0:Int) _ a1.o a3.o (by omega) e5.o (by omega) (by omega) (by omega) (by omega) (by rw[d2,Int.neg_mul];omega) d4);have i4:=vv d3;have c8:=vv f6;have a6:=vv d4;clear d2 d3 d4 f6;rcases i2 with ⟨b8,f3⟩|b8;all_goals
            go_wp2_with fail
            refine i3.o.mono ?_;rintro e' w3 ⟨A3,m3,c3,rfl,a5,c2,a2⟩;go_wp2_with fail
            refine(q8J A1 B1 n1 m1 c1 d1 x y B0 (u1:Int) (-(v1:Int)) _ (a1.o.below a2 rfl) (a3.o.below a2 rfl) (by omega) e5.o (by omega) (by omega) (by omega) (by omega) (by rw[i4.o,Int.neg_mul];omega) c8.o).mono ?_;rintro e' w4 ⟨A4,m4,c4,rfl,a7,d0,b9⟩;have e8:=vv a7;have i5:=vv (a5.below b9 rfl);have i6:=vv (a5.le_of a1.o a6.o);clear a5 a7;go_wp2;go_roundg (A0+B0)
            case measure=>have:=f5.o;have:=k1.o;omega
            case rel =>
             have:=i6.o;exact⟨A3,m3,c3,A0,A4,m4,c4,B0,rfl,rfl,i5.o,e8.o,k4.o,k3.o,by omega,a0.o.trans ((a2.trans (b9.mono a2.size)).mono a0.o.size),(b0.o.below a2).below b9,lr⟩
          ·rw[if_pos rfl] at d2 d3;have i3:=vv (q8J A1 B1 n1 m1 c1 d1 x y A0 (u0:Int) (-(v0:Int)) _ a1.o a3.o (by omega) e5.o (by omega) (by omega) (by omega) (by omega) (by rw[d2,Int.neg_mul];omega) d4);have i4:=vv d3;have c8:=vv f6;have a6:=vv d4;clear d2 d3 d4 f6;rcases i2 with ⟨b8,f3⟩|b8;all_goals
            go_wp2_with fail
            refine i3.o.mono ?_;rintro e' w3 ⟨A3,m3,c3,rfl,a5,c2,a2⟩;go_wp2_with fail
            refine(q8J A1 B1 n1 m1 c1 d1 x y B0 (-(u1:Int)) (v1:Int) _ (a1.o.below a2 rfl) (a3.o.below a2 rfl) (by omega) e5.o (by omega) (by omega) (by omega) (by omega) (by rw[i4.o,Int.neg_mul];omega) c8.o).mono ?_;rintro e' w4 ⟨A4,m4,c4,rfl,a7,d0,b9⟩;have e8:=vv a7;have i5:=vv (a5.below b9 rfl);have i6:=vv (a5.le_of a1.o a6.o);clear a5 a7;go_wp2;go_roundg (A0+B0)
            case measure=>have:=f5.o;have:=k1.o;omega
            case rel =>
             have:=i6.o;exact⟨A3,m3,c3,A0,A4,m4,c4,B0,rfl,rfl,i5.o,e8.o,k4.o,k3.o,by omega,a0.o.trans ((a2.trans (b9.mono a2.size)).mono a0.o.size),(b0.o.below a2).below b9,lr⟩
      ·by_cases a4:y=0
       ·obtain rfl:m1=0:=by rw[<- a3.o.words];exact q0c.2 a4
        have c0:Hid (x=Nat.gcd a b):=vv (by rw[<- HG.o,a4,Nat.gcd_zero_right]);clear a4;have f2:=vv (q1P A1 n1 c1 (toL x) w2 a1.o);go_wp2_with fail
        refine f2.o.mono ?_;rintro e w3 ⟨rfl,hO,a2⟩;have d8:=vv hO;clear hO;go_wp2;go_ret
        refine⟨_,n1,n1,rfl,?_,Fr.at_ a0.o.size,a0.o.trans (a2.mono a0.o.size)⟩;rw[<- c0.o];exact d8.o.rd a1.o.len.symm lr a1.o.sm
       ·have k5:0<y:=Nat.pos_of_ne_zero a4;have o2:((m1:Int)==0)=false:=by
         have:m1≠0:=fun e=>a4 (by have:=a3.o.words;rw[e] at this;exact q0c.1 this)
         simp;omega
        have e9:y<4294967296^2:=by
         have:=q0o y;rw[a3.o.words] at this;exact Nat.lt_of_lt_of_le this (Nat.pow_le_pow_right (by omega) (by omega))
        have f7:x%y<4294967296^2:=Nat.lt_trans (Nat.mod_lt _ k5) e9;have k6:=vv (two_words e9);have k7:=vv (two_words f7);rw[show(4294967296:Nat)^2=18446744073709551616 by rfl] at e9 f7;have m8:=vv e9;have i7:=vv f7;have c0:Hid (Nat.gcd y (x%y)=Nat.gcd a b):=vv (by rw[<- HG.o,Nat.gcd_comm y,<- Nat.gcd_rec,Nat.gcd_comm]);have f4:=vv (q2U _ _ _ _ _ _ _ _ w2 a1.o a3.o k5 (by omega));clear a4 e9 f7;go_wp2_with fail
        refine f4.o.mono ?_;rintro e w3 ⟨A3,m3,c3,A4,m4,c4,rfl,a5,a7,c2,d0,a2⟩;have e4:=vv (q6w _ _ _ _ w3 (a3.o.below a2 rfl));have k8:=vv (q6w _ _ _ _ w3 a7);rw[k6.o] at e4;rw[k7.o] at k8;have i8:=vn a0 a2;clear a5 a7 c2 d0 a2 f4 k6 k7;generalize x%y=z at *
        go_wp2_with (first
         | (go_at_call 200;(with_reducible refine e4.o.mono ?_);rintro e w' ⟨rfl,rfl⟩)
         | (go_at_call 200;(with_reducible refine k8.o.mono ?_);rintro e w' ⟨rfl,rfl⟩))
        go_loopg [20,21] z (fun k s0 s1 wx=>∃p q j:Nat,s0=.int .u64 p/\s1=.int .u64 q/\wx=w3.drewN j/\Nat.gcd p q=Nat.gcd a b/\p<18446744073709551616/\q<18446744073709551616/\q<=k)
        case atStart=>exact⟨y,z,0,rfl,rfl,rfl,c0.o,m8.o,i7.o,lr⟩
        case round =>
         obtain⟨p,q,j,rfl,rfl,rfl,k9,hp,hq,j8⟩:=hrel;have l0:=vv k9;have HP:=vv hp;have HQ:=vv hq;clear k9;by_cases i1:q=0
         ·subst i1;have m9:=vv (q43 p (w3.drewN j) hp);clear hp hq;go_wp2_with fail
          refine m9.o.mono ?_;rintro e w4 ⟨A4,m4,c4,rfl,a7,d0,b9⟩;go_wp2;go_ret
          have i9:Below w.heap.size w (w3.drewN j):=q0N i8.o j;refine⟨A4,m4,c4,rfl,?_,d0.mono i9.size,i9.trans (b9.mono i9.size)⟩;rw[<- l0.o,Nat.gcd_zero_right];exact a7
         ·have t0:((q:Int)==0)=false:=by simp;omega
          have o3:(p:Int)%(q:Int)=((p%q:Nat):Int):=(Int.natCast_emod _ _).symm;have HM:=vv (Nat.mod_lt p (Nat.pos_of_ne_zero i1));go_wp2_with fail
          go_quiet (fail)
          go_wp2;go_roundg (p%q)
          case measure=>have:=HM.o;omega
          case rel =>
           exact⟨q,p%q,_,by go_num,by go_num,World.drewN_drewN _ _ _,by rw[Nat.gcd_comm q,<- Nat.gcd_rec,Nat.gcd_comm];exact l0.o,HQ.o,by have:=HM.o;have:=HQ.o;omega,lr⟩
end Go.Proofs.YtcdimmblnbkjjaaGreatDoor.A
