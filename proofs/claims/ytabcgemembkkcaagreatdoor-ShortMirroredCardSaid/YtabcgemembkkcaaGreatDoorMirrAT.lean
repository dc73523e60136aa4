/- Lemmas. -/
import Derived.Test.YtabcgemembkkcaaGreatDoorMirrAS
set_option linter.all false
set_option maxHeartbeats 1000000
set_option maxRecDepth 100000
open Go.Proofs.Tryz
open Nat renaming eq_one_of_mul_eq_one_left->qa,div_mul_le_self->qc,le_of_not_lt->qd,min_comm->qe
open Bool renaming false->qb
namespace Go.Proofs.YtabcgemembkkcaaGreatDoor
namespace AB
open Go Go.RowKit
theorem two_words{N:Nat}(h:N<4294967296^2):nth (toL N) 0+4294967296*nth (toL N) 1=N:=by rw[q0Z,q0Z,k0J,k23];rw[show(4294967296:Nat)^2=18446744073709551616 by rfl] at h;omega
def qd0(a b:Nat)(w0:World)(s0 s1:Value)(wx:World):Prop:=
 ∃(A:Option Addr) (n c x:Nat) (B:Option Addr) (m d y:Nat),s0=.slice A n c/\s1=.slice B m d/\Rd wx A n c (toL x)/\Rd wx B m d (toL y)/\y<=x/\Nat.gcd x y=Nat.gcd a b/\n<549755813888/\Below w0.heap.size w0 wx/\Std wx
end AB
namespace B
open AB
open Go Go.RowKit
theorem q1I(A B:Option Addr)(n m c d a b:Nat)(w:World)(ha:Rd w A n c (toL a))(hb:Rd w B m d (toL b))(hs:Std w)(hn:n<549755813888)(hm:m<549755813888):Calls Tryz.prog 208 #[.slice A n c,.slice B m d] w (q0d (Nat.gcd a b) w):=by
 have P:Calls Tryz.prog 206 #[.slice A n c,.slice B m d] w fun e u=>e=.returned (.int .i64 (q0F a b))/\Below w.heap.size w u:=by have:=cmpWords A B n m c d (toL a) (toL b) w ha hb (by rw[q04]) (by rw[q04]);rw[q04,q04] at this;exact this
 have HC:=vv P;have HA:=vv ha;have HB:=vv hb;have HS:=vv hs;clear P ha hb hs;go_enter func208,ntmps208;go_wp2_with fail;refine HC.o.mono ?_;rintro e w1 ⟨rfl,b8⟩;have e4:=vv (HA.o.below b8 rfl);have e5:=vv (HB.o.below b8 rfl);have e6:=vv b8;have e7:=vv (HS.o.below b8);clear b8;go_upto_if 25 with fail;go_cut [0,1] (fun s0 s1 wx=>qd0 a b w s0 s1 wx)
 case first =>
  rcases k0y a b with h|h
  ·have t0:q0F a b<0:=by rw[q1y h];omega
   go_wp2;go_meet
   case rel=>exact⟨B,m,d,b,A,n,c,a,rfl,rfl,e5.o,e4.o,k16 h,k19 b a,hm,e6.o,e7.o⟩
  ·have t0:0<=q0F a b:=q1v.2 h;go_wp2;go_meet
   case rel=>exact⟨A,n,c,a,B,m,d,b,rfl,rfl,e4.o,e5.o,h,rfl,hn,e6.o,e7.o⟩
 case rest =>
  obtain⟨K,n1,L,x,Q,v,R,y,rfl,rfl,hA,hB,O,hg,e8,a0,a1⟩:=hcut;have f:=vv hA;have r:=vv hB;have S:=vv hg;have i:=vv a0;have J:=vv a1;have g6:v<=n1:=hB.le_of hA O;have d5:v=0↔y=0:=by rw[<- hB.words];exact q06
  have d6:n1=0↔x=0:=by rw[<- hA.words];exact q06
  clear HC HA HB HS e4 e5 e6 e7 hA hB hg a0 a1;obtain⟨l,rfl⟩:∃l:World,l=wc:=⟨_,rfl⟩;rcases k01 y with s|s
  ·obtain rfl:v=0:=d5.2 s;have HY:=vv s;clear s d5;have a3:Hid (x=Nat.gcd a b):=vv (by rw[<- S.o,HY.o,k22]);have d7:=vv (copied K n1 L (toL x) l f.o);clear O;have d3:n1=0\/(0<n1/\0<x):=by
    rcases k01 n1 with h|h
    ·exact .inl h
    ·exact .inr ⟨h,k0G fun e=>by have:=d6.2 e;omega⟩
   clear d6;rcases d3 with rfl|⟨hn0',hx0⟩
   ·go_wp2_with fail;go_loopg [0,1] 0 (fun k s0 s1 wx=>s0=.slice K 0 L/\s1=.slice Q 0 R/\wx=l)
    case atStart=>exact⟨rfl,rfl,rfl⟩
    case round =>obtain⟨rfl,rfl,rfl⟩:=hrel;go_wp2_with fail;refine d7.o.mono ?_;rintro e F ⟨rfl,hO,g⟩;have b9:=vv hO;clear hO;go_wp2;go_ret;refine⟨_,0,0,rfl,?_,Fr.at_ i.o.size,i.o.trans (g.mono i.o.size)⟩;rw[<- a3.o];exact b9.o.rd f.o.len.symm lr f.o.sm
   ·have c0:=vv (zeros _ _ _ _ l f.o hx0 J.o);have H:=vv (bitLen _ _ _ _ l f.o);have b2:bl x<=17592186044416:=by
     have:x<2^(32*n1):=by
      have:=q0f x;rw[f.o.words] at this
      rwa [k1k]
     have:=q0A this;omega
    have b4:=q1a hx0;have E:((((tz x:Nat):Int)+1)==((bl x:Nat):Int))=true\/((((tz x:Nat):Int)+1)==((bl x:Nat):Int))=qb:=by
     cases((((tz x:Nat):Int)+1)==((bl x:Nat):Int))
     ·exact .inr rfl
     ·exact .inl rfl
    rcases E with E|E;all_goals
     go_wp2_with (first
      | (go_at_call 281;(with_reducible refine c0.o.mono ?_);rintro e u ⟨rfl,rfl⟩)
      | (go_at_call 273;(with_reducible refine H.o.mono ?_);rintro e u ⟨rfl,rfl⟩))
     go_loopg [0,1] 0 (fun k s0 s1 wx=>s0=.slice K n1 L/\s1=.slice Q 0 R/\wx=l)
     case atStart=>exact⟨rfl,rfl,rfl⟩
     case round =>obtain⟨rfl,rfl,rfl⟩:=hrel;go_wp2_with fail;refine d7.o.mono ?_;rintro e F ⟨rfl,hO,g⟩;have b9:=vv hO;clear hO;go_wp2;go_ret;refine⟨_,n1,n1,rfl,?_,Fr.at_ i.o.size,i.o.trans (g.mono i.o.size)⟩;rw[<- a3.o];exact b9.o.rd f.o.len.symm lr f.o.sm
  ·have g0:0<v:=k0G fun e=>by have:=d5.1 e;omega
   have hx0:0<x:=k02 s O;have hn0':0<n1:=k0G fun e=>by have:=d6.1 e;omega
   clear d5 d6;have g7:=vv (zeros _ _ _ _ l r.o s J.o);have a8:=vv (bitLen _ _ _ _ l r.o);have c0:=vv (zeros _ _ _ _ l f.o hx0 J.o);have H:=vv (bitLen _ _ _ _ l f.o);have b1:bl y<=17592186044416:=by
    have:y<2^(32*v):=by
     have:=q0f y;rw[r.o.words] at this
     rwa [k1k]
    have:=q0A this;omega
   have b2:bl x<=17592186044416:=by
    have:x<2^(32*n1):=by
     have:=q0f x;rw[f.o.words] at this
     rwa [k1k]
    have:=q0A this;omega
   have b3:=q1a s;have b4:=q1a hx0;go_upto_if 38 with (first
    | (go_at_call 281;(with_reducible refine g7.o.mono ?_);rintro e u ⟨rfl,rfl⟩)
    | (go_at_call 273;(with_reducible refine a8.o.mono ?_);rintro e u ⟨rfl,rfl⟩))
   have a9:Below l.heap.size l (l.alloc (.cells #[.int .u32 1] 54)):=(Below.refl _ _).alloc lr _;have d0:Own (l.alloc (.cells #[.int .u32 1] 54)) l.heap.size 54 [1]:=Own.lit _ (q0y.2 ⟨by omega,q0N⟩) (by simp [q0q]);have e9:=vv (d0.rd (n:=1) (c:=1) rfl lr (by omega));have a5:=vv a9;have a6:=vv (zeros _ _ _ _ _ (r.o.below a9 rfl) s (J.o.below a9));have a7:=vv (zeros _ _ _ _ _ (f.o.below a9 rfl) hx0 (J.o.below a9));clear a9 d0;by_cases E:tz y+1=bl y
   ·have g8:((tz y:Nat):Int)+1=((bl y:Nat):Int):=by omega
    have f0:=vv (q1Q hx0 s E);clear E;have em:min ((tz x:Nat):Int) ((tz y:Nat):Int)=((min (tz x) (tz y):Nat):Int):=by omega
    go_wp2_with (first
     | (go_at_call 281;(with_reducible refine a6.o.mono ?_);rintro e u ⟨rfl,rfl⟩)
     | (go_at_call 281;(with_reducible refine a7.o.mono ?_);rintro e u ⟨rfl,rfl⟩))
    refine(up _ _ _ _ (min (tz x) (tz y)) _ rfl _ e9.o (by omega)).mono ?_;rintro e F ⟨V,W,X,rfl,D,a4,g⟩;go_wp2;go_ret;refine⟨V,W,X,rfl,?_,a4.mono ?_,i.o.trans ((a5.o.trans (g.mono a5.o.size)).mono i.o.size)⟩
    ·rw[<- S.o,f0.o];exact D
    ·exact k06 i.o.size a5.o.size
   ·have g8:((((tz y:Nat):Int)+1)==((bl y:Nat):Int))=qb:=by simp;omega
    clear E;by_cases E:tz x+1=bl x
    ·have g9:((tz x:Nat):Int)+1=((bl x:Nat):Int):=by omega
     have f0:Hid (Nat.gcd x y=1*2^min (tz x) (tz y)):=vv (by rw[k19,qe];exact q1Q s hx0 E);clear E;have em:min ((tz x:Nat):Int) ((tz y:Nat):Int)=((min (tz x) (tz y):Nat):Int):=by omega
     go_upto_if 61 with (first
      | (go_at_call 281;(with_reducible refine c0.o.mono ?_);rintro e u ⟨rfl,rfl⟩)
      | (go_at_call 273;(with_reducible refine H.o.mono ?_);rintro e u ⟨rfl,rfl⟩))
     go_wp2_with (first
      | (go_at_call 281;(with_reducible refine a6.o.mono ?_);rintro e u ⟨rfl,rfl⟩)
      | (go_at_call 281;(with_reducible refine a7.o.mono ?_);rintro e u ⟨rfl,rfl⟩))
     refine(up _ _ _ _ (min (tz x) (tz y)) _ rfl _ e9.o (by omega)).mono ?_;rintro e F ⟨V,W,X,rfl,D,a4,g⟩;go_wp2;go_ret;refine⟨V,W,X,rfl,?_,a4.mono ?_,i.o.trans ((a5.o.trans (g.mono a5.o.size)).mono i.o.size)⟩
     ·rw[<- S.o,f0.o];exact D
     ·exact k06 i.o.size a5.o.size
    ·have g9:((((tz x:Nat):Int)+1)==((bl x:Nat):Int))=qb:=by simp;omega
     clear E;go_wp2_with (first
      | (go_at_call 281;(with_reducible refine c0.o.mono ?_);rintro e u ⟨rfl,rfl⟩)
      | (go_at_call 273;(with_reducible refine H.o.mono ?_);rintro e u ⟨rfl,rfl⟩))
     clear g8 g9 g7 a8 c0 H a6 a7 e9 a5 b1 b2 b3 b4;have HX:=vv O;clear O g6 hx0 s g0 hn0';go_loopg [0,1] (x+y) (fun k s0 s1 wx=>∃(A:Option Addr) (n c x:Nat) (B:Option Addr) (m d y:Nat),s0=.slice A n c/\s1=.slice B m d/\Rd wx A n c (toL x)/\Rd wx B m d (toL y)/\y<=x/\Nat.gcd x y=Nat.gcd a b/\n<549755813888/\Below w.heap.size w wx/\Std wx/\x+y<=k)
     case atStart=>exact⟨K,n1,L,x,Q,v,R,y,rfl,rfl,f.o,r.o,HX.o,S.o,e8,i.o,J.o,lr⟩
     case round =>
      clear f r S i J HX e8;obtain⟨K,n1,L,x,Q,v,R,y,rfl,rfl,hA,hB,O,hg,e8,a0,a1,hk⟩:=hrel;have f:=vv hA;have r:=vv hB;have S:=vv hg;have i:=vv a0;have J:=vv a1;have g6:v<=n1:=hB.le_of hA O;clear hA hB hg a0 a1;obtain⟨l,rfl⟩:∃l:World,l=wr:=⟨_,rfl⟩;by_cases hm2:2<v
      ·have d2:18446744073709551616<=y:=by apply qd;intro P;have:=r.o.bound (k:=2) (by rw[show(4294967296:Nat)^2=18446744073709551616 by rfl];exact P);omega
       have g1:64<bl x:=by apply k2u;intro P;have h1:=q0J x;have h2:2^bl x<=2^64:=k04 (by omega) P;omega
       have d4:bl x<=17592186044416:=by
        have h1:x<2^(32*n1):=by
         have:=q0f x;rw[f.o.words] at this
         rwa [k1k]
        have:=q0A h1;omega
       obtain⟨e,he⟩:=yx (bl x-60);have k6:((bl x:Nat):Int)-60=(e:Int):=by omega
       have a2:x<2^(e+60):=by rw[he,show bl x-60+60=bl x by omega];exact q0J x
       have f1:x/2^e<1152921504606846976:=by apply k0s;rw[show(1152921504606846976:Nat)=2^60 by rfl,<- k0h];exact a2
       have H:=vv (bitLen _ _ _ _ l f.o);have i0:=vv (topBits K n1 L x e (e:Int) rfl l f.o (by omega) a2);have c2:=vv (topBits Q v R y e (e:Int) rfl l r.o (by omega) (k0F O a2));have i1:=vv (q2O O f1);have i2:=vv f1;have g2:=vv d2;have c5:=vv O;have k7:e<=17592186044416:=by omega
       clear he a2 g1 d4 f1 d2;go_wp2_with (first
        | (go_at_call 273;(with_reducible refine H.o.mono ?_);rintro e' u ⟨rfl,rfl⟩)
        | (go_at_call 282;(with_reducible refine i0.o.mono ?_);rintro e' u ⟨rfl,rfl⟩)
        | (go_at_call 282;(with_reducible refine c2.o.mono ?_);rintro e' u ⟨rfl,rfl⟩))
       go_loopg [6,7,8,9,10,11,12,13,14] (y/2^e) (fun k s6 s7 s8 s9 s10 s11 s12 s13 s14 wx=>∃(p q u0 M Y v0 G C:Nat) (ev:Bool),s6=.int .u64 p/\s7=.int .u64 q/\s8=.int .u64 u0/\s9=.int .u64 M/\s10=.int .u64 Y/\s11=.int .u64 v0/\s12=.int .u64 G/\s13=.int .u64 C/\s14=.bool ev /\wx=l/\Lehmer x y e p q M Y G C ev/\C<=2305843009213693952/\((v0=0/\u0<=1)\/∃A B,Good x y u0 M v0 G ev A B)/\q<=k)
       case atStart=>exact⟨x/2^e,y/2^e,0,1,0,0,0,1,qb,rfl,rfl,rfl,rfl,rfl,rfl,rfl,rfl,rfl,rfl,i1.o,by omega,.inl ⟨rfl,by omega⟩,lr⟩
       case round =>
        obtain⟨p,q,u0,M,Y,v0,G,C,ev,rfl,rfl,rfl,rfl,rfl,rfl,rfl,rfl,rfl,rfl,Z,k8,i3,i4⟩:=hrel;have HL:=vv Z;have l1:=Z.hu1;have l2:=Z.hu2;have l3:=Z.hs;have l4:=Z.hv;have l5:=Z.h1;have l6:=Z.hxy;have l7:=Z.hx;have f2:=vv i3;clear Z i3 H i0 c2 i1;by_cases P:C<=q/\G+C<=p-q
        ·obtain⟨T,d8⟩:=P;have g3:=vv (q24 HL.o i2.o T);have k3:=g3.o;have f3:((q:Int)==0)=qb:=by simp;omega
         have HN:=vv (q3g HL.o T);have j7:Hid (p-p/q*q<q):=vv (by have h1:=k0j p (show 0<q by omega);have e1:=k26 p q;rw[k0b] at e1;omega);have j8:Hid ((G=0/\M<=1)\/∃A B,Good x y M Y G C (!ev) A B):=vv (by
          rcases k01 G with h|h
          ·left;refine⟨h,?_⟩;have hd:=HL.o.det;have h1:=HL.o.hs;have h2:=HL.o.hu1;subst h;have k4:C<=1:=by
            cases ev
            ·simp only[k1o,k2O,k1n] at hd;have:=qa (m:=M) (n:=C) (by omega);omega
            ·simp only[k2S,k1n] at hd;omega
           omega
          ·right;exact q3h HL.o i2.o T d8 h)
         have c6:p/q*q<=p:=qc p q;have k9:p/q<=p:=k0e p q;have i5:p/q*Y<=p/q*q:=k0g _ (by omega);have i6:p/q*C<=p/q*q:=k0g _ (by omega);have k5:(p:Int)/(q:Int)=((p/q:Nat):Int):=(k1L _ _).symm;generalize p/q=t at *
         have l0:(t:Int)*(q:Int)<=(p:Int):=by have:=k20.2 c6;rwa [k08] at this
         have l8:(t:Int)*(Y:Int)<=(p:Int):=by have:=k20.2 (k06 i5 c6);rwa [k08] at this
         have l9:(t:Int)*(C:Int)<=(p:Int):=by have:=k20.2 (k06 i6 c6);rwa [k08] at this
         have m0:(0:Int)<=(t:Int)*(q:Int):=k0W (k0d _) (k0d _);have m2:(0:Int)<=(t:Int)*(Y:Int):=k0W (k0d _) (k0d _);have m5:(0:Int)<=(t:Int)*(C:Int):=k0W (k0d _) (k0d _);have j9:=vv c6;clear i5 i6 c6;go_wp2;go_roundg (p-t*q)
         case measure=>have:=j7.o;omega
         case rel =>have:=j9.o;exact⟨q,p-t*q,M,Y,M+t*Y,G,C,G+t*C,!ev,rfl,k0v _ (by omega),rfl,rfl,k0v _ (by omega),rfl,rfl,k0v _ (by omega),rfl,rfl,HN.o,by omega,j8.o,lr⟩
        ·have c7:0<y:=by have:=g2.o;omega
         have i7:=vv c7;have f4:(C<=q/\¬G+C<=p-q)\/¬C<=q:=by
          by_cases h:C<=q
          ·exact .inl ⟨h,fun h'=>P ⟨h,h'⟩⟩
          ·exact .inr h
         clear i4 l1 l2 l3 P;rcases f2.o with ⟨rfl,m6⟩|⟨A0,B0,N⟩
         ·clear f2;have d9:=vv (divWords _ _ _ _ _ _ _ _ _ f.o r.o c7 (by omega));have a3:Hid (Nat.gcd y (x%y)=Nat.gcd a b):=vv (by rw[<- S.o,k19 y,<- k2z,k19]);have i8:=vv (k0j x c7);clear c7;rcases f4 with ⟨T,d8⟩|T;all_goals
           go_wp2_with fail;refine d9.o.mono ?_;rintro e' F ⟨V,W,X,A4,m4,c4,rfl,D,I,a4,b0,g⟩;have c8:=vv I;have k0:=vv (r.o.below g rfl);go_wp2;go_roundg (y+x%y)
           case measure=>have:=i8.o;have:=c5.o;omega
           case rel=>exact⟨Q,v,R,y,A4,m4,c4,x%y,rfl,rfl,k0.o,c8.o,k16 i8.o,a3.o,by omega,i.o.trans (g.mono i.o.size),J.o.below g,lr⟩
         ·have m7:=N.p0;have m8:=N.bu0;have m9:=N.bu1;have n0:=N.bv0;have n2:=N.bv1;have e0:=vv (q7u N);have i9:=vv ((q5H N).trans S.o);have j0:=vv N.le;have b5:=N.ea;have b6:=N.eb;have b7:A0<=x:=by have:=e0.o;omega
          have e2:B0<=x:=by have:=e0.o;omega
          have n3:((v0:Int)==0)=qb:=by simp;omega
          clear f2 N c7;cases ev
          ·rw[k0o (by decide)] at b5 b6;have f5:=vv (blend K Q n1 v L R x y A0 (-(u0:Int)) (v0:Int) _ f.o r.o (by omega) c5.o (by omega) (by omega) (by omega) (by omega) (by rw[b5,k0P];omega) b7);have f6:=vv b6;have a8:=vv e2;have H:=vv b7;clear b5 b6 b7 e2;rcases f4 with ⟨T,d8⟩|T;all_goals
            go_wp2_with fail;refine f5.o.mono ?_;rintro e' F ⟨V,W,X,rfl,D,a4,g⟩;go_wp2_with fail;refine(blend K Q n1 v L R x y B0 (M:Int) (-(G:Int)) _ (f.o.below g rfl) (r.o.below g rfl) (by omega) c5.o (by omega) (by omega) (by omega) (by omega) (by rw[f6.o,k0P];omega) a8.o).mono ?_;rintro e' w4 ⟨A4,m4,c4,rfl,I,b0,U⟩;have c8:=vv I;have f7:=vv (D.below U rfl);have f8:=vv (D.le_of f.o H.o);clear D I;go_wp2;go_roundg (A0+B0)
            case measure=>have:=e0.o;have:=i7.o;omega
            case rel =>have:=f8.o;exact⟨V,W,X,A0,A4,m4,c4,B0,rfl,rfl,f7.o,c8.o,j0.o,i9.o,by omega,i.o.trans ((g.trans (U.mono g.size)).mono i.o.size),(J.o.below g).below U,lr⟩
          ·rw[k0n rfl] at b5 b6;have f5:=vv (blend K Q n1 v L R x y A0 (u0:Int) (-(v0:Int)) _ f.o r.o (by omega) c5.o (by omega) (by omega) (by omega) (by omega) (by rw[b5,k0P];omega) b7);have f6:=vv b6;have a8:=vv e2;have H:=vv b7;clear b5 b6 b7 e2;rcases f4 with ⟨T,d8⟩|T;all_goals
            go_wp2_with fail;refine f5.o.mono ?_;rintro e' F ⟨V,W,X,rfl,D,a4,g⟩;go_wp2_with fail;refine(blend K Q n1 v L R x y B0 (-(M:Int)) (G:Int) _ (f.o.below g rfl) (r.o.below g rfl) (by omega) c5.o (by omega) (by omega) (by omega) (by omega) (by rw[f6.o,k0P];omega) a8.o).mono ?_;rintro e' w4 ⟨A4,m4,c4,rfl,I,b0,U⟩;have c8:=vv I;have f7:=vv (D.below U rfl);have f8:=vv (D.le_of f.o H.o);clear D I;go_wp2;go_roundg (A0+B0)
            case measure=>have:=e0.o;have:=i7.o;omega
            case rel =>have:=f8.o;exact⟨V,W,X,A0,A4,m4,c4,B0,rfl,rfl,f7.o,c8.o,j0.o,i9.o,by omega,i.o.trans ((g.trans (U.mono g.size)).mono i.o.size),(J.o.below g).below U,lr⟩
      ·by_cases s:y=0
       ·obtain rfl:v=0:=by rw[<- r.o.words];exact q06.2 s
        have a3:Hid (x=Nat.gcd a b):=vv (by rw[<- S.o,s,k22]);clear s;have d7:=vv (copied K n1 L (toL x) l f.o);go_wp2_with fail;refine d7.o.mono ?_;rintro e F ⟨rfl,hO,g⟩;have b9:=vv hO;clear hO;go_wp2;go_ret;refine⟨_,n1,n1,rfl,?_,Fr.at_ i.o.size,i.o.trans (g.mono i.o.size)⟩;rw[<- a3.o];exact b9.o.rd f.o.len.symm lr f.o.sm
       ·have j1:0<y:=k0G s;have n4:((v:Int)==0)=qb:=by
         have:v≠0:=fun e=>s (by have:=r.o.words;rw[e] at this;exact q06.1 this)
         simp;omega
        have c9:y<4294967296^2:=by have:=q0f y;rw[r.o.words] at this;exact k02 this (k04 (by omega) (by omega))
        have e3:x%y<4294967296^2:=k2U (k0j _ j1) c9;have j2:=vv (two_words c9);have j3:=vv (two_words e3);rw[show(4294967296:Nat)^2=18446744073709551616 by rfl] at c9 e3;have k1:=vv c9;have g4:=vv e3;have a3:Hid (Nat.gcd y (x%y)=Nat.gcd a b):=vv (by rw[<- S.o,k19 y,<- k2z,k19]);have d9:=vv (divWords _ _ _ _ _ _ _ _ l f.o r.o j1 (by omega));clear s c9 e3;go_wp2_with fail;refine d9.o.mono ?_;rintro e F ⟨V,W,X,A4,m4,c4,rfl,D,I,a4,b0,g⟩;have c2:=vv (toUint _ _ _ _ F (r.o.below g rfl));have j4:=vv (toUint _ _ _ _ F I);rw[j2.o] at c2;rw[j3.o] at j4;have g5:=vn i g;clear D I a4 b0 g d9 j2 j3;generalize x%y=z at *
        go_wp2_with (first
         | (go_at_call 285;(with_reducible refine c2.o.mono ?_);rintro e u ⟨rfl,rfl⟩)
         | (go_at_call 285;(with_reducible refine j4.o.mono ?_);rintro e u ⟨rfl,rfl⟩))
        go_loopg [20,21] z (fun k s0 s1 wx=>∃p q j:Nat,s0=.int .u64 p/\s1=.int .u64 q/\wx=F.drewN j/\Nat.gcd p q=Nat.gcd a b/\p<18446744073709551616/\q<18446744073709551616/\q<=k)
        case atStart=>exact⟨y,z,0,rfl,rfl,rfl,a3.o,k1.o,g4.o,lr⟩
        case round =>
         obtain⟨p,q,j,rfl,rfl,rfl,j5,hp,E,i4⟩:=hrel;have j6:=vv j5;have HP:=vv hp;have HQ:=vv E;clear j5;by_cases f3:q=0
         ·subst f3;have k2:=vv (fromUint p (F.drewN j) hp);clear hp E;go_wp2_with fail;refine k2.o.mono ?_;rintro e w4 ⟨A4,m4,c4,rfl,I,b0,U⟩;go_wp2;go_ret;have f9:Below w.heap.size w (F.drewN j):=q0k g5.o j;refine⟨A4,m4,c4,rfl,?_,b0.mono f9.size,f9.trans (U.mono f9.size)⟩;rw[<- j6.o,k22];exact I
         ·have t0:((q:Int)==0)=qb:=by simp;omega
          have n5:(p:Int)%(q:Int)=((p%q:Nat):Int):=(k1Y _ _).symm;have HM:=vv (k0j p (k0G f3));go_wp2_with fail;go_quiet (fail);go_wp2;go_roundg (p%q)
          case measure=>have:=HM.o;omega
          case rel =>exact⟨q,p%q,_,by go_num,by go_num,World.drewN_drewN _ _ _,by rw[k19 q,<- k2z,k19];exact j6.o,HQ.o,by have:=HM.o;have:=HQ.o;omega,lr⟩
end B
namespace A
open AB
open Go Go.RowKit
theorem q1I(A B:Option Addr)(n m c d a b:Nat)(w:World)(ha:Rd w A n c (toL a))(hb:Rd w B m d (toL b))(hs:Std w)(hn:n<549755813888)(hm:m<549755813888):Calls Tryz.prog 288 #[.slice A n c,.slice B m d] w (q0d (Nat.gcd a b) w):=by
 have P:Calls Tryz.prog 280 #[.slice A n c,.slice B m d] w fun e u=>e=.returned (.int .i64 (q0F a b))/\Below w.heap.size w u:=by have:=cmpWords A B n m c d (toL a) (toL b) w ha hb (by rw[q04]) (by rw[q04]);rw[q04,q04] at this;exact this
 have HC:=vv P;have HA:=vv ha;have HB:=vv hb;have HS:=vv hs;clear P ha hb hs;go_enter func288,ntmps288;go_wp2_with fail;refine HC.o.mono ?_;rintro e w1 ⟨rfl,b8⟩;have e4:=vv (HA.o.below b8 rfl);have e5:=vv (HB.o.below b8 rfl);have e6:=vv b8;have e7:=vv (HS.o.below b8);clear b8;go_upto_if 25 with fail;go_cut [0,1] (fun s0 s1 wx=>qd0 a b w s0 s1 wx)
 case first =>
  rcases k0y a b with h|h
  ·have t0:q0F a b<0:=by rw[q1y h];omega
   go_wp2;go_meet
   case rel=>exact⟨B,m,d,b,A,n,c,a,rfl,rfl,e5.o,e4.o,k16 h,k19 b a,hm,e6.o,e7.o⟩
  ·have t0:0<=q0F a b:=q1v.2 h;go_wp2;go_meet
   case rel=>exact⟨A,n,c,a,B,m,d,b,rfl,rfl,e4.o,e5.o,h,rfl,hn,e6.o,e7.o⟩
 case rest =>
  obtain⟨K,n1,L,x,Q,v,R,y,rfl,rfl,hA,hB,O,hg,e8,a0,a1⟩:=hcut;have f:=vv hA;have r:=vv hB;have S:=vv hg;have i:=vv a0;have J:=vv a1;have g6:v<=n1:=hB.le_of hA O;have d5:v=0↔y=0:=by rw[<- hB.words];exact q06
  have d6:n1=0↔x=0:=by rw[<- hA.words];exact q06
  clear HC HA HB HS e4 e5 e6 e7 hA hB hg a0 a1;obtain⟨l,rfl⟩:∃l:World,l=wc:=⟨_,rfl⟩;rcases k01 y with s|s
  ·obtain rfl:v=0:=d5.2 s;have HY:=vv s;clear s d5;have a3:Hid (x=Nat.gcd a b):=vv (by rw[<- S.o,HY.o,k22]);have d7:=vv (copied K n1 L (toL x) l f.o);clear O;have d3:n1=0\/(0<n1/\0<x):=by
    rcases k01 n1 with h|h
    ·exact .inl h
    ·exact .inr ⟨h,k0G fun e=>by have:=d6.2 e;omega⟩
   clear d6;rcases d3 with rfl|⟨hn0',hx0⟩
   ·go_wp2_with fail;go_loopg [0,1] 0 (fun k s0 s1 wx=>s0=.slice K 0 L/\s1=.slice Q 0 R/\wx=l)
    case atStart=>exact⟨rfl,rfl,rfl⟩
    case round =>obtain⟨rfl,rfl,rfl⟩:=hrel;go_wp2_with fail;refine d7.o.mono ?_;rintro e F ⟨rfl,hO,g⟩;have b9:=vv hO;clear hO;go_wp2;go_ret;refine⟨_,0,0,rfl,?_,Fr.at_ i.o.size,i.o.trans (g.mono i.o.size)⟩;rw[<- a3.o];exact b9.o.rd f.o.len.symm lr f.o.sm
   ·have c0:=vv (zeros _ _ _ _ l f.o hx0 J.o);have H:=vv (bitLen _ _ _ _ l f.o);have b2:bl x<=17592186044416:=by
     have:x<2^(32*n1):=by
      have:=q0f x;rw[f.o.words] at this
      rwa [k1k]
     have:=q0A this;omega
    have b4:=q1a hx0;have E:((((tz x:Nat):Int)+1)==((bl x:Nat):Int))=true\/((((tz x:Nat):Int)+1)==((bl x:Nat):Int))=qb:=by
     cases((((tz x:Nat):Int)+1)==((bl x:Nat):Int))
     ·exact .inr rfl
     ·exact .inl rfl
    rcases E with E|E;all_goals
     go_wp2_with (first
      | (go_at_call 330;(with_reducible refine c0.o.mono ?_);rintro e u ⟨rfl,rfl⟩)
      | (go_at_call 174;(with_reducible refine H.o.mono ?_);rintro e u ⟨rfl,rfl⟩))
     go_loopg [0,1] 0 (fun k s0 s1 wx=>s0=.slice K n1 L/\s1=.slice Q 0 R/\wx=l)
     case atStart=>exact⟨rfl,rfl,rfl⟩
     case round =>obtain⟨rfl,rfl,rfl⟩:=hrel;go_wp2_with fail;refine d7.o.mono ?_;rintro e F ⟨rfl,hO,g⟩;have b9:=vv hO;clear hO;go_wp2;go_ret;refine⟨_,n1,n1,rfl,?_,Fr.at_ i.o.size,i.o.trans (g.mono i.o.size)⟩;rw[<- a3.o];exact b9.o.rd f.o.len.symm lr f.o.sm
  ·have g0:0<v:=k0G fun e=>by have:=d5.1 e;omega
   have hx0:0<x:=k02 s O;have hn0':0<n1:=k0G fun e=>by have:=d6.1 e;omega
   clear d5 d6;have g7:=vv (zeros _ _ _ _ l r.o s J.o);have a8:=vv (bitLen _ _ _ _ l r.o);have c0:=vv (zeros _ _ _ _ l f.o hx0 J.o);have H:=vv (bitLen _ _ _ _ l f.o);have b1:bl y<=17592186044416:=by
    have:y<2^(32*v):=by
     have:=q0f y;rw[r.o.words] at this
     rwa [k1k]
    have:=q0A this;omega
   have b2:bl x<=17592186044416:=by
    have:x<2^(32*n1):=by
     have:=q0f x;rw[f.o.words] at this
     rwa [k1k]
    have:=q0A this;omega
   have b3:=q1a s;have b4:=q1a hx0;go_upto_if 38 with (first
    | (go_at_call 330;(with_reducible refine g7.o.mono ?_);rintro e u ⟨rfl,rfl⟩)
    | (go_at_call 174;(with_reducible refine a8.o.mono ?_);rintro e u ⟨rfl,rfl⟩))
   have a9:Below l.heap.size l (l.alloc (.cells #[.int .u32 1] 54)):=(Below.refl _ _).alloc lr _;have d0:Own (l.alloc (.cells #[.int .u32 1] 54)) l.heap.size 54 [1]:=Own.lit _ (q0y.2 ⟨by omega,q0N⟩) (by simp [q0q]);have e9:=vv (d0.rd (n:=1) (c:=1) rfl lr (by omega));have a5:=vv a9;have a6:=vv (zeros _ _ _ _ _ (r.o.below a9 rfl) s (J.o.below a9));have a7:=vv (zeros _ _ _ _ _ (f.o.below a9 rfl) hx0 (J.o.below a9));clear a9 d0;by_cases E:tz y+1=bl y
   ·have g8:((tz y:Nat):Int)+1=((bl y:Nat):Int):=by omega
    have f0:=vv (q1Q hx0 s E);clear E;have em:min ((tz x:Nat):Int) ((tz y:Nat):Int)=((min (tz x) (tz y):Nat):Int):=by omega
    go_wp2_with (first
     | (go_at_call 330;(with_reducible refine a6.o.mono ?_);rintro e u ⟨rfl,rfl⟩)
     | (go_at_call 330;(with_reducible refine a7.o.mono ?_);rintro e u ⟨rfl,rfl⟩))
    refine(up _ _ _ _ (min (tz x) (tz y)) _ rfl _ e9.o (by omega)).mono ?_;rintro e F ⟨V,W,X,rfl,D,a4,g⟩;go_wp2;go_ret;refine⟨V,W,X,rfl,?_,a4.mono ?_,i.o.trans ((a5.o.trans (g.mono a5.o.size)).mono i.o.size)⟩
    ·rw[<- S.o,f0.o];exact D
    ·exact k06 i.o.size a5.o.size
   ·have g8:((((tz y:Nat):Int)+1)==((bl y:Nat):Int))=qb:=by simp;omega
    clear E;by_cases E:tz x+1=bl x
    ·have g9:((tz x:Nat):Int)+1=((bl x:Nat):Int):=by omega
     have f0:Hid (Nat.gcd x y=1*2^min (tz x) (tz y)):=vv (by rw[k19,qe];exact q1Q s hx0 E);clear E;have em:min ((tz x:Nat):Int) ((tz y:Nat):Int)=((min (tz x) (tz y):Nat):Int):=by omega
     go_upto_if 61 with (first
      | (go_at_call 330;(with_reducible refine c0.o.mono ?_);rintro e u ⟨rfl,rfl⟩)
      | (go_at_call 174;(with_reducible refine H.o.mono ?_);rintro e u ⟨rfl,rfl⟩))
     go_wp2_with (first
      | (go_at_call 330;(with_reducible refine a6.o.mono ?_);rintro e u ⟨rfl,rfl⟩)
      | (go_at_call 330;(with_reducible refine a7.o.mono ?_);rintro e u ⟨rfl,rfl⟩))
     refine(up _ _ _ _ (min (tz x) (tz y)) _ rfl _ e9.o (by omega)).mono ?_;rintro e F ⟨V,W,X,rfl,D,a4,g⟩;go_wp2;go_ret;refine⟨V,W,X,rfl,?_,a4.mono ?_,i.o.trans ((a5.o.trans (g.mono a5.o.size)).mono i.o.size)⟩
     ·rw[<- S.o,f0.o];exact D
     ·exact k06 i.o.size a5.o.size
    ·have g9:((((tz x:Nat):Int)+1)==((bl x:Nat):Int))=qb:=by simp;omega
     clear E;go_wp2_with (first
      | (go_at_call 330;(with_reducible refine c0.o.mono ?_);rintro e u ⟨rfl,rfl⟩)
      | (go_at_call 174;(with_reducible refine H.o.mono ?_);rintro e u ⟨rfl,rfl⟩))
     clear g8 g9 g7 a8 c0 H a6 a7 e9 a5 b1 b2 b3 b4;have HX:=vv O;clear O g6 hx0 s g0 hn0';go_loopg [0,1] (x+y) (fun k s0 s1 wx=>∃(A:Option Addr) (n c x:Nat) (B:Option Addr) (m d y:Nat),s0=.slice A n c/\s1=.slice B m d/\Rd wx A n c (toL x)/\Rd wx B m d (toL y)/\y<=x/\Nat.gcd x y=Nat.gcd a b/\n<549755813888/\Below w.heap.size w wx/\Std wx/\x+y<=k)
     case atStart=>exact⟨K,n1,L,x,Q,v,R,y,rfl,rfl,f.o,r.o,HX.o,S.o,e8,i.o,J.o,lr⟩
     case round =>
      clear f r S i J HX e8;obtain⟨K,n1,L,x,Q,v,R,y,rfl,rfl,hA,hB,O,hg,e8,a0,a1,hk⟩:=hrel;have f:=vv hA;have r:=vv hB;have S:=vv hg;have i:=vv a0;have J:=vv a1;have g6:v<=n1:=hB.le_of hA O;clear hA hB hg a0 a1;obtain⟨l,rfl⟩:∃l:World,l=wr:=⟨_,rfl⟩;by_cases hm2:2<v
      ·have d2:18446744073709551616<=y:=by apply qd;intro P;have:=r.o.bound (k:=2) (by rw[show(4294967296:Nat)^2=18446744073709551616 by rfl];exact P);omega
       have g1:64<bl x:=by apply k2u;intro P;have h1:=q0J x;have h2:2^bl x<=2^64:=k04 (by omega) P;omega
       have d4:bl x<=17592186044416:=by
        have h1:x<2^(32*n1):=by
         have:=q0f x;rw[f.o.words] at this
         rwa [k1k]
        have:=q0A h1;omega
       obtain⟨e,he⟩:=yx (bl x-60);have k6:((bl x:Nat):Int)-60=(e:Int):=by omega
       have a2:x<2^(e+60):=by rw[he,show bl x-60+60=bl x by omega];exact q0J x
       have f1:x/2^e<1152921504606846976:=by apply k0s;rw[show(1152921504606846976:Nat)=2^60 by rfl,<- k0h];exact a2
       have H:=vv (bitLen _ _ _ _ l f.o);have i0:=vv (topBits K n1 L x e (e:Int) rfl l f.o (by omega) a2);have c2:=vv (topBits Q v R y e (e:Int) rfl l r.o (by omega) (k0F O a2));have i1:=vv (q2O O f1);have i2:=vv f1;have g2:=vv d2;have c5:=vv O;have k7:e<=17592186044416:=by omega
       clear he a2 g1 d4 f1 d2;go_wp2_with (first
        | (go_at_call 174;(with_reducible refine H.o.mono ?_);rintro e' u ⟨rfl,rfl⟩)
        | (go_at_call 331;(with_reducible refine i0.o.mono ?_);rintro e' u ⟨rfl,rfl⟩)
        | (go_at_call 331;(with_reducible refine c2.o.mono ?_);rintro e' u ⟨rfl,rfl⟩))
       go_loopg [6,7,8,9,10,11,12,13,14] (y/2^e) (fun k s6 s7 s8 s9 s10 s11 s12 s13 s14 wx=>∃(p q u0 M Y v0 G C:Nat) (ev:Bool),s6=.int .u64 p/\s7=.int .u64 q/\s8=.int .u64 u0/\s9=.int .u64 M/\s10=.int .u64 Y/\s11=.int .u64 v0/\s12=.int .u64 G/\s13=.int .u64 C/\s14=.bool ev /\wx=l/\Lehmer x y e p q M Y G C ev/\C<=2305843009213693952/\((v0=0/\u0<=1)\/∃A B,Good x y u0 M v0 G ev A B)/\q<=k)
       case atStart=>exact⟨x/2^e,y/2^e,0,1,0,0,0,1,qb,rfl,rfl,rfl,rfl,rfl,rfl,rfl,rfl,rfl,rfl,i1.o,by omega,.inl ⟨rfl,by omega⟩,lr⟩
       case round =>
        obtain⟨p,q,u0,M,Y,v0,G,C,ev,rfl,rfl,rfl,rfl,rfl,rfl,rfl,rfl,rfl,rfl,Z,k8,i3,i4⟩:=hrel;have HL:=vv Z;have l1:=Z.hu1;have l2:=Z.hu2;have l3:=Z.hs;have l4:=Z.hv;have l5:=Z.h1;have l6:=Z.hxy;have l7:=Z.hx;have f2:=vv i3;clear Z i3 H i0 c2 i1;by_cases P:C<=q/\G+C<=p-q
        ·obtain⟨T,d8⟩:=P;have g3:=vv (q24 HL.o i2.o T);have k3:=g3.o;have f3:((q:Int)==0)=qb:=by simp;omega
         have HN:=vv (q3g HL.o T);have j7:Hid (p-p/q*q<q):=vv (by have h1:=k0j p (show 0<q by omega);have e1:=k26 p q;rw[k0b] at e1;omega);have j8:Hid ((G=0/\M<=1)\/∃A B,Good x y M Y G C (!ev) A B):=vv (by
          rcases k01 G with h|h
          ·left;refine⟨h,?_⟩;have hd:=HL.o.det;have h1:=HL.o.hs;have h2:=HL.o.hu1;subst h;have k4:C<=1:=by
            cases ev
            ·simp only[k1o,k2O,k1n] at hd;have:=qa (m:=M) (n:=C) (by omega);omega
            ·simp only[k2S,k1n] at hd;omega
           omega
          ·right;exact q3h HL.o i2.o T d8 h)
         have c6:p/q*q<=p:=qc p q;have k9:p/q<=p:=k0e p q;have i5:p/q*Y<=p/q*q:=k0g _ (by omega);have i6:p/q*C<=p/q*q:=k0g _ (by omega);have k5:(p:Int)/(q:Int)=((p/q:Nat):Int):=(k1L _ _).symm;generalize p/q=t at *
         have l0:(t:Int)*(q:Int)<=(p:Int):=by have:=k20.2 c6;rwa [k08] at this
         have l8:(t:Int)*(Y:Int)<=(p:Int):=by have:=k20.2 (k06 i5 c6);rwa [k08] at this
         have l9:(t:Int)*(C:Int)<=(p:Int):=by have:=k20.2 (k06 i6 c6);rwa [k08] at this
         have m0:(0:Int)<=(t:Int)*(q:Int):=k0W (k0d _) (k0d _);have m2:(0:Int)<=(t:Int)*(Y:Int):=k0W (k0d _) (k0d _);have m5:(0:Int)<=(t:Int)*(C:Int):=k0W (k0d _) (k0d _);have j9:=vv c6;clear i5 i6 c6;go_wp2;go_roundg (p-t*q)
         case measure=>have:=j7.o;omega
         case rel =>have:=j9.o;exact⟨q,p-t*q,M,Y,M+t*Y,G,C,G+t*C,!ev,rfl,k0v _ (by omega),rfl,rfl,k0v _ (by omega),rfl,rfl,k0v _ (by omega),rfl,rfl,HN.o,by omega,j8.o,lr⟩
        ·have c7:0<y:=by have:=g2.o;omega
         have i7:=vv c7;have f4:(C<=q/\¬G+C<=p-q)\/¬C<=q:=by
          by_cases h:C<=q
          ·exact .inl ⟨h,fun h'=>P ⟨h,h'⟩⟩
          ·exact .inr h
         clear i4 l1 l2 l3 P;rcases f2.o with ⟨rfl,m6⟩|⟨A0,B0,N⟩
         ·clear f2;have d9:=vv (divWords _ _ _ _ _ _ _ _ _ f.o r.o c7 (by omega));have a3:Hid (Nat.gcd y (x%y)=Nat.gcd a b):=vv (by rw[<- S.o,k19 y,<- k2z,k19]);have i8:=vv (k0j x c7);clear c7;rcases f4 with ⟨T,d8⟩|T;all_goals
           go_wp2_with fail;refine d9.o.mono ?_;rintro e' F ⟨V,W,X,A4,m4,c4,rfl,D,I,a4,b0,g⟩;have c8:=vv I;have k0:=vv (r.o.below g rfl);go_wp2;go_roundg (y+x%y)
           case measure=>have:=i8.o;have:=c5.o;omega
           case rel=>exact⟨Q,v,R,y,A4,m4,c4,x%y,rfl,rfl,k0.o,c8.o,k16 i8.o,a3.o,by omega,i.o.trans (g.mono i.o.size),J.o.below g,lr⟩
         ·have m7:=N.p0;have m8:=N.bu0;have m9:=N.bu1;have n0:=N.bv0;have n2:=N.bv1;have e0:=vv (q7u N);have i9:=vv ((q5H N).trans S.o);have j0:=vv N.le;have b5:=N.ea;have b6:=N.eb;have b7:A0<=x:=by have:=e0.o;omega
          have e2:B0<=x:=by have:=e0.o;omega
          have n3:((v0:Int)==0)=qb:=by simp;omega
          clear f2 N c7;cases ev
          ·rw[k0o (by decide)] at b5 b6;have f5:=vv (blend K Q n1 v L R x y A0 (-(u0:Int)) (v0:Int) _ f.o r.o (by omega) c5.o (by omega) (by omega) (by omega) (by omega) (by rw[b5,k0P];omega) b7);have f6:=vv b6;have a8:=vv e2;have H:=vv b7;clear b5 b6 b7 e2;rcases f4 with ⟨T,d8⟩|T;all_goals
            go_wp2_with fail;refine f5.o.mono ?_;rintro e' F ⟨V,W,X,rfl,D,a4,g⟩;go_wp2_with fail;refine(blend K Q n1 v L R x y B0 (M:Int) (-(G:Int)) _ (f.o.below g rfl) (r.o.below g rfl) (by omega) c5.o (by omega) (by omega) (by omega) (by omega) (by rw[f6.o,k0P];omega) a8.o).mono ?_;rintro e' w4 ⟨A4,m4,c4,rfl,I,b0,U⟩;have c8:=vv I;have f7:=vv (D.below U rfl);have f8:=vv (D.le_of f.o H.o);clear D I;go_wp2;go_roundg (A0+B0)
            case measure=>have:=e0.o;have:=i7.o;omega
            case rel =>have:=f8.o;exact⟨V,W,X,A0,A4,m4,c4,B0,rfl,rfl,f7.o,c8.o,j0.o,i9.o,by omega,i.o.trans ((g.trans (U.mono g.size)).mono i.o.size),(J.o.below g).below U,lr⟩
          ·rw[k0n rfl] at b5 b6;have f5:=vv (blend K Q n1 v L R x y A0 (u0:Int) (-(v0:Int)) _ f.o r.o (by omega) c5.o (by omega) (by omega) (by omega) (by omega) (by rw[b5,k0P];omega) b7);have f6:=vv b6;have a8:=vv e2;have H:=vv b7;clear b5 b6 b7 e2;rcases f4 with ⟨T,d8⟩|T;all_goals
            go_wp2_with fail;refine f5.o.mono ?_;rintro e' F ⟨V,W,X,rfl,D,a4,g⟩;go_wp2_with fail;refine(blend K Q n1 v L R x y B0 (-(M:Int)) (G:Int) _ (f.o.below g rfl) (r.o.below g rfl) (by omega) c5.o (by omega) (by omega) (by omega) (by omega) (by rw[f6.o,k0P];omega) a8.o).mono ?_;rintro e' w4 ⟨A4,m4,c4,rfl,I,b0,U⟩;have c8:=vv I;have f7:=vv (D.below U rfl);have f8:=vv (D.le_of f.o H.o);clear D I;go_wp2;go_roundg (A0+B0)
            case measure=>have:=e0.o;have:=i7.o;omega
            case rel =>have:=f8.o;exact⟨V,W,X,A0,A4,m4,c4,B0,rfl,rfl,f7.o,c8.o,j0.o,i9.o,by omega,i.o.trans ((g.trans (U.mono g.size)).mono i.o.size),(J.o.below g).below U,lr⟩
      ·by_cases s:y=0
       ·obtain rfl:v=0:=by rw[<- r.o.words];exact q06.2 s
        have a3:Hid (x=Nat.gcd a b):=vv (by rw[<- S.o,s,k22]);clear s;have d7:=vv (copied K n1 L (toL x) l f.o);go_wp2_with fail;refine d7.o.mono ?_;rintro e F ⟨rfl,hO,g⟩;have b9:=vv hO;clear hO;go_wp2;go_ret;refine⟨_,n1,n1,rfl,?_,Fr.at_ i.o.size,i.o.trans (g.mono i.o.size)⟩;rw[<- a3.o];exact b9.o.rd f.o.len.symm lr f.o.sm
       ·have j1:0<y:=k0G s;have n4:((v:Int)==0)=qb:=by
         have:v≠0:=fun e=>s (by have:=r.o.words;rw[e] at this;exact q06.1 this)
         simp;omega
        have c9:y<4294967296^2:=by have:=q0f y;rw[r.o.words] at this;exact k02 this (k04 (by omega) (by omega))
        have e3:x%y<4294967296^2:=k2U (k0j _ j1) c9;have j2:=vv (two_words c9);have j3:=vv (two_words e3);rw[show(4294967296:Nat)^2=18446744073709551616 by rfl] at c9 e3;have k1:=vv c9;have g4:=vv e3;have a3:Hid (Nat.gcd y (x%y)=Nat.gcd a b):=vv (by rw[<- S.o,k19 y,<- k2z,k19]);have d9:=vv (divWords _ _ _ _ _ _ _ _ l f.o r.o j1 (by omega));clear s c9 e3;go_wp2_with fail;refine d9.o.mono ?_;rintro e F ⟨V,W,X,A4,m4,c4,rfl,D,I,a4,b0,g⟩;have c2:=vv (toUint _ _ _ _ F (r.o.below g rfl));have j4:=vv (toUint _ _ _ _ F I);rw[j2.o] at c2;rw[j3.o] at j4;have g5:=vn i g;clear D I a4 b0 g d9 j2 j3;generalize x%y=z at *
        go_wp2_with (first
         | (go_at_call 322;(with_reducible refine c2.o.mono ?_);rintro e u ⟨rfl,rfl⟩)
         | (go_at_call 322;(with_reducible refine j4.o.mono ?_);rintro e u ⟨rfl,rfl⟩))
        go_loopg [20,21] z (fun k s0 s1 wx=>∃p q j:Nat,s0=.int .u64 p/\s1=.int .u64 q/\wx=F.drewN j/\Nat.gcd p q=Nat.gcd a b/\p<18446744073709551616/\q<18446744073709551616/\q<=k)
        case atStart=>exact⟨y,z,0,rfl,rfl,rfl,a3.o,k1.o,g4.o,lr⟩
        case round =>
         obtain⟨p,q,j,rfl,rfl,rfl,j5,hp,E,i4⟩:=hrel;have j6:=vv j5;have HP:=vv hp;have HQ:=vv E;clear j5;by_cases f3:q=0
         ·subst f3;have k2:=vv (fromUint p (F.drewN j) hp);clear hp E;go_wp2_with fail;refine k2.o.mono ?_;rintro e w4 ⟨A4,m4,c4,rfl,I,b0,U⟩;go_wp2;go_ret;have f9:Below w.heap.size w (F.drewN j):=q0k g5.o j;refine⟨A4,m4,c4,rfl,?_,b0.mono f9.size,f9.trans (U.mono f9.size)⟩;rw[<- j6.o,k22];exact I
         ·have t0:((q:Int)==0)=qb:=by simp;omega
          have n5:(p:Int)%(q:Int)=((p%q:Nat):Int):=(k1Y _ _).symm;have HM:=vv (k0j p (k0G f3));go_wp2_with fail;go_quiet (fail);go_wp2;go_roundg (p%q)
          case measure=>have:=HM.o;omega
          case rel =>exact⟨q,p%q,_,by go_num,by go_num,World.drewN_drewN _ _ _,by rw[k19 q,<- k2z,k19];exact j6.o,HQ.o,by have:=HM.o;have:=HQ.o;omega,lr⟩
end A
end Go.Proofs.YtabcgemembkkcaaGreatDoor
