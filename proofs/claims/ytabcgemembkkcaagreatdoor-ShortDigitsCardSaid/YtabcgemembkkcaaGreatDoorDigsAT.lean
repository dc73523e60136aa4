/- Lemmas. -/
import Derived.Test.YtabcgemembkkcaaGreatDoorDigsAS
set_option linter.all false
set_option maxHeartbeats 1000000
set_option maxRecDepth 100000
open Go.Proofs.Tryz
open Nat renaming eq_one_of_mul_eq_one_left->qa,div_mul_le_self->qc,le_of_not_lt->qd,min_comm->qe
open Bool renaming false->qb
namespace Go.Proofs.YtabcgemembkkcaaGreatDoor
namespace AB
open Go Go.RowKit
theorem two_words{N:Nat}(h:N<4294967296^2):nth (toL N) 0+4294967296*nth (toL N) 1=N:=by rw[q19,q19,k0B,k1A];rw[show(4294967296:Nat)^2=18446744073709551616 by rfl] at h;omega
def qeb(a b:Nat)(w0:World)(s0 s1:Value)(wx:World):Prop:=
 ∃(A:Option Addr) (n c x:Nat) (B:Option Addr) (m d y:Nat),s0=.slice A n c/\s1=.slice B m d/\Rd wx A n c (toL x)/\Rd wx B m d (toL y)/\y<=x/\Nat.gcd x y=Nat.gcd a b/\n<549755813888/\Below w0.heap.size w0 wx/\Std wx
end AB
namespace A
open AB
open Go Go.RowKit
theorem common(A B:Option Addr)(n m c d a b:Nat)(w:World)(ha:Rd w A n c (toL a))(hb:Rd w B m d (toL b))(hs:Std w)(hn:n<549755813888)(hm:m<549755813888):Calls Tryz.prog 288 #[.slice A n c,.slice B m d] w (q0g (Nat.gcd a b) w):=by
 have O:Calls Tryz.prog 280 #[.slice A n c,.slice B m d] w fun e u=>e=.returned (.int .i64 (q14 a b))/\Below w.heap.size w u:=by have:=cmpWords A B n m c d (toL a) (toL b) w ha hb (by rw[q04]) (by rw[q04]);rw[q04,q04] at this;exact this
 have HC:=vv O;have HA:=vv ha;have HB:=vv hb;have HS:=vv hs;clear O ha hb hs;go_enter func288,ntmps288;go_wp2_with fail;refine HC.o.mono ?_;rintro e w1 ⟨rfl,b6⟩;have e2:=vv (HA.o.below b6 rfl);have e3:=vv (HB.o.below b6 rfl);have e4:=vv b6;have e5:=vv (HS.o.below b6);clear b6;go_upto_if 25 with fail;go_cut [0,1] (fun s0 s1 wx=>qeb a b w s0 s1 wx)
 case first =>
  rcases k0A a b with h|h
  ·have t0:q14 a b<0:=by rw[q1G h];omega
   go_wp2;go_meet
   case rel=>exact⟨B,m,d,b,A,n,c,a,rfl,rfl,e3.o,e2.o,k1l h,k1k b a,hm,e4.o,e5.o⟩
  ·have t0:0<=q14 a b:=q1F.2 h;go_wp2;go_meet
   case rel=>exact⟨A,n,c,a,B,m,d,b,rfl,rfl,e2.o,e3.o,h,rfl,hn,e4.o,e5.o⟩
 case rest =>
  obtain⟨K,n1,c1,x,P,v,Q,y,rfl,rfl,hA,hB,N,hg,e6,a0,a1⟩:=hcut;have f:=vv hA;have r:=vv hB;have R:=vv hg;have i:=vv a0;have J:=vv a1;have g4:v<=n1:=hB.le_of hA N;have d3:v=0↔y=0:=by rw[<- hB.words];exact q06
  have d4:n1=0↔x=0:=by rw[<- hA.words];exact q06
  clear HC HA HB HS e2 e3 e4 e5 hA hB hg a0 a1;obtain⟨l,rfl⟩:∃l:World,l=wc:=⟨_,rfl⟩;rcases k01 y with s|s
  ·obtain rfl:v=0:=d3.2 s;have HY:=vv s;clear s d3;have Y:Hid (x=Nat.gcd a b):=vv (by rw[<- R.o,HY.o,k2b]);have d5:=vv (copied K n1 c1 (toL x) l f.o);clear N;have d0:n1=0\/(0<n1/\0<x):=by
    rcases k01 n1 with h|h
    ·exact .inl h
    ·exact .inr ⟨h,k0O fun e=>by have:=d4.2 e;omega⟩
   clear d4;rcases d0 with rfl|⟨hn0',hx0⟩
   ·go_wp2_with fail;go_loopg [0,1] 0 (fun k s0 s1 wx=>s0=.slice K 0 c1/\s1=.slice P 0 Q/\wx=l)
    case atStart=>exact⟨rfl,rfl,rfl⟩
    case round =>obtain⟨rfl,rfl,rfl⟩:=hrel;go_wp2_with fail;refine d5.o.mono ?_;rintro e F ⟨rfl,hO,g⟩;have b7:=vv hO;clear hO;go_wp2;go_ret;refine⟨_,0,0,rfl,?_,Fr.at_ i.o.size,i.o.trans (g.mono i.o.size)⟩;rw[<- Y.o];exact b7.o.rd f.o.len.symm lr f.o.sm
   ·have b8:=vv (zeros _ _ _ _ l f.o hx0 J.o);have H:=vv (bitLen _ _ _ _ l f.o);have b2:bl x<=17592186044416:=by
     have:x<2^(32*n1):=by
      have:=q0p x;rw[f.o.words] at this
      rwa [k1r]
     have:=q0A this;omega
    have b4:=q1h hx0;have E:((((tz x:Nat):Int)+1)==((bl x:Nat):Int))=true\/((((tz x:Nat):Int)+1)==((bl x:Nat):Int))=qb:=by
     cases((((tz x:Nat):Int)+1)==((bl x:Nat):Int))
     ·exact .inr rfl
     ·exact .inl rfl
    rcases E with E|E;all_goals
     go_wp2_with (first
      | (go_at_call 330;(with_reducible refine b8.o.mono ?_);rintro e u ⟨rfl,rfl⟩)
      | (go_at_call 174;(with_reducible refine H.o.mono ?_);rintro e u ⟨rfl,rfl⟩))
     go_loopg [0,1] 0 (fun k s0 s1 wx=>s0=.slice K n1 c1/\s1=.slice P 0 Q/\wx=l)
     case atStart=>exact⟨rfl,rfl,rfl⟩
     case round =>obtain⟨rfl,rfl,rfl⟩:=hrel;go_wp2_with fail;refine d5.o.mono ?_;rintro e F ⟨rfl,hO,g⟩;have b7:=vv hO;clear hO;go_wp2;go_ret;refine⟨_,n1,n1,rfl,?_,Fr.at_ i.o.size,i.o.trans (g.mono i.o.size)⟩;rw[<- Y.o];exact b7.o.rd f.o.len.symm lr f.o.sm
  ·have f8:0<v:=k0O fun e=>by have:=d3.1 e;omega
   have hx0:0<x:=k03 s N;have hn0':0<n1:=k0O fun e=>by have:=d4.1 e;omega
   clear d3 d4;have g5:=vv (zeros _ _ _ _ l r.o s J.o);have a6:=vv (bitLen _ _ _ _ l r.o);have b8:=vv (zeros _ _ _ _ l f.o hx0 J.o);have H:=vv (bitLen _ _ _ _ l f.o);have b1:bl y<=17592186044416:=by
    have:y<2^(32*v):=by
     have:=q0p y;rw[r.o.words] at this
     rwa [k1r]
    have:=q0A this;omega
   have b2:bl x<=17592186044416:=by
    have:x<2^(32*n1):=by
     have:=q0p x;rw[f.o.words] at this
     rwa [k1r]
    have:=q0A this;omega
   have b3:=q1h s;have b4:=q1h hx0;go_upto_if 38 with (first
    | (go_at_call 330;(with_reducible refine g5.o.mono ?_);rintro e u ⟨rfl,rfl⟩)
    | (go_at_call 174;(with_reducible refine a6.o.mono ?_);rintro e u ⟨rfl,rfl⟩))
   have a7:Below l.heap.size l (l.alloc (.cells #[.int .u32 1] 54)):=(Below.refl _ _).alloc lr _;have c8:Own (l.alloc (.cells #[.int .u32 1] 54)) l.heap.size 54 [1]:=Own.lit _ (q0y.2 ⟨by omega,q0L⟩) (by simp [q0k]);have e7:=vv (c8.rd (n:=1) (c:=1) rfl lr (by omega));have a3:=vv a7;have a4:=vv (zeros _ _ _ _ _ (r.o.below a7 rfl) s (J.o.below a7));have a5:=vv (zeros _ _ _ _ _ (f.o.below a7 rfl) hx0 (J.o.below a7));clear a7 c8;by_cases E:tz y+1=bl y
   ·have g6:((tz y:Nat):Int)+1=((bl y:Nat):Int):=by omega
    have e8:=vv (q1W hx0 s E);clear E;have em:min ((tz x:Nat):Int) ((tz y:Nat):Int)=((min (tz x) (tz y):Nat):Int):=by omega
    go_wp2_with (first
     | (go_at_call 330;(with_reducible refine a4.o.mono ?_);rintro e u ⟨rfl,rfl⟩)
     | (go_at_call 330;(with_reducible refine a5.o.mono ?_);rintro e u ⟨rfl,rfl⟩))
    refine(up _ _ _ _ (min (tz x) (tz y)) _ rfl _ e7.o (by omega)).mono ?_;rintro e F ⟨U,V,c3,rfl,D,Z,g⟩;go_wp2;go_ret;refine⟨U,V,c3,rfl,?_,Z.mono ?_,i.o.trans ((a3.o.trans (g.mono a3.o.size)).mono i.o.size)⟩
    ·rw[<- R.o,e8.o];exact D
    ·exact k07 i.o.size a3.o.size
   ·have g6:((((tz y:Nat):Int)+1)==((bl y:Nat):Int))=qb:=by simp;omega
    clear E;by_cases E:tz x+1=bl x
    ·have g7:((tz x:Nat):Int)+1=((bl x:Nat):Int):=by omega
     have e8:Hid (Nat.gcd x y=1*2^min (tz x) (tz y)):=vv (by rw[k1k,qe];exact q1W s hx0 E);clear E;have em:min ((tz x:Nat):Int) ((tz y:Nat):Int)=((min (tz x) (tz y):Nat):Int):=by omega
     go_upto_if 61 with (first
      | (go_at_call 330;(with_reducible refine b8.o.mono ?_);rintro e u ⟨rfl,rfl⟩)
      | (go_at_call 174;(with_reducible refine H.o.mono ?_);rintro e u ⟨rfl,rfl⟩))
     go_wp2_with (first
      | (go_at_call 330;(with_reducible refine a4.o.mono ?_);rintro e u ⟨rfl,rfl⟩)
      | (go_at_call 330;(with_reducible refine a5.o.mono ?_);rintro e u ⟨rfl,rfl⟩))
     refine(up _ _ _ _ (min (tz x) (tz y)) _ rfl _ e7.o (by omega)).mono ?_;rintro e F ⟨U,V,c3,rfl,D,Z,g⟩;go_wp2;go_ret;refine⟨U,V,c3,rfl,?_,Z.mono ?_,i.o.trans ((a3.o.trans (g.mono a3.o.size)).mono i.o.size)⟩
     ·rw[<- R.o,e8.o];exact D
     ·exact k07 i.o.size a3.o.size
    ·have g7:((((tz x:Nat):Int)+1)==((bl x:Nat):Int))=qb:=by simp;omega
     clear E;go_wp2_with (first
      | (go_at_call 330;(with_reducible refine b8.o.mono ?_);rintro e u ⟨rfl,rfl⟩)
      | (go_at_call 174;(with_reducible refine H.o.mono ?_);rintro e u ⟨rfl,rfl⟩))
     clear g6 g7 g5 a6 b8 H a4 a5 e7 a3 b1 b2 b3 b4;have HX:=vv N;clear N g4 hx0 s f8 hn0';go_loopg [0,1] (x+y) (fun k s0 s1 wx=>∃(A:Option Addr) (n c x:Nat) (B:Option Addr) (m d y:Nat),s0=.slice A n c/\s1=.slice B m d/\Rd wx A n c (toL x)/\Rd wx B m d (toL y)/\y<=x/\Nat.gcd x y=Nat.gcd a b/\n<549755813888/\Below w.heap.size w wx/\Std wx/\x+y<=k)
     case atStart=>exact⟨K,n1,c1,x,P,v,Q,y,rfl,rfl,f.o,r.o,HX.o,R.o,e6,i.o,J.o,lr⟩
     case round =>
      clear f r R i J HX e6;obtain⟨K,n1,c1,x,P,v,Q,y,rfl,rfl,hA,hB,N,hg,e6,a0,a1,hk⟩:=hrel;have f:=vv hA;have r:=vv hB;have R:=vv hg;have i:=vv a0;have J:=vv a1;have g4:v<=n1:=hB.le_of hA N;clear hA hB hg a0 a1;obtain⟨l,rfl⟩:∃l:World,l=wr:=⟨_,rfl⟩;by_cases hm2:2<v
      ·have c9:18446744073709551616<=y:=by apply qd;intro O;have:=r.o.bound (k:=2) (by rw[show(4294967296:Nat)^2=18446744073709551616 by rfl];exact O);omega
       have f9:64<bl x:=by apply k2G;intro O;have h1:=q0O x;have h2:2^bl x<=2^64:=k00 (by omega) O;omega
       have d2:bl x<=17592186044416:=by
        have h1:x<2^(32*n1):=by
         have:=q0p x;rw[f.o.words] at this
         rwa [k1r]
        have:=q0A h1;omega
       obtain⟨e,he⟩:=yx (bl x-60);have k4:((bl x:Nat):Int)-60=(e:Int):=by omega
       have a2:x<2^(e+60):=by rw[he,show bl x-60+60=bl x by omega];exact q0O x
       have e9:x/2^e<1152921504606846976:=by apply k0s;rw[show(1152921504606846976:Nat)=2^60 by rfl,<- k0e];exact a2
       have H:=vv (bitLen _ _ _ _ l f.o);have g8:=vv (topBits K n1 c1 x e (e:Int) rfl l f.o (by omega) a2);have b9:=vv (topBits P v Q y e (e:Int) rfl l r.o (by omega) (k0I N a2));have g9:=vv (q2X N e9);have i0:=vv e9;have g0:=vv c9;have c0:=vv N;have k5:e<=17592186044416:=by omega
       clear he a2 f9 d2 e9 c9;go_wp2_with (first
        | (go_at_call 174;(with_reducible refine H.o.mono ?_);rintro e' u ⟨rfl,rfl⟩)
        | (go_at_call 331;(with_reducible refine g8.o.mono ?_);rintro e' u ⟨rfl,rfl⟩)
        | (go_at_call 331;(with_reducible refine b9.o.mono ?_);rintro e' u ⟨rfl,rfl⟩))
       go_loopg [6,7,8,9,10,11,12,13,14] (y/2^e) (fun k s6 s7 s8 s9 s10 s11 s12 s13 s14 wx=>∃(p q u0 L W v0 G C:Nat) (ev:Bool),s6=.int .u64 p/\s7=.int .u64 q/\s8=.int .u64 u0/\s9=.int .u64 L/\s10=.int .u64 W/\s11=.int .u64 v0/\s12=.int .u64 G/\s13=.int .u64 C/\s14=.bool ev /\wx=l/\Lehmer x y e p q L W G C ev/\C<=2305843009213693952/\((v0=0/\u0<=1)\/∃A B,Good x y u0 L v0 G ev A B)/\q<=k)
       case atStart=>exact⟨x/2^e,y/2^e,0,1,0,0,0,1,qb,rfl,rfl,rfl,rfl,rfl,rfl,rfl,rfl,rfl,rfl,g9.o,by omega,.inl ⟨rfl,by omega⟩,lr⟩
       case round =>
        obtain⟨p,q,u0,L,W,v0,G,C,ev,rfl,rfl,rfl,rfl,rfl,rfl,rfl,rfl,rfl,rfl,X,k6,i1,i2⟩:=hrel;have HL:=vv X;have l1:=X.hu1;have l2:=X.hu2;have l3:=X.hs;have l4:=X.hv;have l5:=X.h1;have l6:=X.hxy;have l7:=X.hx;have f0:=vv i1;clear X i1 H g8 b9 g9;by_cases O:C<=q/\G+C<=p-q
        ·obtain⟨S,d6⟩:=O;have g1:=vv (q27 HL.o i0.o S);have k1:=g1.o;have f1:((q:Int)==0)=qb:=by simp;omega
         have HN:=vv (q3r HL.o S);have j5:Hid (p-p/q*q<q):=vv (by have h1:=k0i p (show 0<q by omega);have e1:=k2g p q;rw[k0g] at e1;omega);have j6:Hid ((G=0/\L<=1)\/∃A B,Good x y L W G C (!ev) A B):=vv (by
          rcases k01 G with h|h
          ·left;refine⟨h,?_⟩;have hd:=HL.o.det;have h1:=HL.o.hs;have h2:=HL.o.hu1;subst h;have k2:C<=1:=by
            cases ev
            ·simp only[k1B,k39,k1m] at hd;have:=qa (m:=L) (n:=C) (by omega);omega
            ·simp only[k3e,k1m] at hd;omega
           omega
          ·right;exact q3s HL.o i0.o S d6 h)
         have c2:p/q*q<=p:=qc p q;have k7:p/q<=p:=k0q p q;have i3:p/q*W<=p/q*q:=k0m _ (by omega);have i4:p/q*C<=p/q*q:=k0m _ (by omega);have k3:(p:Int)/(q:Int)=((p/q:Nat):Int):=(k1n _ _).symm;generalize p/q=t at *
         have k8:(t:Int)*(q:Int)<=(p:Int):=by have:=k2a.2 c2;rwa [k0f] at this
         have k9:(t:Int)*(W:Int)<=(p:Int):=by have:=k2a.2 (k07 i3 c2);rwa [k0f] at this
         have l0:(t:Int)*(C:Int)<=(p:Int):=by have:=k2a.2 (k07 i4 c2);rwa [k0f] at this
         have l8:(0:Int)<=(t:Int)*(q:Int):=k18 (k0k _) (k0k _);have l9:(0:Int)<=(t:Int)*(W:Int):=k18 (k0k _) (k0k _);have m0:(0:Int)<=(t:Int)*(C:Int):=k18 (k0k _) (k0k _);have j7:=vv c2;clear i3 i4 c2;go_wp2;go_roundg (p-t*q)
         case measure=>have:=j5.o;omega
         case rel =>have:=j7.o;exact⟨q,p-t*q,L,W,L+t*W,G,C,G+t*C,!ev,rfl,k0z _ (by omega),rfl,rfl,k0z _ (by omega),rfl,rfl,k0z _ (by omega),rfl,rfl,HN.o,by omega,j6.o,lr⟩
        ·have c5:0<y:=by have:=g0.o;omega
         have i5:=vv c5;have f2:(C<=q/\¬G+C<=p-q)\/¬C<=q:=by
          by_cases h:C<=q
          ·exact .inl ⟨h,fun h'=>O ⟨h,h'⟩⟩
          ·exact .inr h
         clear i2 l1 l2 l3 O;rcases f0.o with ⟨rfl,m2⟩|⟨A0,B0,M⟩
         ·clear f0;have d7:=vv (divWords _ _ _ _ _ _ _ _ _ f.o r.o c5 (by omega));have Y:Hid (Nat.gcd y (x%y)=Nat.gcd a b):=vv (by rw[<- R.o,k1k y,<- k2H,k1k]);have i6:=vv (k0i x c5);clear c5;rcases f2 with ⟨S,d6⟩|S;all_goals
           go_wp2_with fail;refine d7.o.mono ?_;rintro e' F ⟨U,V,c3,A4,m4,c4,rfl,D,I,Z,a8,g⟩;have c6:=vv I;have j8:=vv (r.o.below g rfl);go_wp2;go_roundg (y+x%y)
           case measure=>have:=i6.o;have:=c0.o;omega
           case rel=>exact⟨P,v,Q,y,A4,m4,c4,x%y,rfl,rfl,j8.o,c6.o,k1l i6.o,Y.o,by omega,i.o.trans (g.mono i.o.size),J.o.below g,lr⟩
         ·have m5:=M.p0;have m6:=M.bu0;have m7:=M.bu1;have m8:=M.bv0;have m9:=M.bv1;have d8:=vv (q84 M);have i7:=vv ((q6e M).trans R.o);have i8:=vv M.le;have a9:=M.ea;have b0:=M.eb;have b5:A0<=x:=by have:=d8.o;omega
          have d9:B0<=x:=by have:=d8.o;omega
          have n0:((v0:Int)==0)=qb:=by simp;omega
          clear f0 M c5;cases ev
          ·rw[k0r (by decide)] at a9 b0;have f3:=vv (blend K P n1 v c1 Q x y A0 (-(u0:Int)) (v0:Int) _ f.o r.o (by omega) c0.o (by omega) (by omega) (by omega) (by omega) (by rw[a9,k1e];omega) b5);have f4:=vv b0;have a6:=vv d9;have H:=vv b5;clear a9 b0 b5 d9;rcases f2 with ⟨S,d6⟩|S;all_goals
            go_wp2_with fail;refine f3.o.mono ?_;rintro e' F ⟨U,V,c3,rfl,D,Z,g⟩;go_wp2_with fail;refine(blend K P n1 v c1 Q x y B0 (L:Int) (-(G:Int)) _ (f.o.below g rfl) (r.o.below g rfl) (by omega) c0.o (by omega) (by omega) (by omega) (by omega) (by rw[f4.o,k1e];omega) a6.o).mono ?_;rintro e' w4 ⟨A4,m4,c4,rfl,I,a8,T⟩;have c6:=vv I;have f5:=vv (D.below T rfl);have f6:=vv (D.le_of f.o H.o);clear D I;go_wp2;go_roundg (A0+B0)
            case measure=>have:=d8.o;have:=i5.o;omega
            case rel =>have:=f6.o;exact⟨U,V,c3,A0,A4,m4,c4,B0,rfl,rfl,f5.o,c6.o,i8.o,i7.o,by omega,i.o.trans ((g.trans (T.mono g.size)).mono i.o.size),(J.o.below g).below T,lr⟩
          ·rw[k0p rfl] at a9 b0;have f3:=vv (blend K P n1 v c1 Q x y A0 (u0:Int) (-(v0:Int)) _ f.o r.o (by omega) c0.o (by omega) (by omega) (by omega) (by omega) (by rw[a9,k1e];omega) b5);have f4:=vv b0;have a6:=vv d9;have H:=vv b5;clear a9 b0 b5 d9;rcases f2 with ⟨S,d6⟩|S;all_goals
            go_wp2_with fail;refine f3.o.mono ?_;rintro e' F ⟨U,V,c3,rfl,D,Z,g⟩;go_wp2_with fail;refine(blend K P n1 v c1 Q x y B0 (-(L:Int)) (G:Int) _ (f.o.below g rfl) (r.o.below g rfl) (by omega) c0.o (by omega) (by omega) (by omega) (by omega) (by rw[f4.o,k1e];omega) a6.o).mono ?_;rintro e' w4 ⟨A4,m4,c4,rfl,I,a8,T⟩;have c6:=vv I;have f5:=vv (D.below T rfl);have f6:=vv (D.le_of f.o H.o);clear D I;go_wp2;go_roundg (A0+B0)
            case measure=>have:=d8.o;have:=i5.o;omega
            case rel =>have:=f6.o;exact⟨U,V,c3,A0,A4,m4,c4,B0,rfl,rfl,f5.o,c6.o,i8.o,i7.o,by omega,i.o.trans ((g.trans (T.mono g.size)).mono i.o.size),(J.o.below g).below T,lr⟩
      ·by_cases s:y=0
       ·obtain rfl:v=0:=by rw[<- r.o.words];exact q06.2 s
        have Y:Hid (x=Nat.gcd a b):=vv (by rw[<- R.o,s,k2b]);clear s;have d5:=vv (copied K n1 c1 (toL x) l f.o);go_wp2_with fail;refine d5.o.mono ?_;rintro e F ⟨rfl,hO,g⟩;have b7:=vv hO;clear hO;go_wp2;go_ret;refine⟨_,n1,n1,rfl,?_,Fr.at_ i.o.size,i.o.trans (g.mono i.o.size)⟩;rw[<- Y.o];exact b7.o.rd f.o.len.symm lr f.o.sm
       ·have i9:0<y:=k0O s;have n2:((v:Int)==0)=qb:=by
         have:v≠0:=fun e=>s (by have:=r.o.words;rw[e] at this;exact q06.1 this)
         simp;omega
        have c7:y<4294967296^2:=by have:=q0p y;rw[r.o.words] at this;exact k03 this (k00 (by omega) (by omega))
        have e0:x%y<4294967296^2:=k3h (k0i _ i9) c7;have j0:=vv (two_words c7);have j1:=vv (two_words e0);rw[show(4294967296:Nat)^2=18446744073709551616 by rfl] at c7 e0;have j9:=vv c7;have g2:=vv e0;have Y:Hid (Nat.gcd y (x%y)=Nat.gcd a b):=vv (by rw[<- R.o,k1k y,<- k2H,k1k]);have d7:=vv (divWords _ _ _ _ _ _ _ _ l f.o r.o i9 (by omega));clear s c7 e0;go_wp2_with fail;refine d7.o.mono ?_;rintro e F ⟨U,V,c3,A4,m4,c4,rfl,D,I,Z,a8,g⟩;have b9:=vv (toUint _ _ _ _ F (r.o.below g rfl));have j2:=vv (toUint _ _ _ _ F I);rw[j0.o] at b9;rw[j1.o] at j2;have g3:=vn i g;clear D I Z a8 g d7 j0 j1;generalize x%y=z at *
        go_wp2_with (first
         | (go_at_call 322;(with_reducible refine b9.o.mono ?_);rintro e u ⟨rfl,rfl⟩)
         | (go_at_call 322;(with_reducible refine j2.o.mono ?_);rintro e u ⟨rfl,rfl⟩))
        go_loopg [20,21] z (fun k s0 s1 wx=>∃p q j:Nat,s0=.int .u64 p/\s1=.int .u64 q/\wx=F.drewN j/\Nat.gcd p q=Nat.gcd a b/\p<18446744073709551616/\q<18446744073709551616/\q<=k)
        case atStart=>exact⟨y,z,0,rfl,rfl,rfl,Y.o,j9.o,g2.o,lr⟩
        case round =>
         obtain⟨p,q,j,rfl,rfl,rfl,j3,hp,E,i2⟩:=hrel;have j4:=vv j3;have HQ:=vv E;clear j3;by_cases f1:q=0
         ·subst f1;have k0:=vv (fromUint p (F.drewN j) hp);clear hp E;go_wp2_with fail;refine k0.o.mono ?_;rintro e w4 ⟨A4,m4,c4,rfl,I,a8,T⟩;go_wp2;go_ret;have f7:Below w.heap.size w (F.drewN j):=q0n g3.o j;refine⟨A4,m4,c4,rfl,?_,a8.mono f7.size,f7.trans (T.mono f7.size)⟩;rw[<- j4.o,k2b];exact I
         ·have t0:((q:Int)==0)=qb:=by simp;omega
          have n3:(p:Int)%(q:Int)=((p%q:Nat):Int):=(k1x _ _).symm;have HM:=vv (k0i p (k0O f1));go_wp2_with fail;go_quiet (fail);go_wp2;go_roundg (p%q)
          case measure=>have:=HM.o;omega
          case rel =>exact⟨q,p%q,_,by go_num,by go_num,World.drewN_drewN _ _ _,by rw[k1k q,<- k2H,k1k];exact j4.o,HQ.o,by have:=HM.o;have:=HQ.o;omega,lr⟩
end A
namespace B
open AB
open Go Go.RowKit
theorem common(A B:Option Addr)(n m c d a b:Nat)(w:World)(ha:Rd w A n c (toL a))(hb:Rd w B m d (toL b))(hs:Std w)(hn:n<549755813888)(hm:m<549755813888):Calls Tryz.prog 208 #[.slice A n c,.slice B m d] w (q0g (Nat.gcd a b) w):=by
 have O:Calls Tryz.prog 206 #[.slice A n c,.slice B m d] w fun e u=>e=.returned (.int .i64 (q14 a b))/\Below w.heap.size w u:=by have:=cmpWords A B n m c d (toL a) (toL b) w ha hb (by rw[q04]) (by rw[q04]);rw[q04,q04] at this;exact this
 have HC:=vv O;have HA:=vv ha;have HB:=vv hb;have HS:=vv hs;clear O ha hb hs;go_enter func208,ntmps208;go_wp2_with fail;refine HC.o.mono ?_;rintro e w1 ⟨rfl,b6⟩;have e2:=vv (HA.o.below b6 rfl);have e3:=vv (HB.o.below b6 rfl);have e4:=vv b6;have e5:=vv (HS.o.below b6);clear b6;go_upto_if 25 with fail;go_cut [0,1] (fun s0 s1 wx=>qeb a b w s0 s1 wx)
 case first =>
  rcases k0A a b with h|h
  ·have t0:q14 a b<0:=by rw[q1G h];omega
   go_wp2;go_meet
   case rel=>exact⟨B,m,d,b,A,n,c,a,rfl,rfl,e3.o,e2.o,k1l h,k1k b a,hm,e4.o,e5.o⟩
  ·have t0:0<=q14 a b:=q1F.2 h;go_wp2;go_meet
   case rel=>exact⟨A,n,c,a,B,m,d,b,rfl,rfl,e2.o,e3.o,h,rfl,hn,e4.o,e5.o⟩
 case rest =>
  obtain⟨K,n1,c1,x,P,v,Q,y,rfl,rfl,hA,hB,N,hg,e6,a0,a1⟩:=hcut;have f:=vv hA;have r:=vv hB;have R:=vv hg;have i:=vv a0;have J:=vv a1;have g4:v<=n1:=hB.le_of hA N;have d3:v=0↔y=0:=by rw[<- hB.words];exact q06
  have d4:n1=0↔x=0:=by rw[<- hA.words];exact q06
  clear HC HA HB HS e2 e3 e4 e5 hA hB hg a0 a1;obtain⟨l,rfl⟩:∃l:World,l=wc:=⟨_,rfl⟩;rcases k01 y with s|s
  ·obtain rfl:v=0:=d3.2 s;have HY:=vv s;clear s d3;have Y:Hid (x=Nat.gcd a b):=vv (by rw[<- R.o,HY.o,k2b]);have d5:=vv (copied K n1 c1 (toL x) l f.o);clear N;have d0:n1=0\/(0<n1/\0<x):=by
    rcases k01 n1 with h|h
    ·exact .inl h
    ·exact .inr ⟨h,k0O fun e=>by have:=d4.2 e;omega⟩
   clear d4;rcases d0 with rfl|⟨hn0',hx0⟩
   ·go_wp2_with fail;go_loopg [0,1] 0 (fun k s0 s1 wx=>s0=.slice K 0 c1/\s1=.slice P 0 Q/\wx=l)
    case atStart=>exact⟨rfl,rfl,rfl⟩
    case round =>obtain⟨rfl,rfl,rfl⟩:=hrel;go_wp2_with fail;refine d5.o.mono ?_;rintro e F ⟨rfl,hO,g⟩;have b7:=vv hO;clear hO;go_wp2;go_ret;refine⟨_,0,0,rfl,?_,Fr.at_ i.o.size,i.o.trans (g.mono i.o.size)⟩;rw[<- Y.o];exact b7.o.rd f.o.len.symm lr f.o.sm
   ·have b8:=vv (zeros _ _ _ _ l f.o hx0 J.o);have H:=vv (bitLen _ _ _ _ l f.o);have b2:bl x<=17592186044416:=by
     have:x<2^(32*n1):=by
      have:=q0p x;rw[f.o.words] at this
      rwa [k1r]
     have:=q0A this;omega
    have b4:=q1h hx0;have E:((((tz x:Nat):Int)+1)==((bl x:Nat):Int))=true\/((((tz x:Nat):Int)+1)==((bl x:Nat):Int))=qb:=by
     cases((((tz x:Nat):Int)+1)==((bl x:Nat):Int))
     ·exact .inr rfl
     ·exact .inl rfl
    rcases E with E|E;all_goals
     go_wp2_with (first
      | (go_at_call 281;(with_reducible refine b8.o.mono ?_);rintro e u ⟨rfl,rfl⟩)
      | (go_at_call 273;(with_reducible refine H.o.mono ?_);rintro e u ⟨rfl,rfl⟩))
     go_loopg [0,1] 0 (fun k s0 s1 wx=>s0=.slice K n1 c1/\s1=.slice P 0 Q/\wx=l)
     case atStart=>exact⟨rfl,rfl,rfl⟩
     case round =>obtain⟨rfl,rfl,rfl⟩:=hrel;go_wp2_with fail;refine d5.o.mono ?_;rintro e F ⟨rfl,hO,g⟩;have b7:=vv hO;clear hO;go_wp2;go_ret;refine⟨_,n1,n1,rfl,?_,Fr.at_ i.o.size,i.o.trans (g.mono i.o.size)⟩;rw[<- Y.o];exact b7.o.rd f.o.len.symm lr f.o.sm
  ·have f8:0<v:=k0O fun e=>by have:=d3.1 e;omega
   have hx0:0<x:=k03 s N;have hn0':0<n1:=k0O fun e=>by have:=d4.1 e;omega
   clear d3 d4;have g5:=vv (zeros _ _ _ _ l r.o s J.o);have a6:=vv (bitLen _ _ _ _ l r.o);have b8:=vv (zeros _ _ _ _ l f.o hx0 J.o);have H:=vv (bitLen _ _ _ _ l f.o);have b1:bl y<=17592186044416:=by
    have:y<2^(32*v):=by
     have:=q0p y;rw[r.o.words] at this
     rwa [k1r]
    have:=q0A this;omega
   have b2:bl x<=17592186044416:=by
    have:x<2^(32*n1):=by
     have:=q0p x;rw[f.o.words] at this
     rwa [k1r]
    have:=q0A this;omega
   have b3:=q1h s;have b4:=q1h hx0;go_upto_if 38 with (first
    | (go_at_call 281;(with_reducible refine g5.o.mono ?_);rintro e u ⟨rfl,rfl⟩)
    | (go_at_call 273;(with_reducible refine a6.o.mono ?_);rintro e u ⟨rfl,rfl⟩))
   have a7:Below l.heap.size l (l.alloc (.cells #[.int .u32 1] 54)):=(Below.refl _ _).alloc lr _;have c8:Own (l.alloc (.cells #[.int .u32 1] 54)) l.heap.size 54 [1]:=Own.lit _ (q0y.2 ⟨by omega,q0L⟩) (by simp [q0k]);have e7:=vv (c8.rd (n:=1) (c:=1) rfl lr (by omega));have a3:=vv a7;have a4:=vv (zeros _ _ _ _ _ (r.o.below a7 rfl) s (J.o.below a7));have a5:=vv (zeros _ _ _ _ _ (f.o.below a7 rfl) hx0 (J.o.below a7));clear a7 c8;by_cases E:tz y+1=bl y
   ·have g6:((tz y:Nat):Int)+1=((bl y:Nat):Int):=by omega
    have e8:=vv (q1W hx0 s E);clear E;have em:min ((tz x:Nat):Int) ((tz y:Nat):Int)=((min (tz x) (tz y):Nat):Int):=by omega
    go_wp2_with (first
     | (go_at_call 281;(with_reducible refine a4.o.mono ?_);rintro e u ⟨rfl,rfl⟩)
     | (go_at_call 281;(with_reducible refine a5.o.mono ?_);rintro e u ⟨rfl,rfl⟩))
    refine(up _ _ _ _ (min (tz x) (tz y)) _ rfl _ e7.o (by omega)).mono ?_;rintro e F ⟨U,V,c3,rfl,D,Z,g⟩;go_wp2;go_ret;refine⟨U,V,c3,rfl,?_,Z.mono ?_,i.o.trans ((a3.o.trans (g.mono a3.o.size)).mono i.o.size)⟩
    ·rw[<- R.o,e8.o];exact D
    ·exact k07 i.o.size a3.o.size
   ·have g6:((((tz y:Nat):Int)+1)==((bl y:Nat):Int))=qb:=by simp;omega
    clear E;by_cases E:tz x+1=bl x
    ·have g7:((tz x:Nat):Int)+1=((bl x:Nat):Int):=by omega
     have e8:Hid (Nat.gcd x y=1*2^min (tz x) (tz y)):=vv (by rw[k1k,qe];exact q1W s hx0 E);clear E;have em:min ((tz x:Nat):Int) ((tz y:Nat):Int)=((min (tz x) (tz y):Nat):Int):=by omega
     go_upto_if 61 with (first
      | (go_at_call 281;(with_reducible refine b8.o.mono ?_);rintro e u ⟨rfl,rfl⟩)
      | (go_at_call 273;(with_reducible refine H.o.mono ?_);rintro e u ⟨rfl,rfl⟩))
     go_wp2_with (first
      | (go_at_call 281;(with_reducible refine a4.o.mono ?_);rintro e u ⟨rfl,rfl⟩)
      | (go_at_call 281;(with_reducible refine a5.o.mono ?_);rintro e u ⟨rfl,rfl⟩))
     refine(up _ _ _ _ (min (tz x) (tz y)) _ rfl _ e7.o (by omega)).mono ?_;rintro e F ⟨U,V,c3,rfl,D,Z,g⟩;go_wp2;go_ret;refine⟨U,V,c3,rfl,?_,Z.mono ?_,i.o.trans ((a3.o.trans (g.mono a3.o.size)).mono i.o.size)⟩
     ·rw[<- R.o,e8.o];exact D
     ·exact k07 i.o.size a3.o.size
    ·have g7:((((tz x:Nat):Int)+1)==((bl x:Nat):Int))=qb:=by simp;omega
     clear E;go_wp2_with (first
      | (go_at_call 281;(with_reducible refine b8.o.mono ?_);rintro e u ⟨rfl,rfl⟩)
      | (go_at_call 273;(with_reducible refine H.o.mono ?_);rintro e u ⟨rfl,rfl⟩))
     clear g6 g7 g5 a6 b8 H a4 a5 e7 a3 b1 b2 b3 b4;have HX:=vv N;clear N g4 hx0 s f8 hn0';go_loopg [0,1] (x+y) (fun k s0 s1 wx=>∃(A:Option Addr) (n c x:Nat) (B:Option Addr) (m d y:Nat),s0=.slice A n c/\s1=.slice B m d/\Rd wx A n c (toL x)/\Rd wx B m d (toL y)/\y<=x/\Nat.gcd x y=Nat.gcd a b/\n<549755813888/\Below w.heap.size w wx/\Std wx/\x+y<=k)
     case atStart=>exact⟨K,n1,c1,x,P,v,Q,y,rfl,rfl,f.o,r.o,HX.o,R.o,e6,i.o,J.o,lr⟩
     case round =>
      clear f r R i J HX e6;obtain⟨K,n1,c1,x,P,v,Q,y,rfl,rfl,hA,hB,N,hg,e6,a0,a1,hk⟩:=hrel;have f:=vv hA;have r:=vv hB;have R:=vv hg;have i:=vv a0;have J:=vv a1;have g4:v<=n1:=hB.le_of hA N;clear hA hB hg a0 a1;obtain⟨l,rfl⟩:∃l:World,l=wr:=⟨_,rfl⟩;by_cases hm2:2<v
      ·have c9:18446744073709551616<=y:=by apply qd;intro O;have:=r.o.bound (k:=2) (by rw[show(4294967296:Nat)^2=18446744073709551616 by rfl];exact O);omega
       have f9:64<bl x:=by apply k2G;intro O;have h1:=q0O x;have h2:2^bl x<=2^64:=k00 (by omega) O;omega
       have d2:bl x<=17592186044416:=by
        have h1:x<2^(32*n1):=by
         have:=q0p x;rw[f.o.words] at this
         rwa [k1r]
        have:=q0A h1;omega
       obtain⟨e,he⟩:=yx (bl x-60);have k4:((bl x:Nat):Int)-60=(e:Int):=by omega
       have a2:x<2^(e+60):=by rw[he,show bl x-60+60=bl x by omega];exact q0O x
       have e9:x/2^e<1152921504606846976:=by apply k0s;rw[show(1152921504606846976:Nat)=2^60 by rfl,<- k0e];exact a2
       have H:=vv (bitLen _ _ _ _ l f.o);have g8:=vv (topBits K n1 c1 x e (e:Int) rfl l f.o (by omega) a2);have b9:=vv (topBits P v Q y e (e:Int) rfl l r.o (by omega) (k0I N a2));have g9:=vv (q2X N e9);have i0:=vv e9;have g0:=vv c9;have c0:=vv N;have k5:e<=17592186044416:=by omega
       clear he a2 f9 d2 e9 c9;go_wp2_with (first
        | (go_at_call 273;(with_reducible refine H.o.mono ?_);rintro e' u ⟨rfl,rfl⟩)
        | (go_at_call 282;(with_reducible refine g8.o.mono ?_);rintro e' u ⟨rfl,rfl⟩)
        | (go_at_call 282;(with_reducible refine b9.o.mono ?_);rintro e' u ⟨rfl,rfl⟩))
       go_loopg [6,7,8,9,10,11,12,13,14] (y/2^e) (fun k s6 s7 s8 s9 s10 s11 s12 s13 s14 wx=>∃(p q u0 L W v0 G C:Nat) (ev:Bool),s6=.int .u64 p/\s7=.int .u64 q/\s8=.int .u64 u0/\s9=.int .u64 L/\s10=.int .u64 W/\s11=.int .u64 v0/\s12=.int .u64 G/\s13=.int .u64 C/\s14=.bool ev /\wx=l/\Lehmer x y e p q L W G C ev/\C<=2305843009213693952/\((v0=0/\u0<=1)\/∃A B,Good x y u0 L v0 G ev A B)/\q<=k)
       case atStart=>exact⟨x/2^e,y/2^e,0,1,0,0,0,1,qb,rfl,rfl,rfl,rfl,rfl,rfl,rfl,rfl,rfl,rfl,g9.o,by omega,.inl ⟨rfl,by omega⟩,lr⟩
       case round =>
        obtain⟨p,q,u0,L,W,v0,G,C,ev,rfl,rfl,rfl,rfl,rfl,rfl,rfl,rfl,rfl,rfl,X,k6,i1,i2⟩:=hrel;have HL:=vv X;have l1:=X.hu1;have l2:=X.hu2;have l3:=X.hs;have l4:=X.hv;have l5:=X.h1;have l6:=X.hxy;have l7:=X.hx;have f0:=vv i1;clear X i1 H g8 b9 g9;by_cases O:C<=q/\G+C<=p-q
        ·obtain⟨S,d6⟩:=O;have g1:=vv (q27 HL.o i0.o S);have k1:=g1.o;have f1:((q:Int)==0)=qb:=by simp;omega
         have HN:=vv (q3r HL.o S);have j5:Hid (p-p/q*q<q):=vv (by have h1:=k0i p (show 0<q by omega);have e1:=k2g p q;rw[k0g] at e1;omega);have j6:Hid ((G=0/\L<=1)\/∃A B,Good x y L W G C (!ev) A B):=vv (by
          rcases k01 G with h|h
          ·left;refine⟨h,?_⟩;have hd:=HL.o.det;have h1:=HL.o.hs;have h2:=HL.o.hu1;subst h;have k2:C<=1:=by
            cases ev
            ·simp only[k1B,k39,k1m] at hd;have:=qa (m:=L) (n:=C) (by omega);omega
            ·simp only[k3e,k1m] at hd;omega
           omega
          ·right;exact q3s HL.o i0.o S d6 h)
         have c2:p/q*q<=p:=qc p q;have k7:p/q<=p:=k0q p q;have i3:p/q*W<=p/q*q:=k0m _ (by omega);have i4:p/q*C<=p/q*q:=k0m _ (by omega);have k3:(p:Int)/(q:Int)=((p/q:Nat):Int):=(k1n _ _).symm;generalize p/q=t at *
         have k8:(t:Int)*(q:Int)<=(p:Int):=by have:=k2a.2 c2;rwa [k0f] at this
         have k9:(t:Int)*(W:Int)<=(p:Int):=by have:=k2a.2 (k07 i3 c2);rwa [k0f] at this
         have l0:(t:Int)*(C:Int)<=(p:Int):=by have:=k2a.2 (k07 i4 c2);rwa [k0f] at this
         have l8:(0:Int)<=(t:Int)*(q:Int):=k18 (k0k _) (k0k _);have l9:(0:Int)<=(t:Int)*(W:Int):=k18 (k0k _) (k0k _);have m0:(0:Int)<=(t:Int)*(C:Int):=k18 (k0k _) (k0k _);have j7:=vv c2;clear i3 i4 c2;go_wp2;go_roundg (p-t*q)
         case measure=>have:=j5.o;omega
         case rel =>have:=j7.o;exact⟨q,p-t*q,L,W,L+t*W,G,C,G+t*C,!ev,rfl,k0z _ (by omega),rfl,rfl,k0z _ (by omega),rfl,rfl,k0z _ (by omega),rfl,rfl,HN.o,by omega,j6.o,lr⟩
        ·have c5:0<y:=by have:=g0.o;omega
         have i5:=vv c5;have f2:(C<=q/\¬G+C<=p-q)\/¬C<=q:=by
          by_cases h:C<=q
          ·exact .inl ⟨h,fun h'=>O ⟨h,h'⟩⟩
          ·exact .inr h
         clear i2 l1 l2 l3 O;rcases f0.o with ⟨rfl,m2⟩|⟨A0,B0,M⟩
         ·clear f0;have d7:=vv (divWords _ _ _ _ _ _ _ _ _ f.o r.o c5 (by omega));have Y:Hid (Nat.gcd y (x%y)=Nat.gcd a b):=vv (by rw[<- R.o,k1k y,<- k2H,k1k]);have i6:=vv (k0i x c5);clear c5;rcases f2 with ⟨S,d6⟩|S;all_goals
           go_wp2_with fail;refine d7.o.mono ?_;rintro e' F ⟨U,V,c3,A4,m4,c4,rfl,D,I,Z,a8,g⟩;have c6:=vv I;have j8:=vv (r.o.below g rfl);go_wp2;go_roundg (y+x%y)
           case measure=>have:=i6.o;have:=c0.o;omega
           case rel=>exact⟨P,v,Q,y,A4,m4,c4,x%y,rfl,rfl,j8.o,c6.o,k1l i6.o,Y.o,by omega,i.o.trans (g.mono i.o.size),J.o.below g,lr⟩
         ·have m5:=M.p0;have m6:=M.bu0;have m7:=M.bu1;have m8:=M.bv0;have m9:=M.bv1;have d8:=vv (q84 M);have i7:=vv ((q6e M).trans R.o);have i8:=vv M.le;have a9:=M.ea;have b0:=M.eb;have b5:A0<=x:=by have:=d8.o;omega
          have d9:B0<=x:=by have:=d8.o;omega
          have n0:((v0:Int)==0)=qb:=by simp;omega
          clear f0 M c5;cases ev
          ·rw[k0r (by decide)] at a9 b0;have f3:=vv (blend K P n1 v c1 Q x y A0 (-(u0:Int)) (v0:Int) _ f.o r.o (by omega) c0.o (by omega) (by omega) (by omega) (by omega) (by rw[a9,k1e];omega) b5);have f4:=vv b0;have a6:=vv d9;have H:=vv b5;clear a9 b0 b5 d9;rcases f2 with ⟨S,d6⟩|S;all_goals
            go_wp2_with fail;refine f3.o.mono ?_;rintro e' F ⟨U,V,c3,rfl,D,Z,g⟩;go_wp2_with fail;refine(blend K P n1 v c1 Q x y B0 (L:Int) (-(G:Int)) _ (f.o.below g rfl) (r.o.below g rfl) (by omega) c0.o (by omega) (by omega) (by omega) (by omega) (by rw[f4.o,k1e];omega) a6.o).mono ?_;rintro e' w4 ⟨A4,m4,c4,rfl,I,a8,T⟩;have c6:=vv I;have f5:=vv (D.below T rfl);have f6:=vv (D.le_of f.o H.o);clear D I;go_wp2;go_roundg (A0+B0)
            case measure=>have:=d8.o;have:=i5.o;omega
            case rel =>have:=f6.o;exact⟨U,V,c3,A0,A4,m4,c4,B0,rfl,rfl,f5.o,c6.o,i8.o,i7.o,by omega,i.o.trans ((g.trans (T.mono g.size)).mono i.o.size),(J.o.below g).below T,lr⟩
          ·rw[k0p rfl] at a9 b0;have f3:=vv (blend K P n1 v c1 Q x y A0 (u0:Int) (-(v0:Int)) _ f.o r.o (by omega) c0.o (by omega) (by omega) (by omega) (by omega) (by rw[a9,k1e];omega) b5);have f4:=vv b0;have a6:=vv d9;have H:=vv b5;clear a9 b0 b5 d9;rcases f2 with ⟨S,d6⟩|S;all_goals
            go_wp2_with fail;refine f3.o.mono ?_;rintro e' F ⟨U,V,c3,rfl,D,Z,g⟩;go_wp2_with fail;refine(blend K P n1 v c1 Q x y B0 (-(L:Int)) (G:Int) _ (f.o.below g rfl) (r.o.below g rfl) (by omega) c0.o (by omega) (by omega) (by omega) (by omega) (by rw[f4.o,k1e];omega) a6.o).mono ?_;rintro e' w4 ⟨A4,m4,c4,rfl,I,a8,T⟩;have c6:=vv I;have f5:=vv (D.below T rfl);have f6:=vv (D.le_of f.o H.o);clear D I;go_wp2;go_roundg (A0+B0)
            case measure=>have:=d8.o;have:=i5.o;omega
            case rel =>have:=f6.o;exact⟨U,V,c3,A0,A4,m4,c4,B0,rfl,rfl,f5.o,c6.o,i8.o,i7.o,by omega,i.o.trans ((g.trans (T.mono g.size)).mono i.o.size),(J.o.below g).below T,lr⟩
      ·by_cases s:y=0
       ·obtain rfl:v=0:=by rw[<- r.o.words];exact q06.2 s
        have Y:Hid (x=Nat.gcd a b):=vv (by rw[<- R.o,s,k2b]);clear s;have d5:=vv (copied K n1 c1 (toL x) l f.o);go_wp2_with fail;refine d5.o.mono ?_;rintro e F ⟨rfl,hO,g⟩;have b7:=vv hO;clear hO;go_wp2;go_ret;refine⟨_,n1,n1,rfl,?_,Fr.at_ i.o.size,i.o.trans (g.mono i.o.size)⟩;rw[<- Y.o];exact b7.o.rd f.o.len.symm lr f.o.sm
       ·have i9:0<y:=k0O s;have n2:((v:Int)==0)=qb:=by
         have:v≠0:=fun e=>s (by have:=r.o.words;rw[e] at this;exact q06.1 this)
         simp;omega
        have c7:y<4294967296^2:=by have:=q0p y;rw[r.o.words] at this;exact k03 this (k00 (by omega) (by omega))
        have e0:x%y<4294967296^2:=k3h (k0i _ i9) c7;have j0:=vv (two_words c7);have j1:=vv (two_words e0);rw[show(4294967296:Nat)^2=18446744073709551616 by rfl] at c7 e0;have j9:=vv c7;have g2:=vv e0;have Y:Hid (Nat.gcd y (x%y)=Nat.gcd a b):=vv (by rw[<- R.o,k1k y,<- k2H,k1k]);have d7:=vv (divWords _ _ _ _ _ _ _ _ l f.o r.o i9 (by omega));clear s c7 e0;go_wp2_with fail;refine d7.o.mono ?_;rintro e F ⟨U,V,c3,A4,m4,c4,rfl,D,I,Z,a8,g⟩;have b9:=vv (toUint _ _ _ _ F (r.o.below g rfl));have j2:=vv (toUint _ _ _ _ F I);rw[j0.o] at b9;rw[j1.o] at j2;have g3:=vn i g;clear D I Z a8 g d7 j0 j1;generalize x%y=z at *
        go_wp2_with (first
         | (go_at_call 285;(with_reducible refine b9.o.mono ?_);rintro e u ⟨rfl,rfl⟩)
         | (go_at_call 285;(with_reducible refine j2.o.mono ?_);rintro e u ⟨rfl,rfl⟩))
        go_loopg [20,21] z (fun k s0 s1 wx=>∃p q j:Nat,s0=.int .u64 p/\s1=.int .u64 q/\wx=F.drewN j/\Nat.gcd p q=Nat.gcd a b/\p<18446744073709551616/\q<18446744073709551616/\q<=k)
        case atStart=>exact⟨y,z,0,rfl,rfl,rfl,Y.o,j9.o,g2.o,lr⟩
        case round =>
         obtain⟨p,q,j,rfl,rfl,rfl,j3,hp,E,i2⟩:=hrel;have j4:=vv j3;have HQ:=vv E;clear j3;by_cases f1:q=0
         ·subst f1;have k0:=vv (fromUint p (F.drewN j) hp);clear hp E;go_wp2_with fail;refine k0.o.mono ?_;rintro e w4 ⟨A4,m4,c4,rfl,I,a8,T⟩;go_wp2;go_ret;have f7:Below w.heap.size w (F.drewN j):=q0n g3.o j;refine⟨A4,m4,c4,rfl,?_,a8.mono f7.size,f7.trans (T.mono f7.size)⟩;rw[<- j4.o,k2b];exact I
         ·have t0:((q:Int)==0)=qb:=by simp;omega
          have n3:(p:Int)%(q:Int)=((p%q:Nat):Int):=(k1x _ _).symm;have HM:=vv (k0i p (k0O f1));go_wp2_with fail;go_quiet (fail);go_wp2;go_roundg (p%q)
          case measure=>have:=HM.o;omega
          case rel =>exact⟨q,p%q,_,by go_num,by go_num,World.drewN_drewN _ _ _,by rw[k1k q,<- k2H,k1k];exact j4.o,HQ.o,by have:=HM.o;have:=HQ.o;omega,lr⟩
end B
namespace AB
open Go Go.RowKit
theorem common{fq:FuncId}(A B:Option Addr)(n m c d a b:Nat)(w:World)(ha:Rd w A n c (toL a))(hb:Rd w B m d (toL b))(hs:Std w)(hn:n<549755813888)(hm:m<549755813888)(hq:fq=288\/fq=208:=by decide):Calls Tryz.prog fq #[.slice A n c,.slice B m d] w (q0g (Nat.gcd a b) w):=by
 rcases hq with rfl|rfl
 ·exact Go.Proofs.YtabcgemembkkcaaGreatDoor.A.common A B n m c d a b w ha hb hs hn hm
 ·exact Go.Proofs.YtabcgemembkkcaaGreatDoor.B.common A B n m c d a b w ha hb hs hn hm
end AB
end Go.Proofs.YtabcgemembkkcaaGreatDoor
