/- Lemmas. -/
import Derived.Test.YtcdimmblnbkjjaaGreatDoorPartAO
import Derived.Test.YtcdimmblnbkjjaaGreatDoorPartAB
import Derived.Deep.DeepCutAuto
import Derived.Deep.CutBlock
set_option linter.all false
set_option maxRecDepth 100000
namespace Go.Proofs.YtcdimmblnbkjjaaGreatDoor.B
open Go Go.RowKit
end Go.Proofs.YtcdimmblnbkjjaaGreatDoor.B
namespace Go.Proofs.YtcdimmblnbkjjaaGreatDoor.A
open Go Go.RowKit
set_option maxHeartbeats 400000 in
theorem qb5(g j n cap:Nat)(U:List Nat)(B:Option Addr)(d:Nat)(vs:List Nat)(w:World)(hn2:2<=n)(hv:Rd w B n d vs)(htop:2147483648<=nth vs (n-1))(ho:Own w g 34 U)(hfit:j+n+1<=U.length)(hcap:n+1<=cap)(hU:U.length<=35184372088832)
  (hne:∀a,B=some a->a.block≠g) (hu:val ((U.drop j).take (n+1))<4294967296*val vs) :
  Calls Tryz.prog 282 #[.slice (some ⟨g,j,none⟩) (n+1) cap,.slice B n d] w fun e w'=>e=.returned (.int .u32 ((val ((U.drop j).take (n+1))/val vs:Nat):Int)) /\
   (∃V:List Nat,Own w' g 34 V/\V.length=U.length/\(∀p,p<j\/j+n+1<=p->nth V p=nth U p)/\val ((V.drop j).take (n+1))=val ((U.drop j).take (n+1))%val vs)/\w.grownBy w' (some g):=by
 have j9:=hv.sm;obtain⟨b,off,rfl,d9,a4⟩:=hv.cell (by omega);have e5:b≠g:=hne _ rfl;have c1:=a4 (n-1) (by omega);have c2:=a4 (n-2) (by omega);have HC:=vv a4;clear a4;have d0:=ho.cell (i:=j+n) (by omega);have d1:=ho.cell (i:=j+(n-1)) (by omega);have d2:=ho.cell (i:=j+(n-2)) (by omega);have l1:=hv.nth_lt (n-1);have l2:=hv.nth_lt (n-2);have m0:=ho.nth_lt (j+n);have m1:=ho.nth_lt (j+(n-1));have m2:=ho.nth_lt (j+(n-2));obtain⟨W,hW⟩:=yx (U.drop j);have e6:W.length=U.length-j:=by rw[hW,List.length_drop]
 have b0:∀i,nth W i=nth U (j+i):=fun i=>by rw[hW,q0s]
 have c6:Lim W:=by rw[hW];exact q0F ho.2 _
 rw[<- hW] at hu ⊢;obtain⟨u,a7⟩:=yx (val (W.take (n+1)));obtain⟨v,a8⟩:=yx (val vs);rw[<- a7,<- a8] at hu ⊢;have e7:vs.length=n:=hv.len;have c7:=hv.lim;generalize hv1:nth vs (n-1)=v1 at *
 generalize hv2:nth vs (n-2)=v2 at *
 generalize hu0:nth U (j+n)=u0 at *
 generalize hu1:nth U (j+(n-1))=u1 at *
 generalize hu2:nth U (j+(n-2))=u2 at *
 have eu:u=val (W.take (n-2))+4294967296^(n-2)*(u2+4294967296*u1+18446744073709551616*u0):=by
  have e1:=q09 W (n-2);have e2:=q09 W (n-1);have e3:=q09 W n;rw[b0,hu2] at e1;rw[b0,hu1] at e2;rw[b0,hu0] at e3;rw[show n-2+1=n-1 by omega] at e1;rw[show n-1+1=n by omega,e1,show n-1=(n-2)+1 by omega,Nat.pow_succ,Nat.mul_assoc] at e2;rw[e2,show n=(n-2)+1+1 by omega,Nat.pow_succ,Nat.pow_succ,Nat.mul_assoc,Nat.mul_assoc] at e3;rw[show(n-2)+1+1=n by omega] at e3;rw[a7,e3,Nat.mul_add,Nat.mul_add];have e4:(18446744073709551616:Nat)*u0=4294967296*(4294967296*u0):=by omega
  rw[e4];omega
 have ev:v=val (vs.take (n-2))+4294967296^(n-2)*(v2+4294967296*v1):=by
  have e1:=q09 vs (n-2);have e2:=q09 vs (n-1);rw[hv2] at e1;rw[hv1] at e2;rw[show n-2+1=n-1 by omega] at e1;rw[show n-1+1=n by omega,e1,show n-1=(n-2)+1 by omega,Nat.pow_succ,Nat.mul_assoc,q0l (by omega)] at e2;rw[a8,e2,Nat.mul_add];omega
 have hp:0<4294967296^(n-2):=Nat.pow_pos (by omega);have c8:val (W.take (n-2))<4294967296^(n-2):=by
  have:=q0G (q0t c6 (n-2));rwa [List.length_take,Nat.min_eq_left (by omega)] at this
 have c9:val (vs.take (n-2))<4294967296^(n-2):=by
  have:=q0G (q0t c7 (n-2));rwa [List.length_take,Nat.min_eq_left (by omega)] at this
 have bu:(u2+4294967296*u1+18446744073709551616*u0)*4294967296^(n-2)<=u/\u<(u2+4294967296*u1+18446744073709551616*u0+1)*4294967296^(n-2):=by
  rw[eu];generalize u2+4294967296*u1+18446744073709551616*u0=T;rw[Nat.add_mul T 1,Nat.one_mul,Nat.mul_comm T];exact⟨by omega,by omega⟩
 have bv:(v1*4294967296+v2)*4294967296^(n-2)<=v/\v<(v1*4294967296+v2+1)*4294967296^(n-2):=by
  rw[ev,show v1*4294967296+v2=v2+4294967296*v1 by omega];generalize v2+4294967296*v1=T;rw[Nat.add_mul T 1,Nat.one_mul,Nat.mul_comm T];exact⟨by omega,by omega⟩
 have g7:0<v:=by
  have:0<(v1*4294967296+v2)*4294967296^(n-2):=Nat.mul_pos (by omega) hp;omega
 have b4:u0<=v1:=by
  rcases Nat.lt_or_ge v1 u0 with h|h
  ·exfalso
   have h1:4294967296*v<4294967296*((v1*4294967296+v2+1)*4294967296^(n-2)):=Nat.mul_lt_mul_of_pos_left bv.2 (by omega);have h2:(4294967296*(v1*4294967296+v2+1))*4294967296^(n-2)<=(u2+4294967296*u1+18446744073709551616*u0)*4294967296^(n-2):=Nat.mul_le_mul_right _ (by omega);rw[Nat.mul_assoc] at h2;omega
  ·exact h
 have hq:u/v<4294967296:=Nat.div_lt_of_lt_mul (by rw[Nat.mul_comm];exact hu);have low:∀G,u2+4294967296*u1+18446744073709551616*u0<G*(v1*4294967296+v2)->u/v<G:=fun G h=>q7d bv.1 bu.2 h
 have b5:∀G,G<4294967296->G*(v1*4294967296+v2)<=u2+4294967296*u1+18446744073709551616*u0->G<=u/v+1:=fun G h1 h2=>q66 bv.2 bv.1 bu.1 (by omega) h1 h2
 have b8:=vv (And.intro a7 a8);have e8:=vv (And.intro hW (And.intro e6 (And.intro b0 c6)));have b9:=vv (And.intro e7 c7);have b6:=vv low;have a9:=vv b5;have d3:=vv ho;have e9:=vv hv;have HQ:=vv hq;have d4:=vv g7;have f0:=vv hu0;clear a7 a8 hW e6 b0 c6 e7 c7 low b5 eu ev bu bv hp c8 c9 hv1 hv2 hu0 hu1 hu2 hq hu;have g8:=qaR u1 u0 m1 m0;have i1:(0:Int)<=(n:Int)-1:=by omega
 have i2:(n:Int)-1<(n:Int):=by omega
 have i3:(0:Int)<=(n:Int):=by omega
 have i4:(n:Int)<(n:Int)+1:=by omega
 have i5:(n:Int)-1<(n:Int)+1:=by omega
 have i6:(0:Int)<=(n:Int)-2:=by omega
 have i7:(n:Int)-2<(n:Int):=by omega
 have i8:(n:Int)-2<(n:Int)+1:=by omega
 go_enter Tryz.func282,Tryz.ntmps282
 go_wp2_with fail
 go_quiet (fail)
 go_upto_block 0 with fail
 go_cut [8] (fun s8 wx=>∃G k:Nat,s8=.int .u64 G/\wx=w.drewN k/\G<4294967296/\u/v<=G/\G<=u/v+1)
 case first =>
  go_wp2_with fail
  go_loopw [8,9] (fun g r wx=>∃G R k:Nat,g=.int .u64 G/\r=.int .u64 R/\wx=w.drewN k/\G*v1+R=u1+4294967296*u0/\u/v<=G/\R<4294967296/\G<=4294967297) (fun g _ _=>(intOf g).toNat)
  case atStart =>
   obtain⟨f1,f2,f3⟩:=q56 (v2:=v2) (u2:=u2) htop l1 b4 m1 m2;have e0:(u1:Int)+4294967296*(u0:Int)=((u1+4294967296*u0:Nat):Int):=by omega
   refine⟨(u1+4294967296*u0)/v1,(u1+4294967296*u0)%v1,_,congrArg _ (by rw[e0,Int.natCast_ediv]),congrArg _ (by rw[e0,Int.natCast_emod]),rfl,f3,?_,Nat.lt_trans (Nat.mod_lt _ (by omega)) l1,f2⟩;have:=b6.o _ f1;exact Nat.le_of_lt_succ this
  case round =>
   obtain⟨G,R,k,rfl,rfl,rfl,he,f4,hR,hG⟩:=hrel;have g9:=qaR u2 R m2 hR;have HE:=vv he;have i0:=vv f4;clear he f4;have toOut:∀G R,G*v1+R=u1+4294967296*u0->4294967296<=R->G<4294967296/\G<=u/v+1:=fun G R h1 h2=>by
    obtain⟨g1,g2⟩:=q57 (v2:=v2) h1 b4 m1 h2 l2;exact⟨g1,a9.o G g1 (q4y h1 (g2 u2))⟩
   have c0:=vv toOut;clear toOut;by_cases hGB:4294967296<=G
   ·have t1:decide ((4294967296:Int)<=(G:Int))=true:=by simp;omega
    have HD:=vv (q7t HE.o (by omega));have b7:Hid (u/v<=G-1):=vv (by have:=HQ.o;omega);by_cases hB:4294967296<=R+v1
    ·have t2:decide ((4294967296:Int)<=(R:Int)+(v1:Int))=true:=by simp;omega
     have HB:=vv hB;clear hB;go_wp2_with fail
     go_quiet (fail)
     go_wp2_with fail
     go_meet
     exact⟨G-1,_,by go_num,rfl,(c0.o _ _ HD.o HB.o).1,b7.o,(c0.o _ _ HD.o HB.o).2⟩
    ·have t2:decide ((4294967296:Int)<=(R:Int)+(v1:Int))=false:=by simp;omega
     have HB:=vv hB;clear hB;go_wp2_with fail
     go_quiet (fail)
     go_wp2_with fail
     go_roundw
     case rel=>exact⟨G-1,R+v1,_,by go_num,by go_num,rfl,HD.o,b7.o,by have:=HB.o;omega,by omega⟩
     case measure=>simp [intOf];omega
   ·have t1:decide ((4294967296:Int)<=(G:Int))=false:=by simp;omega
    have c3:=q1L (x:=G) (y:=v2) (by omega) l2;have p1:(G:Int)*(v2:Int)<=18446744065119617025:=by
     have:((G*v2:Nat):Int)<=18446744065119617025:=by omega
     rwa [Int.natCast_mul] at this
    have p2:(0:Int)<=(G:Int)*(v2:Int):=Int.mul_nonneg (Int.natCast_nonneg _) (Int.natCast_nonneg _);clear c3;by_cases hP:R*4294967296+u2<G*v2
    ·have b7:Hid (u/v<G):=vv (b6.o G (q8q HE.o hP));have i9:0<G:=by
      rcases Nat.eq_zero_or_pos G with h|h
      ·subst h;rw[Nat.zero_mul] at hP;omega
      ·exact h
     have HD:=vv (q7t HE.o i9);have j0:(u2:Int)+4294967296*(R:Int)<(G:Int)*(v2:Int):=by
      have:((R*4294967296+u2:Nat):Int)<((G*v2:Nat):Int):=by omega
      rw[Int.natCast_mul] at this;omega
     have c4:Hid (u/v<=G-1):=vv (by have:=b7.o;omega);clear hP;by_cases hB:4294967296<=R+v1
     ·have t2:decide ((4294967296:Int)<=(R:Int)+(v1:Int))=true:=by simp;omega
      have HB:=vv hB;clear hB;go_wp2_with fail
      go_quiet (fail)
      go_wp2_with fail
      go_meet
      exact⟨G-1,_,by go_num,rfl,(c0.o _ _ HD.o HB.o).1,c4.o,(c0.o _ _ HD.o HB.o).2⟩
     ·have t2:decide ((4294967296:Int)<=(R:Int)+(v1:Int))=false:=by simp;omega
      have HB:=vv hB;clear hB;go_wp2_with fail
      go_quiet (fail)
      go_wp2_with fail
      go_roundw
      case rel=>exact⟨G-1,R+v1,_,by go_num,by go_num,rfl,HD.o,c4.o,by have:=HB.o;omega,by omega⟩
      case measure=>simp [intOf];omega
    ·have j0:¬(u2:Int)+4294967296*(R:Int)<(G:Int)*(v2:Int):=by
      intro h;have:((R*4294967296+u2:Nat):Int)<((G*v2:Nat):Int):=by rw[Int.natCast_mul];omega
      omega
     have c4:Hid (G<=u/v+1):=vv (a9.o G (by omega) (q4y HE.o (by omega)));clear hP;go_wp2_with fail
     go_quiet (fail)
     go_wp2_with fail
     go_meet
     exact⟨G,_,rfl,World.drewN_drewN _ _ _,by omega,i0.o,c4.o⟩
 case rest =>
  obtain⟨G,k,rfl,rfl,hG,f5,f6⟩:=hcut;have j1:=vv f6;have j2:=vv f5;have j3:=vv hG;clear f6 f5 g8 c1 c2 d1 d2 d0;have k0:(G:Int)<=4294967295:=by omega
  clear hG;go_wp2_with fail
  go_loopw [10,11,12] (fun c bo i wx=>∃(x y k:Nat) (X:List Nat),c=.int .u64 x/\bo=.int .u64 y/\i=.int .i64 k/\x<4294967296/\y<=1/\k<=n/\X.length=U.length/\Own wx g 34 X /\
   (∀p,p<j\/j+k<=p->nth X p=nth U p)/\val ((X.drop j).take k)+G*val (vs.take k)=val (W.take k)+4294967296^k*(x+y)/\w.grownBy wx (some g)) (fun _ _ i _=>n-(intOf i).toNat)
  case atStart=>exact⟨0,0,0,U,rfl,rfl,rfl,by omega,by omega,Nat.zero_le _,rfl,d3.o.drewN _,fun _ _=>rfl,by simp [val],q3I (World.grownBy.refl _ _) _⟩
  case round =>
   obtain⟨x,y,k,X,rfl,rfl,rfl,hx,hy,hk,f7,a0,a2,a6,a5⟩:=hrel;have HV:=vv a6;have HL:=vv f7;have HS:=vv a2;have HO:=vv a0;clear a6 f7 a2;by_cases hkn:k<n
   ·have j4:wr.cell? ⟨b,off+k,none⟩=some (.int .u32 ((nth vs k:Nat):Int)):=(q0y a5 (p:=⟨b,off+k,none⟩) d9 e5).trans (HC.o k hkn);have f8:=e9.o.nth_lt k;have d5:=a0.cell (i:=j+k) (by rw[HL.o];omega);have hf:=a0.frozen (j+k);have f9:=a0.nth_lt (j+k);clear a0;have c3:=q1L j3.o f8;have p1:(G:Int)*((nth vs k:Nat):Int)<=18446744065119617025:=by
     have:((G*nth vs k:Nat):Int)<=18446744065119617025:=by omega
     rwa [Int.natCast_mul] at this
    have p2:(0:Int)<=(G:Int)*((nth vs k:Nat):Int):=Int.mul_nonneg (Int.natCast_nonneg _) (Int.natCast_nonneg _);have HM:=vv c3;clear c3;obtain⟨dd,q,b1,b2,b3⟩:=q99 (nth X (j+k)) ((G*nth vs k+x)%4294967296) y f9 (Nat.mod_lt _ (by omega)) hy;have MS:=vv (qaU (nth X (j+k)) (G*nth vs k+x) y G (nth vs k) x rfl (by have:=HM.o;omega) f9 hy dd q b1 b2 b3);have B3:=vv b3;clear b3;go_wp2;go_roundw
    case rel =>
     refine⟨(G*nth vs k+x)/4294967296,q,k+1,X.set (j+k) dd,congrArg _ MS.o.2.2,congrArg _ MS.o.1,by go_num,by have:=HM.o;omega,b2,by omega,by rw[List.length_set];exact HL.o,
      HO.o.set (by rw[HL.o];omega) b1 MS.o.2.1,fun p hp=>?_,?_,q07 a5 (.inl rfl) _⟩
     ·rw[q0q _ _ (by omega)];exact HS.o p (by omega)
     ·rw[q1k];refine q6V (by rw[List.length_drop,HL.o];omega) ?_ (by rw[q0s];exact B3.o) HV.o;rw[q0s,e8.o.2.2.1];exact HS.o _ (by omega)
    case measure=>simp [intOf];omega
   ·obtain rfl:k=n:=by omega
    have d5:=a0.cell (i:=j+k) (by rw[HL.o];omega);have hf:=a0.frozen (j+k);have g0:nth X (j+k)=u0:=by
     rw[HS.o _ (by omega)];exact f0.o
    rw[g0] at d5;clear g0 a0;obtain⟨dd,q,b1,b2,b3⟩:=q99 u0 x y m0 hx hy;have MS:=vv (qav u0 x y m0 hx hy dd q b1 b2 b3);have a1:val (((X.set (j+k) dd).drop j).take (k+1))+G*v=u+4294967296^(k+1)*q:=by
     rw[q1k];refine q6W (u0:=u0) (x:=x) (y:=y) (by rw[List.length_drop,HL.o];omega) b8.o.1 (by rw[e8.o.2.2.1];exact f0.o) b3 ?_;have:=HV.o;rw[q0l (xs:=vs) (by rw[b9.o.1];omega),<- b8.o.2] at this;exact this
    have HX:=vv (HO.o.set (i:=j+k) (x:=dd) (by rw[HL.o];omega) b1 MS.o.2);have g3:Hid (∀p,p<j\/j+k+1<=p->nth (X.set (j+k) dd) p=nth U p):=vv fun p hp=>by
     rw[q0q _ _ (by omega)];exact HS.o p (by omega)
    have d6:Hid ((X.set (j+k) dd).length=U.length):=vv (by rw[List.length_set];exact HL.o);have c5:val (((X.set (j+k) dd).drop j).take (k+1))<4294967296^(k+1):=by
     have:=q0G (q0t (q0F HX.o.2 j) (k+1))
     rwa [List.length_take,List.length_drop,d6.o,Nat.min_eq_left (by omega)] at this
    have a3:=q07 a5 (p:=⟨g,j+k,none⟩) (.inl rfl) (.int .u32 (IntKind.u64.wrap (IntKind.u64.wrap ((u0:Int)-(x:Int))-(y:Int))%4294967296));rcases Nat.eq_zero_or_pos q with j5|b7
    ·subst j5;rw[Nat.mul_zero,Nat.add_zero] at a1;obtain⟨r1,r2⟩:=q7f a1 j2.o d4.o rfl c5;have t1:(IntKind.u64.wrap (IntKind.u64.wrap ((u0:Int)-(x:Int))-(y:Int))/9223372036854775808==0)=true:=by rw[MS.o.1];rfl
     have R1:=vv r1;have R2:=vv r2;clear r1 r2 a1 c5 b3;go_wp2;go_ret
     exact⟨q0A (by rw[R1.o];rfl),⟨_,HX.o,d6.o,g3.o,R2.o⟩,a3⟩
    ·obtain rfl:q=1:=by omega
     rw[Nat.mul_one] at a1;obtain⟨r1,r2⟩:=q8w a1 c5 j1.o d4.o;have t1:(IntKind.u64.wrap (IntKind.u64.wrap ((u0:Int)-(x:Int))-(y:Int))/9223372036854775808==0)=false:=by rw[MS.o.1];rfl
     have R1:=vv r1;have R2:=vv r2;clear r1 r2 a1 c5 b3;have g4:Hid (nth (X.set (j+k) dd) (j+k)=dd):=vv (by rw[q0M _ _ _ _ (by rw[HL.o];omega),if_pos rfl]);have j6:=vv b1;clear HO HS HV HL MS;generalize X.set (j+k) dd=Z at *
     obtain⟨wo,rfl⟩:∃wo:World,wo=wr:=⟨_,rfl⟩;go_wp2;go_loopw [16,17] (fun c i wx=>∃(x p:Nat) (Y:List Nat),c=.int .u64 x/\i=.int .i64 p/\x<=1/\p<=k/\Y.length=U.length/\Own wx g 34 Y /\
      (∀q,q<j\/j+p<=q->nth Y q=nth Z q)/\val ((Y.drop j).take p)+4294967296^p*x=val ((Z.drop j).take p)+val (vs.take p)/\w.grownBy wx (some g)) (fun _ i _=>k-(intOf i).toNat)
     case atStart=>exact⟨0,0,Z,rfl,rfl,by omega,Nat.zero_le _,d6.o,HX.o,fun _ _=>rfl,by simp [val],a3⟩
     case round =>
      clear a3 a5 d5 hf;obtain⟨x',p,Y,rfl,rfl,k4,hp,g5,a0,a2,a6,d7⟩:=hrel;have HV:=vv a6;have HL:=vv g5;have HS:=vv a2;have HO:=vv a0;clear a6 g5 a2;by_cases hpk:p<k
      ·have j4:wr.cell? ⟨b,off+p,none⟩=some (.int .u32 ((nth vs p:Nat):Int)):=(q0y d7 (p:=⟨b,off+p,none⟩) d9 e5).trans (HC.o p hpk);have f8:=e9.o.nth_lt p;have g6:=a0.cell (i:=j+p) (by rw[HL.o];omega);have j7:=a0.frozen (j+p);have k5:=a0.nth_lt (j+p);have k1:(p:Int)<(k:Int):=by omega
       have k2:(0:Int)<=(p:Int):=by omega
       have k3:(p:Int)<(k:Int)+1:=by omega
       clear a0;go_wp2_with fail
       go_quiet (fail)
       go_wp2;go_roundw
       case rel =>
        refine⟨(nth Y (j+p)+nth vs p+x')/4294967296,p+1,Y.set (j+p) ((nth Y (j+p)+nth vs p+x')%4294967296),congrArg _ (by omega),by go_num,by omega,by omega,by rw[List.length_set];exact HL.o,
         (HO.o.drewN _).set (by rw[HL.o];omega) (Nat.mod_lt _ (by omega)) (by omega),fun q hq=>?_,?_,q07 (q3I d7 _) (.inl rfl) _⟩
        ·rw[q0q _ _ (by omega)];exact HS.o q (by omega)
        ·rw[q1k];have:=q71 (vs:=vs) (W:=Z.drop j) (X:=Y.drop j) (i:=p) (c:=x') (by rw[List.length_drop,HL.o];omega) (by rw[q0s,q0s];exact HS.o _ (by omega)) HV.o;rw[q0s] at this;exact this
       case measure=>simp [intOf];omega
      ·obtain rfl:p=k:=by omega
       have g6:=a0.cell (i:=j+p) (by rw[HL.o];omega);have j7:=a0.frozen (j+p);have e0:nth Y (j+p)=dd:=by rw[HS.o _ (by omega)];exact g4.o
       rw[e0] at g6;clear e0 a0;have k6:=j6.o;have a1:val (((Y.set (j+p) ((dd+x')%4294967296)).drop j).take (p+1))=u%v:=by
        have h1:=HV.o;rw[q0l (xs:=vs) (by rw[b9.o.1];omega),<- b8.o.2] at h1;have h2:=R2.o;rw[q09 (Z.drop j),q0s,g4.o] at h2;have h3:val ((Y.drop j).take p)<4294967296^p:=by
         have:=q0G (q0t (q0F HO.o.2 j) p)
         rwa [List.length_take,List.length_drop,HL.o,Nat.min_eq_left (by omega)] at this
        have h4:u%v<4294967296^p:=Nat.lt_of_lt_of_le (Nat.mod_lt _ d4.o) (by
         have:=q0G b9.o.2;rw[b9.o.1,<- b8.o.2] at this;omega)
        have h5:val ((Y.drop j).take p)+4294967296^p*(x'+dd)=u%v+4294967296^p*4294967296:=by
         rw[Nat.pow_succ] at h2;rw[Nat.mul_add];omega
        obtain⟨h6,h7⟩:=q8x h3 h4 h5;rw[q1k,q0g _ _ _ (by rw[List.length_drop,HL.o];omega),show dd+x'=4294967296 by omega,h7];simp
       have d8:=vv a1;clear a1;have j8:=vv (show u/v<4294967296 from HQ.o);have k7:(1:Int)<=(G:Int):=by
        have h1:=R1.o;rw[h1,Int.natCast_add];have:=Int.natCast_nonneg (u/v);omega
       go_wp2;go_ret
       refine⟨q0A ?_,⟨Y.set (j+p) ((dd+x')%4294967296),HO.o.set (by rw[HL.o];omega) (Nat.mod_lt _ (by omega)) (by omega),by rw[List.length_set];exact HL.o,fun q hq=>?_,d8.o⟩,q07 d7 (.inl rfl) _⟩
       ·have h1:=R1.o;have h2:=j8.o;generalize u/v=Q at *
        omega
       ·rw[q0q _ _ (by omega),HS.o q (by omega)];exact g3.o q hq
end Go.Proofs.YtcdimmblnbkjjaaGreatDoor.A
