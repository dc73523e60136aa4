/- Lemmas. -/
import Derived.Test.YtabcgemembkkcaaGreatDoorDigsAO
import Derived.Deep.DeepCutAuto
import Derived.Deep.CutBlock
set_option linter.all false
set_option maxRecDepth 100000
open Go.Proofs.Tryz
namespace Go.Proofs.YtabcgemembkkcaaGreatDoor
namespace AB
open Go Go.RowKit
set_option maxHeartbeats 800000 in
theorem figure{fq:FuncId}(g j n cap:Nat)(U:List Nat)(B:Option Addr)(d:Nat)(vs:List Nat)(w:World)(hn2:2<=n)(hv:Rd w B n d vs)(htop:2147483648<=nth vs (n-1))(ho:Own w g 54 U)(hfit:j+n+1<=U.length)(hcap:n+1<=cap)(hU:U.length<=35184372088832)
  (hne:∀a,B=some a->a.block≠g) (hu:val ((U.drop j).take (n+1))<4294967296*val vs) (hq:fq=358\/fq=328:=by decide) :
  Calls Tryz.prog fq #[.slice (some ⟨g,j,none⟩) (n+1) cap,.slice B n d] w fun e w'=>e=.returned (.int .u32 ((val ((U.drop j).take (n+1))/val vs:Nat):Int)) /\(∃V:List Nat,Own w' g 54 V/\V.length=U.length/\(∀p,p<j\/j+n+1<=p->nth V p=nth U p)/\val ((V.drop j).take (n+1))=val ((U.drop j).take (n+1))%val vs)/\w.grownBy w' (some g):=by
 have j6:=hv.sm;obtain⟨b,off,rfl,d6,a2⟩:=hv.cell (by omega);have d7:b≠g:=hne _ rfl;have c1:=a2 (n-1) (by omega);have c2:=a2 (n-2) (by omega);have HC:=vv a2;clear a2;have d0:=ho.cell (i:=j+n) (by omega);have d1:=ho.cell (i:=j+(n-1)) (by omega);have d2:=ho.cell (i:=j+(n-2)) (by omega);have l1:=hv.nth_lt (n-1);have l2:=hv.nth_lt (n-2);have m0:=ho.nth_lt (j+n);have m1:=ho.nth_lt (j+(n-1));have m2:=ho.nth_lt (j+(n-2));obtain⟨W,M⟩:=yx (U.drop j);have d8:W.length=U.length-j:=by rw[M,k0t]
 have P:∀i,nth W i=nth U (j+i):=fun i=>by rw[M,q0I]
 have c3:Lim W:=by rw[M];exact q13 ho.2 _
 rw[<- M] at hu ⊢;obtain⟨u,a5⟩:=yx (val (W.take (n+1)));obtain⟨v,a6⟩:=yx (val vs);rw[<- a5,<- a6] at hu ⊢;have d9:vs.length=n:=hv.len;have c4:=hv.lim;generalize hv1:nth vs (n-1)=v1 at *
 generalize hv2:nth vs (n-2)=v2 at *
 generalize hu0:nth U (j+n)=u0 at *
 generalize hu1:nth U (j+(n-1))=u1 at *
 generalize hu2:nth U (j+(n-2))=u2 at *
 have eu:u=val (W.take (n-2))+4294967296^(n-2)*(u2+4294967296*u1+18446744073709551616*u0):=by
  have H:=q07 W (n-2);have I:=q07 W (n-1);have e3:=q07 W n;rw[P,hu2] at H;rw[P,hu1] at I;rw[P,hu0] at e3;rw[show n-2+1=n-1 by omega] at H;rw[show n-1+1=n by omega,H,show n-1=(n-2)+1 by omega,k0d,k0j] at I;rw[I,show n=(n-2)+1+1 by omega,k0d,k0d,k0j,k0j] at e3;rw[show(n-2)+1+1=n by omega] at e3;rw[a5,e3,k0u,k0u];have e4:(18446744073709551616:Nat)*u0=4294967296*(4294967296*u0):=by omega
  rw[e4];omega
 have ev:v=val (vs.take (n-2))+4294967296^(n-2)*(v2+4294967296*v1):=by have H:=q07 vs (n-2);have I:=q07 vs (n-1);rw[hv2] at H;rw[hv1] at I;rw[show n-2+1=n-1 by omega] at H;rw[show n-1+1=n by omega,H,show n-1=(n-2)+1 by omega,k0d,k0j,q0f (by omega)] at I;rw[a6,I,k0u];omega
 have hp:0<4294967296^(n-2):=k1g (by omega);have c9:val (W.take (n-2))<4294967296^(n-2):=by have:=q0Y (q0C c3 (n-2));rwa [k0v,k0Y (by omega)] at this
 have d3:val (vs.take (n-2))<4294967296^(n-2):=by have:=q0Y (q0C c4 (n-2));rwa [k0v,k0Y (by omega)] at this
 have bu:(u2+4294967296*u1+18446744073709551616*u0)*4294967296^(n-2)<=u/\u<(u2+4294967296*u1+18446744073709551616*u0+1)*4294967296^(n-2):=by rw[eu];generalize u2+4294967296*u1+18446744073709551616*u0=T;rw[k1f T 1,k0S,k0g T];exact⟨by omega,by omega⟩
 have bv:(v1*4294967296+v2)*4294967296^(n-2)<=v/\v<(v1*4294967296+v2+1)*4294967296^(n-2):=by rw[ev,show v1*4294967296+v2=v2+4294967296*v1 by omega];generalize v2+4294967296*v1=T;rw[k1f T 1,k0S,k0g T];exact⟨by omega,by omega⟩
 have g4:0<v:=by have:0<(v1*4294967296+v2)*4294967296^(n-2):=k0N (by omega) hp;omega
 have a9:u0<=v1:=by
  rcases k0A v1 u0 with h|h
  ·exfalso;have s:4294967296*v<4294967296*((v1*4294967296+v2+1)*4294967296^(n-2)):=Nat.mul_lt_mul_of_pos_left bv.2 (by omega);have C:(4294967296*(v1*4294967296+v2+1))*4294967296^(n-2)<=(u2+4294967296*u1+18446744073709551616*u0)*4294967296^(n-2):=k0y _ (by omega);rw[k0j] at C;omega
  ·exact h
 have hq:u/v<4294967296:=k0s (by rw[k0g];exact hu);have low:∀G,u2+4294967296*u1+18446744073709551616*u0<G*(v1*4294967296+v2)->u/v<G:=fun G h=>q83 bv.1 bu.2 h
 have b0:∀G,G<4294967296->G*(v1*4294967296+v2)<=u2+4294967296*u1+18446744073709551616*u0->G<=u/v+1:=fun G s C=>q6M bv.2 bv.1 bu.1 (by omega) s C
 have b5:=vv (And.intro a5 a6);have e5:=vv (And.intro M (And.intro d8 (And.intro P c3)));have b6:=vv (And.intro d9 c4);have b4:=vv low;have a7:=vv b0;have d4:=vv ho;have e6:=vv hv;have HQ:=vv hq;have c5:=vv g4;have e7:=vv hu0;clear a5 a6 M d8 P c3 d9 c4 low b0 eu ev bu bv hp c9 d3 hv1 hv2 hu0 hu1 hu2 hq hu;have g5:=qa0 u1 u0 m1 m0;have i1:(0:Int)<=(n:Int)-1:=by omega
 have i2:(n:Int)-1<(n:Int):=by omega
 have i3:(0:Int)<=(n:Int):=by omega
 have i4:(n:Int)<(n:Int)+1:=by omega
 have i5:(n:Int)-1<(n:Int)+1:=by omega
 have i6:(0:Int)<=(n:Int)-2:=by omega
 have i7:(n:Int)-2<(n:Int):=by omega
 have i8:(n:Int)-2<(n:Int)+1:=by omega
 rcases hq with rfl|rfl;go_enter func358,ntmps358;rotate_left;go_enter func328,ntmps328;rotate_left;all_goals as_aux_lemma =>
  go_wp2_with fail;go_quiet (fail);go_upto_block 0 with fail;go_cut [8] (fun s8 wx=>∃G k:Nat,s8=.int .u64 G/\wx=w.drewN k/\G<4294967296/\u/v<=G/\G<=u/v+1)
  case first =>
   go_wp2_with fail;go_loopw [8,9] (fun g r wx=>∃G R k:Nat,g=.int .u64 G/\r=.int .u64 R/\wx=w.drewN k/\G*v1+R=u1+4294967296*u0/\u/v<=G/\R<4294967296/\G<=4294967297) (fun g _ _=>(intOf g).toNat)
   case atStart =>
    obtain⟨f1,f2,f3⟩:=q5y (v2:=v2) (u2:=u2) htop l1 a9 m1 m2;have e0:(u1:Int)+4294967296*(u0:Int)=((u1+4294967296*u0:Nat):Int):=by omega
    refine⟨(u1+4294967296*u0)/v1,(u1+4294967296*u0)%v1,_,k0z _ (by rw[e0,k1n]),k0z _ (by rw[e0,k1x]),rfl,f3,?_,k3h (k0i _ (by omega)) l1,f2⟩;have:=b4.o _ f1;exact Nat.le_of_lt_succ this
   case round =>
    obtain⟨G,R,k,rfl,rfl,rfl,he,e8,hR,hG⟩:=hrel;have j5:=qa0 u2 R m2 hR;have HE:=vv he;have g6:=vv e8;clear he e8;have a8:∀G R,G*v1+R=u1+4294967296*u0->4294967296<=R->G<4294967296/\G<=u/v+1:=fun G R s C=>by obtain⟨g1,g2⟩:=q5z (v2:=v2) s a9 m1 C l2;exact⟨g1,a7.o G g1 (q4Q s (g2 u2))⟩
    have b7:=vv a8;clear a8;by_cases hGB:4294967296<=G
    ·have t1:decide ((4294967296:Int)<=(G:Int))=true:=by simp;omega
     have J:=vv (q8j HE.o (by omega));have S:Hid (u/v<=G-1):=vv (by have:=HQ.o;omega);by_cases hB:4294967296<=R+v1
     ·have t2:decide ((4294967296:Int)<=(R:Int)+(v1:Int))=true:=by simp;omega
      have D:=vv hB;clear hB;go_wp2_with fail;go_quiet (fail);go_wp2_with fail;go_meet;exact⟨G-1,_,by go_num,rfl,(b7.o _ _ J.o D.o).1,S.o,(b7.o _ _ J.o D.o).2⟩
     ·have t2:decide ((4294967296:Int)<=(R:Int)+(v1:Int))=false:=by simp;omega
      have D:=vv hB;clear hB;go_wp2_with fail;go_quiet (fail);go_wp2_with fail;go_roundw
      case rel=>exact⟨G-1,R+v1,_,by go_num,by go_num,rfl,J.o,S.o,by have:=D.o;omega,by omega⟩
      case measure=>simp [intOf];omega
    ·have t1:decide ((4294967296:Int)<=(G:Int))=false:=by simp;omega
     have b8:=q1i (x:=G) (y:=v2) (by omega) l2;have p1:(G:Int)*(v2:Int)<=18446744065119617025:=by
      have:((G*v2:Nat):Int)<=18446744065119617025:=by omega
      rwa [k0f] at this
     have p2:(0:Int)<=(G:Int)*(v2:Int):=k18 (k0k _) (k0k _);clear b8;by_cases hP:R*4294967296+u2<G*v2
     ·have S:Hid (u/v<G):=vv (b4.o G (q9r HE.o hP));have g7:0<G:=by
       rcases k01 G with h|h
       ·subst h;rw[k24] at hP;omega
       ·exact h
      have J:=vv (q8j HE.o g7);have g8:(u2:Int)+4294967296*(R:Int)<(G:Int)*(v2:Int):=by
       have:((R*4294967296+u2:Nat):Int)<((G*v2:Nat):Int):=by omega
       rw[k0f] at this;omega
      have b9:Hid (u/v<=G-1):=vv (by have:=S.o;omega);clear hP;by_cases hB:4294967296<=R+v1
      ·have t2:decide ((4294967296:Int)<=(R:Int)+(v1:Int))=true:=by simp;omega
       have D:=vv hB;clear hB;go_wp2_with fail;go_quiet (fail);go_wp2_with fail;go_meet;exact⟨G-1,_,by go_num,rfl,(b7.o _ _ J.o D.o).1,b9.o,(b7.o _ _ J.o D.o).2⟩
      ·have t2:decide ((4294967296:Int)<=(R:Int)+(v1:Int))=false:=by simp;omega
       have D:=vv hB;clear hB;go_wp2_with fail;go_quiet (fail);go_wp2_with fail;go_roundw
       case rel=>exact⟨G-1,R+v1,_,by go_num,by go_num,rfl,J.o,b9.o,by have:=D.o;omega,by omega⟩
       case measure=>simp [intOf];omega
     ·have g8:¬(u2:Int)+4294967296*(R:Int)<(G:Int)*(v2:Int):=by
       intro h;have:((R*4294967296+u2:Nat):Int)<((G*v2:Nat):Int):=by rw[k0f];omega
       omega
      have b9:Hid (G<=u/v+1):=vv (a7.o G (by omega) (q4Q HE.o (by omega)));clear hP;go_wp2_with fail;go_quiet (fail);go_wp2_with fail;go_meet;exact⟨G,_,rfl,World.drewN_drewN _ _ _,by omega,g6.o,b9.o⟩
  case rest =>
   obtain⟨G,k,rfl,rfl,hG,e9,f0⟩:=hcut;have g9:=vv f0;have i0:=vv e9;have i9:=vv hG;clear f0 e9 g5 c1 c2 d1 d2 d0;have j7:(G:Int)<=4294967295:=by omega
   clear hG;go_wp2_with fail;go_loopw [10,11,12] (fun c bo i wx=>∃(x y k:Nat) (X:List Nat),c=.int .u64 x/\bo=.int .u64 y/\i=.int .i64 k/\x<4294967296/\y<=1/\k<=n/\X.length=U.length/\Own wx g 54 X /\(∀p,p<j\/j+k<=p->nth X p=nth U p)/\val ((X.drop j).take k)+G*val (vs.take k)=val (W.take k)+4294967296^k*(x+y)/\w.grownBy wx (some g)) (fun _ _ i _=>n-(intOf i).toNat)
   case atStart=>exact⟨0,0,0,U,rfl,rfl,rfl,by omega,by omega,k0x _,rfl,d4.o.drewN _,fun _ _=>rfl,by simp [val],q3V (World.grownBy.refl _ _) _⟩
   case round =>
    obtain⟨x,y,k,X,rfl,rfl,rfl,hx,hy,hk,f4,l,a0,a4,a3⟩:=hrel;have N:=vv a4;have f:=vv f4;have t:=vv a0;have K:=vv l;clear a4 f4 a0;by_cases hkn:k<n
    ·have j0:wr.cell? ⟨b,off+k,none⟩=some (.int .u32 ((nth vs k:Nat):Int)):=(q1o a3 (p:=⟨b,off+k,none⟩) d6 d7).trans (HC.o k hkn);have f5:=e6.o.nth_lt k;have c6:=l.cell (i:=j+k) (by rw[f.o];omega);have hf:=l.frozen (j+k);have f6:=l.nth_lt (j+k);clear l;have b8:=q1i i9.o f5;have p1:(G:Int)*((nth vs k:Nat):Int)<=18446744065119617025:=by
      have:((G*nth vs k:Nat):Int)<=18446744065119617025:=by omega
      rwa [k0f] at this
     have p2:(0:Int)<=(G:Int)*((nth vs k:Nat):Int):=k18 (k0k _) (k0k _);have HM:=vv b8;clear b8;obtain⟨m,q,O,b2,E⟩:=qah (nth X (j+k)) ((G*nth vs k+x)%4294967296) y f6 (k0i _ (by omega)) hy;have F:=vv (qcm (nth X (j+k)) (G*nth vs k+x) y G (nth vs k) x rfl (by have:=HM.o;omega) f6 hy m q O b2 E);have B3:=vv E;clear E;go_wp2;go_roundw
     case rel =>
      refine⟨(G*nth vs k+x)/4294967296,q,k+1,X.set (j+k) m,k0z _ F.o.2.2,k0z _ F.o.1,by go_num,by have:=HM.o;omega,b2,by omega,by rw[k0c];exact f.o,K.o.set (by rw[f.o];omega) O F.o.2.1,fun p hp=>?_,?_,only_setCell a3 (.inl rfl) _⟩
      ·rw[q0i _ _ (by omega)];exact t.o p (by omega)
      ·rw[q1E];refine q7O (by rw[k0t,f.o];omega) ?_ (by rw[q0I];exact B3.o) N.o;rw[q0I,e5.o.2.2.1];exact t.o _ (by omega)
     case measure=>simp [intOf];omega
    ·obtain rfl:k=n:=by omega
     have c6:=l.cell (i:=j+k) (by rw[f.o];omega);have hf:=l.frozen (j+k);have f7:nth X (j+k)=u0:=by rw[t.o _ (by omega)];exact e7.o
     rw[f7] at c6;clear f7 l;obtain⟨m,q,O,b2,E⟩:=qah u0 x y m0 hx hy;have F:=vv (qbZ u0 x y m0 hx hy m q O b2 E);have z:val (((X.set (j+k) m).drop j).take (k+1))+G*v=u+4294967296^(k+1)*q:=by rw[q1E];refine q7P (u0:=u0) (x:=x) (y:=y) (by rw[k0t,f.o];omega) b5.o.1 (by rw[e5.o.2.2.1];exact e7.o) E ?_;have:=N.o;rw[q0f (xs:=vs) (by rw[b6.o.1];omega),<- b5.o.2] at this;exact this
     have HX:=vv (K.o.set (i:=j+k) (x:=m) (by rw[f.o];omega) O F.o.2);have f8:Hid (∀p,p<j\/j+k+1<=p->nth (X.set (j+k) m) p=nth U p):=vv fun p hp=>by rw[q0i _ _ (by omega)];exact t.o p (by omega)
     have c7:Hid ((X.set (j+k) m).length=U.length):=vv (by rw[k0c];exact f.o);have c0:val (((X.set (j+k) m).drop j).take (k+1))<4294967296^(k+1):=by
      have:=q0Y (q0C (q13 HX.o.2 j) (k+1))
      rwa [k0v,k0t,c7.o,k0Y (by omega)] at this
     have a1:=only_setCell a3 (p:=⟨g,j+k,none⟩) (.inl rfl) (.int .u32 (IntKind.u64.wrap (IntKind.u64.wrap ((u0:Int)-(x:Int))-(y:Int))%4294967296));rcases k01 q with j1|S
     ·subst j1;rw[k1m,k1u] at z;obtain⟨r1,r2⟩:=q89 z i0.o c5.o rfl c0;have t1:(IntKind.u64.wrap (IntKind.u64.wrap ((u0:Int)-(x:Int))-(y:Int))/9223372036854775808==0)=true:=by rw[F.o.1];rfl
      have R1:=vv r1;have R2:=vv r2;clear r1 r2 z c0 E;go_wp2;go_ret;exact⟨q0X (by rw[R1.o];rfl),⟨_,HX.o,c7.o,f8.o,R2.o⟩,a1⟩
     ·obtain rfl:q=1:=by omega
      rw[k0G] at z;obtain⟨r1,r2⟩:=q9x z c0 g9.o c5.o;have t1:(IntKind.u64.wrap (IntKind.u64.wrap ((u0:Int)-(x:Int))-(y:Int))/9223372036854775808==0)=false:=by rw[F.o.1];rfl
      have R1:=vv r1;have R2:=vv r2;clear r1 r2 z c0 E;have f9:Hid (nth (X.set (j+k) m) (j+k)=m):=vv (by rw[q0H _ _ _ _ (by rw[f.o];omega),k0p rfl]);have j2:=vv O;clear K t N f F;generalize X.set (j+k) m=Z at *
      obtain⟨wo,rfl⟩:∃wo:World,wo=wr:=⟨_,rfl⟩;go_wp2;go_loopw [16,17] (fun c i wx=>∃(x p:Nat) (Y:List Nat),c=.int .u64 x/\i=.int .i64 p/\x<=1/\p<=k/\Y.length=U.length/\Own wx g 54 Y /\(∀q,q<j\/j+p<=q->nth Y q=nth Z q)/\val ((Y.drop j).take p)+4294967296^p*x=val ((Z.drop j).take p)+val (vs.take p)/\w.grownBy wx (some g)) (fun _ i _=>k-(intOf i).toNat)
      case atStart=>exact⟨0,0,Z,rfl,rfl,by omega,k0x _,c7.o,HX.o,fun _ _=>rfl,by simp [val],a1⟩
      case round =>
       clear a1 a3 c6 hf;obtain⟨L,p,Y,rfl,rfl,j8,hp,g0,l,a0,a4,c8⟩:=hrel;have N:=vv a4;have f:=vv g0;have t:=vv a0;have K:=vv l;clear a4 g0 a0;by_cases hpk:p<k
       ·have j0:wr.cell? ⟨b,off+p,none⟩=some (.int .u32 ((nth vs p:Nat):Int)):=(q1o c8 (p:=⟨b,off+p,none⟩) d6 d7).trans (HC.o p hpk);have f5:=e6.o.nth_lt p;have g3:=l.cell (i:=j+p) (by rw[f.o];omega);have j3:=l.frozen (j+p);have j9:=l.nth_lt (j+p);have k1:(p:Int)<(k:Int):=by omega
        have k2:(0:Int)<=(p:Int):=by omega
        have k3:(p:Int)<(k:Int)+1:=by omega
        clear l;go_wp2_with fail;go_quiet (fail);go_wp2;go_roundw
        case rel =>
         refine⟨(nth Y (j+p)+nth vs p+L)/4294967296,p+1,Y.set (j+p) ((nth Y (j+p)+nth vs p+L)%4294967296),k0z _ (by omega),by go_num,by omega,by omega,by rw[k0c];exact f.o,(K.o.drewN _).set (by rw[f.o];omega) (k0i _ (by omega)) (by omega),fun q hq=>?_,?_,only_setCell (q3V c8 _) (.inl rfl) _⟩
         ·rw[q0i _ _ (by omega)];exact t.o q (by omega)
         ·rw[q1E];have:=q7R (vs:=vs) (W:=Z.drop j) (X:=Y.drop j) (i:=p) (c:=L) (by rw[k0t,f.o];omega) (by rw[q0I,q0I];exact t.o _ (by omega)) N.o;rw[q0I] at this;exact this
        case measure=>simp [intOf];omega
       ·obtain rfl:p=k:=by omega
        have g3:=l.cell (i:=j+p) (by rw[f.o];omega);have j3:=l.frozen (j+p);have e0:nth Y (j+p)=m:=by rw[t.o _ (by omega)];exact f9.o
        rw[e0] at g3;clear e0 l;have k0:=j2.o;have z:val (((Y.set (j+p) ((m+L)%4294967296)).drop j).take (p+1))=u%v:=by
         have s:=N.o;rw[q0f (xs:=vs) (by rw[b6.o.1];omega),<- b5.o.2] at s;have C:=R2.o;rw[q07 (Z.drop j),q0I,f9.o] at C;have h3:val ((Y.drop j).take p)<4294967296^p:=by
          have:=q0Y (q0C (q13 K.o.2 j) p)
          rwa [k0v,k0t,f.o,k0Y (by omega)] at this
         have h4:u%v<4294967296^p:=k03 (k0i _ c5.o) (by have:=q0Y b6.o.2;rw[b6.o.1,<- b5.o.2] at this;omega);have h5:val ((Y.drop j).take p)+4294967296^p*(L+m)=u%v+4294967296^p*4294967296:=by rw[k0d] at C;rw[k0u];omega
         obtain⟨h6,h7⟩:=q9y h3 h4 h5;rw[q1E,q0j _ _ _ (by rw[k0t,f.o];omega),show m+L=4294967296 by omega,h7];simp
        have d5:=vv z;clear z;have j4:=vv (show u/v<4294967296 from HQ.o);have k4:(1:Int)<=(G:Int):=by have s:=R1.o;rw[s,k1o];have:=k0k (u/v);omega
        go_wp2;go_ret;refine⟨q0X ?_,⟨Y.set (j+p) ((m+L)%4294967296),K.o.set (by rw[f.o];omega) (k0i _ (by omega)) (by omega),by rw[k0c];exact f.o,fun q hq=>?_,d5.o⟩,only_setCell c8 (.inl rfl) _⟩
        ·have s:=R1.o;have C:=j4.o;generalize u/v=Q at *
         omega
        ·rw[q0i _ _ (by omega),t.o q (by omega)];exact f8.o q hq
end AB
namespace A
open AB
open Go Go.RowKit
def figure:=@AB.figure 358
end A
namespace B
open AB
open Go Go.RowKit
def figure:=@AB.figure 328
end B
end Go.Proofs.YtabcgemembkkcaaGreatDoor
