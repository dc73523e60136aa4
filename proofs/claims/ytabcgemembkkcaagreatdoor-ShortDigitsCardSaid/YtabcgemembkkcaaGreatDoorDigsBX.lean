/- Lemmas. -/
import Derived.Test.YtabcgemembkkcaaGreatDoorDigsBU
import Derived.Test.YtabcgemembkkcaaGreatDoorDigsBW
set_option linter.all false
set_option maxHeartbeats 16000000
set_option maxRecDepth 100000
open Go.Proofs.Tryz
open Bool renaming false->qa,true->qk,or_false->qm
open Option renaming none->qb,some->qg
open Go renaming RowKit.Below.refl->qc,bodyPost_ret->qh,Calls->qi,World.size_alloc->qj,World->ql
open Go.Proofs.Tryz renaming prog->qd
open Decidable renaming decide->qe
open Go.RowKit renaming Below->qf
namespace Go.Proofs.YtabcgemembkkcaaGreatDoor
namespace R6
open Go Go.RowKit R5 Scn Sh Fms Exa Nea R4 Rtp Sho
theorem q3C{E F b:Nat}(hb:b<2^(1+E+F))(h1:1<=E)(hf:q0c E F b≠2^E-1)(h:0<q0o E F b):1<=b/\q0o E F (b-1)=q0o E F b-1/\q0M E F (b-1)=q0M E F b/\q0c E F (b-1)≠2^E-1:=by
 have i:=k0a (E+F);have l:=k0F b (2^(E+F));have j:0<b%2^(E+F):=h;have d:1<=b:=by
  rcases k01 b with e|e
  ·rw[e,Nat.zero_mod] at j;omega
  ·exact e
 have a:(b-1)/2^(E+F)=b/2^(E+F):=by
  refine k1I ?_ ?_
  ·rw[k0g];omega
  ·have:=k0i b i;rw[k1f,k0g,k0S];omega
 have f:(b-1)%2^(E+F)=b%2^(E+F)-1:=by have k:=k0F (b-1) (2^(E+F));rw[a] at k;omega
 have c:q0o E F (b-1)=q0o E F b-1:=f;have hx:=q1M E F b;have g:=q1M E F (b-1);have m:q0c E F b<2^E:=k0i _ (k0a E);refine⟨d,c,?_,?_⟩
 ·unfold q0M;rw[k0Z F E,a]
 ·rw[<- g,c];have n:(q0o E F b-1)/2^F<=q0o E F b/2^F:=Nat.div_le_div_right (by omega);omega
theorem qaR{E F b:Nat}(h:1<=F):b%2=q0o E F b%2:=by unfold q0o;rw[k2R _ (by obtain⟨k,a⟩:∃k,E+F=k+1:=⟨E+F-1,by omega⟩;rw[a,k0d];exact⟨2^k,k0g _ _⟩)]
theorem q9A(E F m mode:Nat):q0D E F m mode=if mode=2 then⟨wv E F m,after E F m,qk || m==0,qa⟩
 else if mode=3 then⟨before E F m,wv E F m,qa || m==0,qk⟩
 else if mode=1 then⟨(before E F m+wv E F m)/2,(wv E F m+after E F m)/2,qk || m==0,qa⟩
 else⟨(before E F m+wv E F m)/2,(wv E F m+after E F m)/2,(m%2==0) || m==0,m%2==0⟩:=by
 unfold q0D;have e:((m%2==0) || m==0)=(m%2==0):=by
  by_cases h:m=0
  ·rw[h];rfl
  ·rw[k05.2 h,qm]
 rw[e];rfl
theorem ReachR(E F b mode:Nat)(w:ql)(h1:2<=E)(h2:E<=11)(h3:1<=F)(h4:F<=52)(hb:b<2^(1+E+F))(hf:q0c E F b≠2^E-1)(hmo:mode<=4):qi qd 27 #[fm E F,.int .u64 (b:Int),.int .u8 (mode:Int)] w (qe9 (q0w E F b mode) w):=by
 obtain⟨w0,j1⟩:=yx (((w.alloc (.cells #[.int .i64 (E:Int),.int .i64 (F:Int)] 23)).alloc (.cells #[.bool qa,.slice qb 0 0,.slice qb 0 0] 39)).alloc (.cells #[.bool qa,.slice qb 0 0,.slice qb 0 0] 39));have t:Cx w [(w.heap.size+1+1,39,[.bool qa,.slice qb 0 0,.slice qb 0 0]),(w.heap.size+1,39,[.bool qa,.slice qb 0 0,.slice qb 0 0]),(w.heap.size,23,[.int .i64 (E:Int),.int .i64 (F:Int)])] w0:=by rw[j1];exact(((Cx.nil w).new _ [_,_] rfl).new _ [_,_,_] (by simp)).new _ [_,_,_] (by simp)
 have d4:b<18446744073709551616:=k03 hb (k00 (by decide) (show 1+E+F<=64 by omega));have o5:q09 (E:Int) (F:Int) b=0:=q4R h1 h2 h3 h4 hb;have o6:=vv fun w'=>R3.Fits (E:Int) (F:Int) b w' d4
 rw[o5] at o6;have o7:=vv fun w'=>R3.Finite E F b w' h1 h2 h3 h4 hb
 rw[k04 (show q0c E F b≠R3.tw E-1 from hf)] at o7;have i0:=vv fun w'=>qcz E F w' h2 h4
 have j2:=vv fun w'=>q77 E F b w' h1 h2 h3 h4 hb hf
 have j3:=vv fun w'=>qbm E F b w' h1 h2 h3 h4 hb hf
 have hm:q0o E F b<2^(E+F):=k0i _ (k0a _);obtain⟨I,U⟩:=q2W h1 h2 h4 hm;have p7:=q5s (F:=F) (m:=q0o E F b) h4;have j4:Hid (0<q0o E F b->∀w',qi qd 72 #[fm E F,.int .u64 ((b-1:Nat):Int)] w' (DB1 (q0M E F b) (before E F (q0o E F b)) w')):=vv fun h w'=>by
  obtain⟨k1,k2,k3,k4⟩:=q3C hb (by omega) hf h;have:=q77 E F (b-1) w' h1 h2 h3 h4 (by omega) k4;rw[k3,k2] at this;unfold before
  rwa [k0r (by omega)]
 have j5:0<q0o E F b->1<=b:=fun h=>(q3C hb (by omega) hf h).1
 obtain⟨K,p,k1,k2,k3,k4,k5⟩:=q3B E F (q0o E F b) h1 h2 h4 hm;have o8:=vv fun z ba A n c N x bb B m' d M y w' (k:DB w' z ba A n c N x (before E F (q0o E F b))) (k':DB w' z bb B m' d M y (wv E F (q0o E F b)))=>qcn z ba A n c N x (before E F (q0o E F b)) bb B m' d M y (wv E F (q0o E F b)) w' k k' (by rw[k1];exact Rb.dq (by omega) (by omega) (by omega)) (by rw[k1,q2O];exact Rb.dq (by omega) (by omega) (by omega))
 have hh:bl (2*mgN F (q0o E F b)+1)<=60:=by have h1:=q1T 2 (mgN F (q0o E F b));have h2:bl 2=2:=rfl;have:=q20 (2*mgN F (q0o E F b)) 1 57 (by omega) (by decide);omega
 have o9:=vv fun z ba A n c N x bb B m' d M y w' (k:DB w' z ba A n c N x (wv E F (q0o E F b))) (k':DB w' z bb B m' d M y (after E F (q0o E F b)))=>qcn z ba A n c N x (wv E F (q0o E F b)) bb B m' d M y (after E F (q0o E F b)) w' k k' (by rw[q1P];exact Rb.dq (by omega) (by omega) (by omega)) (by rw[q1P,q2O];exact Rb.dq (by omega) (by omega) (by omega))
 have j6:qe (((2^(E+F):Nat):Int)<=(b:Int))=q0M E F b:=q7K hb;have g4:q0M E F b=q1v E F b:=q3m hb;have g5:=qaR (E:=E) (b:=b) h3;have j7:q0o E F b=0->before E F (q0o E F b)=wv E F (q0o E F b):=fun h=>by unfold before;rw[k0p h]
 obtain⟨C,O⟩:=yx (q0D E F (q0o E F b) (Go.Proofs.YtabcgemembkkcaaGreatDoor.Sh.seen mode (q1v E F b)));have f9:q0w E F b mode=if q1v E F b then⟨-C.outer,-C.inner,C.oi,C.ii⟩ else⟨C.inner,C.outer,C.ii,C.oi⟩:=by unfold q0w;rw[O]
 rw[q9A] at O;rw[<- g4] at f9 O;have f7:(b:Int)%2=((q0o E F b%2:Nat):Int):=by omega
 obtain⟨m,i1⟩:∃y,y=q0o E F b:=⟨_,rfl⟩;have g6:(b:Int)%((2^(E+F):Nat):Int)=(m:Int):=by rw[i1];rfl
 have g9:(b:Int).tmod ((2^(E+F):Nat):Int)=(m:Int):=by rw[k0Q (by omega)];exact g6
 rw[<- i1] at O j4 j5 o8 o9 j2 j3 j7 f7;obtain⟨ev,i2⟩:=yx ((m%2==0));rw[<- i2] at O;have p8:((b:Int)%2==0)=ev:=by rw[f7,i2];rcases k0U m with h|h<;>rw[h]<;>rfl
 have s7:((b:Int).tmod 2==0)=ev:=by rw[k0Q (by omega)];exact p8
 have s8:(b%2==0)=ev:=by rw[i2,g5,<- i1]
 obtain⟨mz,i3⟩:=yx ((m==0));rw[<- i3] at O;have s9:((m:Int)==0)=mz:=by rw[i3,k2u,k1D,k1D];omega
 obtain⟨z,g7⟩:=yx (q0M E F b);rw[<- g7] at j6 f9 O j2 j3 j4;obtain⟨PW,p0⟩:=yx (2^(E+F));rw[<- p0] at i0 j6 g6 g9;have t1:((PW:Int)==0)=qa:=by have:=k0a (E+F);rw[k05];omega
 have t2:¬PW=0:=by have:=k0a (E+F);omega
 have s4:qe (PW<=b)=z:=by rw[<- j6,k1y];omega
 obtain⟨sm,b4⟩:=yx (Go.Proofs.YtabcgemembkkcaaGreatDoor.Sh.seen mode z);have d2:sm<=3:=by rw[b4];exact q7v _ hmo
 rw[<- b4] at O;have i4:=vv fun bb A n c N x q w' (k:DB w' z bb A n c N x q)=>qcb z bb A n c N x q w' k
 obtain⟨sp,p1⟩:=yx (q0w E F b mode);rw[<- p1] at f9 ⊢;have c0:=vv f9;have i5:=vv O;have i6:=vv (And.intro b4 (And.intro d2 hmo));have p9:=vv (And.intro i3 j7);have p2:=vv (And.intro j5 d4);have t3:qe ((4:Int)<(mode:Int))=qa:=k02 (by omega);have s5:qe (4<mode)=qa:=k02 (by omega);have s6:(mode:Int)<=4:=by omega
 have a:=vv t;have HW:=vv j1;clear j1 t d4 o5 hm I U p7 k1 k2 k3 k4 k5 hh g4 g5 j7 O f9 f7 i1 i2 i3 g7 p0 b4 d2 p1 hb hf hmo j5;obtain⟨q0,q1,q2⟩:=Blk.f2 (a.o.get 2 rfl);go_enter func27,ntmps27;go_wp2_with fail;rw[<- HW.o];go_wp2_with fail;refine(o6.o _).mono ?_;rintro e w4 ⟨rfl,f⟩;replace a:=vv (a.o.step f);clear q0 q1 q2 f;obtain⟨q3,q4,q5⟩:=Blk.f2 (a.o.get 2 rfl);go_wp2_with fail;refine(o7.o _).mono ?_;rintro e w8 ⟨rfl,f⟩;replace a:=vv (a.o.step f);clear q3 q4 q5 f;obtain⟨q6,k6,k7⟩:=Blk.f2 (a.o.get 2 rfl);go_wp2_with fail;refine(i0.o _).mono ?_;rintro e t4 ⟨rfl,f⟩;replace a:=vv (a.o.step f);clear q6 k6 k7 f;obtain⟨k8,k9,l0⟩:=Blk.f2 (a.o.get 2 rfl);go_wp2_with fail;refine(j2.o _).mono ?_;rintro e i7 ⟨I,P,n1,c1,N1,Q,rfl,V,f⟩;replace a:=vv (a.o.step f);have s:=vv V;clear k8 k9 l0 f V;obtain⟨l1,l2,l3⟩:=Blk.f2 (a.o.get 2 rfl);go_wp2_with fail;obtain⟨g0,S⟩:=yx (i7.heap.size);obtain⟨q7,H⟩:=yx (i7.alloc (.cells #[.bool I,.slice P n1 c1,.int .i64 Q] 62));have f:qf i7.heap.size i7 q7:=by rw[H];exact(qc _ _).alloc lr _
 have t:=a.o.new 62 [.bool I,.slice P n1 c1,.int .i64 Q] S;rw[<- H] at t 
 try rw[<- H]
 try rw[<- S]
 replace a:=vv t;replace s:=vv (s.o.below f);clear l1 l2 l3 H f t S;refine(j3.o _).mono ?_;rintro e i8 ⟨U,A2,n2,c2,N2,x2,rfl,V,f⟩;replace a:=vv (a.o.step f);replace s:=vv (s.o.below f);have u:=vv V;clear f V;obtain⟨l4,l5,l6,l7⟩:=Blk.f3 (a.o.get 0 rfl);obtain⟨l8,l9,m0⟩:=Blk.f2 (a.o.get 3 rfl);go_wp2_with fail;obtain⟨a5,S⟩:=yx (i8.heap.size);obtain⟨g1,H⟩:=yx (i8.alloc (.cells #[.bool U,.slice A2 n2 c2,.int .i64 x2] 62));have f:qf i8.heap.size i8 g1:=by rw[H];exact(qc _ _).alloc lr _
 have t:=a.o.new 62 [.bool U,.slice A2 n2 c2,.int .i64 x2] S;have g8:(a5+1:Nat)=g1.heap.size:=by rw[H,qj,<- S]
 rw[<- H] at t 
 try rw[<- H]
 try rw[<- S]
 replace a:=vv t;replace s:=vv (s.o.below f);replace u:=vv (u.o.below f);clear l4 l5 l6 l7 l8 l9 m0 H f t S;obtain⟨q8,H⟩:=yx (g1.alloc (.cells #[.bool I,.slice P n1 c1,.int .i64 Q] 62));have f:qf g1.heap.size g1 q8:=by rw[H];exact(qc _ _).alloc lr _
 have t:=a.o.new 62 [.bool I,.slice P n1 c1,.int .i64 Q] g8;rw[<- H] at t 
 try rw[<- H]
 replace a:=vv t;replace s:=vv (s.o.below f);replace u:=vv (u.o.below f);clear H f t g8;refine(i0.o _).mono ?_;rintro e q9 ⟨rfl,f⟩;replace a:=vv (a.o.step f);replace s:=vv (s.o.below f);replace u:=vv (u.o.below f);clear f;go_upto_if 57 with fail;go_cut [15] (fun s15 wx=>∃(W:Bool) (Z:Option Addr) (n5 c5 N5:Nat) (x5:Int),s15=.pointer (qg ⟨(a5+1),0,qb⟩)/\Cx w [((a5+1),62,[.bool W,.slice Z n5 c5,.int .i64 x5]),(a5,62,[.bool U,.slice A2 n2 c2,.int .i64 x2]),(g0,62,[.bool I,.slice P n1 c1,.int .i64 Q]),((w.heap.size+1+1),39,[.bool qa,.slice qb 0 0,.slice qb 0 0]),((w.heap.size+1),39,[.bool qa,.slice qb 0 0,.slice qb 0 0]),(w.heap.size,23,[.int .i64 (E:Int),.int .i64 (F:Int)])] wx/\DB wx z I P n1 c1 N1 Q (wv E F m)/\DB wx z U A2 n2 c2 N2 x2 (after E F m)/\DB wx z W Z n5 c5 N5 x5 (before E F m))
 case first =>
  rcases k01 m with f8|f8
  ·have t0:qe (0<m)=qa:=k02 (by omega);have f7:=p9.o.2 f8;have r0:Hid (DB q9 z I P n1 c1 N1 Q (before E F m)):=vv (by rw[f7];exact s.o);clear f7 f8;rw[t0];go_wp2_with fail;go_meet;exact⟨I,P,n1,c1,N1,Q,rfl,a.o,s.o,u.o,r0.o⟩
  ·have t0:qe (0<m)=qk:=k04 f8;have r1:=p2.o.1 f8;have r2:((b-1:Nat):Int)<=18446744073709551614:=by have:=p2.o.2;omega
   have r3:(b:Int)-1=((b-1:Nat):Int):=by omega
   obtain⟨j,hj⟩:=yx (b-1);have j8:=j4.o f8;rw[<- hj] at r3 j8 r2;have r4:=vv j8;clear j8 hj r1;rw[t0];obtain⟨d5,d6,m1⟩:=Blk.f2 (a.o.get 5 rfl);go_wp2_with fail;refine(r4.o _).mono ?_;rintro e t5 ⟨W,Z,n5,c5,N5,x5,rfl,V,f⟩;replace a:=vv (a.o.step f);replace s:=vv (s.o.below f);replace u:=vv (u.o.below f);have D:=vv V;clear d5 d6 m1 f V;have g:=vv (a.o.get 0 rfl);go_wp2_with (with_reducible refine q00 rfl 62 (.tmp 15) (.tmp 61) rfl (a5+1) [.bool W,.slice Z n5 c5,.int .i64 x5] rfl rfl 62 _ g.o (by kernel_rfl) rfl rfl ?_);intro t6 G r;clear g;have g:=vv (a.o.get 0 rfl);replace a:=vv (a.o.put 0 rfl G r);replace s:=vv (s.o.apart_ g.o rfl r);replace u:=vv (u.o.apart_ g.o rfl r);replace D:=vv (D.o.apart_ g.o rfl r);clear g G r;go_wp2_with fail;go_meet;exact⟨W,Z,n5,c5,N5,x5,rfl,a.o,s.o,u.o,D.o⟩
 case rest =>
  obtain⟨W,Z,n5,c5,N5,x5,rfl,t,c4,d0,d1⟩:=hcut;replace a:=vv t;replace s:=vv c4;replace u:=vv d0;have D:=vv d1;clear t c4 d0 d1;go_upto_region 14 with fail;go_cut [66] (fun s66 wx=>s66=.bool (z && qe (mode=3))/\Cx w [((a5+1),62,[.bool W,.slice Z n5 c5,.int .i64 x5]),(a5,62,[.bool U,.slice A2 n2 c2,.int .i64 x2]),(g0,62,[.bool I,.slice P n1 c1,.int .i64 Q]),((w.heap.size+1+1),39,[.bool qa,.slice qb 0 0,.slice qb 0 0]),((w.heap.size+1),39,[.bool qa,.slice qb 0 0,.slice qb 0 0]),(w.heap.size,23,[.int .i64 (E:Int),.int .i64 (F:Int)])] wx/\DB wx z I P n1 c1 N1 Q (wv E F m)/\DB wx z U A2 n2 c2 N2 x2 (after E F m)/\DB wx z W Z n5 c5 N5 x5 (before E F m))
  case first =>
   have hmo:=i6.o.2.2;rcases(by omega:mode=0\/mode=1\/mode=2\/mode=3\/mode=4) with rfl|rfl|rfl|rfl|rfl<;>cases z;all_goals
    clear hmo;go_wp2_with fail;go_meet;exact⟨rfl,a.o,s.o,u.o,D.o⟩
  case rest =>
   obtain⟨rfl,t,c4,d0,d1⟩:=hcut;replace a:=vv t;replace s:=vv c4;replace u:=vv d0;replace D:=vv d1;clear t c4 d0 d1;go_upto_if 66 with fail;go_cut [2] (fun s2 wx=>s2=.int .u8 (sm:Int)/\Cx w [((a5+1),62,[.bool W,.slice Z n5 c5,.int .i64 x5]),(a5,62,[.bool U,.slice A2 n2 c2,.int .i64 x2]),(g0,62,[.bool I,.slice P n1 c1,.int .i64 Q]),((w.heap.size+1+1),39,[.bool qa,.slice qb 0 0,.slice qb 0 0]),((w.heap.size+1),39,[.bool qa,.slice qb 0 0,.slice qb 0 0]),(w.heap.size,23,[.int .i64 (E:Int),.int .i64 (F:Int)])] wx/\DB wx z I P n1 c1 N1 Q (wv E F m)/\DB wx z U A2 n2 c2 N2 x2 (after E F m)/\DB wx z W Z n5 c5 N5 x5 (before E F m))
   case first =>
    have hmo:=i6.o.2.2;have b4:=i6.o.1;rcases(by omega:mode=0\/mode=1\/mode=2\/mode=3\/mode=4) with rfl|rfl|rfl|rfl|rfl<;>cases z;all_goals
     replace b4:sm=_:=b4;subst b4;clear hmo;go_wp2_with fail;go_meet;exact⟨rfl,a.o,s.o,u.o,D.o⟩
   case rest =>
    obtain⟨rfl,t,c4,d0,d1⟩:=hcut;replace a:=vv t;replace s:=vv c4;replace u:=vv d0;replace D:=vv d1;clear t c4 d0 d1;obtain⟨d5,d6,m2,m3⟩:=Blk.f3 (a.o.get 0 rfl);obtain⟨m4,m5,m6,m7⟩:=Blk.f3 (a.o.get 2 rfl);go_wp2_with fail;refine(o8.o _ _ _ _ _ _ _ _ _ _ _ _ _ _ D.o s.o).mono ?_;rintro e i9 ⟨b6,A6,n6,c6,N6,x6,rfl,V,f⟩;replace a:=vv (a.o.step f);replace s:=vv (s.o.below f);replace u:=vv (u.o.below f);replace D:=vv (D.o.below f);have R:=vv V;clear d5 d6 m2 m3 m4 m5 m6 m7 f V;obtain⟨m8,m9,n0,n4⟩:=Blk.f3 (a.o.get 1 rfl);obtain⟨o0,o1,o2,o3⟩:=Blk.f3 (a.o.get 2 rfl);go_wp2_with fail;obtain⟨b0,S⟩:=yx (i9.heap.size);obtain⟨r5,H⟩:=yx (i9.alloc (.cells #[.bool b6,.slice A6 n6 c6,.int .i64 x6] 62));have f:qf i9.heap.size i9 r5:=by rw[H];exact(qc _ _).alloc lr _
    have t:=a.o.new 62 [.bool b6,.slice A6 n6 c6,.int .i64 x6] S;rw[<- H] at t 
    try rw[<- H]
    try rw[<- S]
    replace a:=vv t;replace s:=vv (s.o.below f);replace u:=vv (u.o.below f);replace D:=vv (D.o.below f);replace R:=vv (R.o.below f);clear m8 m9 n0 n4 o0 o1 o2 o3 H f t S;refine(o9.o _ _ _ _ _ _ _ _ _ _ _ _ _ _ s.o u.o).mono ?_;rintro e j0 ⟨b7,A7,n7,c7,N7,x7,rfl,V,f⟩;replace a:=vv (a.o.step f);replace s:=vv (s.o.below f);replace u:=vv (u.o.below f);replace D:=vv (D.o.below f);replace R:=vv (R.o.below f);have H7:=vv V;clear f V;go_upto_region 24 with fail;obtain⟨b3,S⟩:=yx (j0.heap.size);obtain⟨r6,H⟩:=yx (j0.alloc (.cells #[.bool b7,.slice A7 n7 c7,.int .i64 x7] 62));have f:qf j0.heap.size j0 r6:=by rw[H];exact(qc _ _).alloc lr _
    have t:=a.o.new 62 [.bool b7,.slice A7 n7 c7,.int .i64 x7] S;rw[<- H] at t 
    try rw[<- H]
    try rw[<- S]
    replace a:=vv t;replace s:=vv (s.o.below f);replace u:=vv (u.o.below f);replace D:=vv (D.o.below f);replace R:=vv (R.o.below f);replace H7:=vv (H7.o.below f);clear H f t S
    iterate 7 go_step
    go_cut [18,19] (fun s18 s19 wx=>∃(i o:Bool) (b8:Bool) (A8:Option Addr) (n8 c8 N8:Nat) (x8:Int) (b9:Bool) (A9:Option Addr) (n9 c9 N9:Nat) (x9:Int),s18=.bool i/\s19=.bool o/\C.ii=(i || mz)/\C.oi=o/\Cx w [(b3,62,[.bool b9,.slice A9 n9 c9,.int .i64 x9]),(b0,62,[.bool b8,.slice A8 n8 c8,.int .i64 x8]),((a5+1),62,[.bool W,.slice Z n5 c5,.int .i64 x5]),(a5,62,[.bool U,.slice A2 n2 c2,.int .i64 x2]),(g0,62,[.bool I,.slice P n1 c1,.int .i64 Q]),((w.heap.size+1+1),39,[.bool qa,.slice qb 0 0,.slice qb 0 0]),((w.heap.size+1),39,[.bool qa,.slice qb 0 0,.slice qb 0 0]),(w.heap.size,23,[.int .i64 (E:Int),.int .i64 (F:Int)])] wx/\DB wx z b8 A8 n8 c8 N8 x8 (C.inner)/\DB wx z b9 A9 n9 c9 N9 x9 (C.outer))
    case first =>
     have d2:=i6.o.2.1;rcases(by omega:sm=0\/sm=1\/sm=2\/sm=3) with rfl|rfl|rfl|rfl
     focus
      have O:C=⟨(before E F m+wv E F m)/2,(wv E F m+after E F m)/2,ev || mz,ev⟩:=by rw[i5.o];rfl
      subst O;clear d2;go_wp2_with fail;go_meet;exact⟨ev,ev,b6,A6,n6,c6,N6,x6,b7,A7,n7,c7,N7,x7,rfl,rfl,rfl,rfl,a.o,R.o,H7.o⟩
     focus
      have O:C=⟨(before E F m+wv E F m)/2,(wv E F m+after E F m)/2,qk || mz,qa⟩:=by rw[i5.o];rfl
      subst O;clear d2;go_wp2_with fail;go_meet;exact⟨qk,qa,b6,A6,n6,c6,N6,x6,b7,A7,n7,c7,N7,x7,rfl,rfl,rfl,rfl,a.o,R.o,H7.o⟩
     focus
      have O:C=⟨wv E F m,after E F m,qk || mz,qa⟩:=by rw[i5.o];rfl
      subst O;clear d2;obtain⟨a6,a7,d7,d8⟩:=Blk.f3 (a.o.get 3 rfl);obtain⟨a1,a2,a3,d9⟩:=Blk.f3 (a.o.get 4 rfl);have g:=vv (a.o.get 1 rfl);go_wp2_with (with_reducible refine q00 rfl 62 (.tmp 16) (.tmp 91) rfl b0 [.bool I,.slice P n1 c1,.int .i64 Q] rfl rfl 62 _ g.o (by kernel_rfl) rfl rfl ?_);intro r7 G r;clear g;have g:=vv (a.o.get 1 rfl);replace a:=vv (a.o.put 1 rfl G r);replace s:=vv (s.o.apart_ g.o rfl r);replace u:=vv (u.o.apart_ g.o rfl r);replace D:=vv (D.o.apart_ g.o rfl r);replace R:=vv (R.o.apart_ g.o rfl r);replace H7:=vv (H7.o.apart_ g.o rfl r);clear a6 a7 d7 d8 a1 a2 a3 d9 g G r;obtain⟨a4,e0,e1,e2⟩:=Blk.f3 (a.o.get 3 rfl);obtain⟨e3,e4,e5,e6⟩:=Blk.f3 (a.o.get 4 rfl);have g:=vv (a.o.get 0 rfl);go_wp2_with (with_reducible refine q00 rfl 62 (.tmp 17) (.tmp 92) rfl b3 [.bool U,.slice A2 n2 c2,.int .i64 x2] rfl rfl 62 _ g.o (by kernel_rfl) rfl rfl ?_);intro r8 G r;clear g;have g:=vv (a.o.get 0 rfl);replace a:=vv (a.o.put 0 rfl G r);replace s:=vv (s.o.apart_ g.o rfl r);replace u:=vv (u.o.apart_ g.o rfl r);replace D:=vv (D.o.apart_ g.o rfl r);replace R:=vv (R.o.apart_ g.o rfl r);replace H7:=vv (H7.o.apart_ g.o rfl r);clear a4 e0 e1 e2 e3 e4 e5 e6 g G r;go_wp2_with fail;go_meet;exact⟨qk,qa,I,P,n1,c1,N1,Q,U,A2,n2,c2,N2,x2,rfl,rfl,rfl,rfl,a.o,s.o,u.o⟩
     focus
      have O:C=⟨before E F m,wv E F m,qa || mz,qk⟩:=by rw[i5.o];rfl
      subst O;clear d2;obtain⟨a6,a7,d7,d8⟩:=Blk.f3 (a.o.get 2 rfl);obtain⟨a1,a2,a3,d9⟩:=Blk.f3 (a.o.get 4 rfl);have g:=vv (a.o.get 1 rfl);go_wp2_with (with_reducible refine q00 rfl 62 (.tmp 16) (.tmp 95) rfl b0 [.bool W,.slice Z n5 c5,.int .i64 x5] rfl rfl 62 _ g.o (by kernel_rfl) rfl rfl ?_);intro r7 G r;clear g;have g:=vv (a.o.get 1 rfl);replace a:=vv (a.o.put 1 rfl G r);replace s:=vv (s.o.apart_ g.o rfl r);replace u:=vv (u.o.apart_ g.o rfl r);replace D:=vv (D.o.apart_ g.o rfl r);replace R:=vv (R.o.apart_ g.o rfl r);replace H7:=vv (H7.o.apart_ g.o rfl r);clear a6 a7 d7 d8 a1 a2 a3 d9 g G r;obtain⟨a4,e0,e1,e2⟩:=Blk.f3 (a.o.get 2 rfl);obtain⟨e3,e4,e5,e6⟩:=Blk.f3 (a.o.get 4 rfl);have g:=vv (a.o.get 0 rfl);go_wp2_with (with_reducible refine q00 rfl 62 (.tmp 17) (.tmp 96) rfl b3 [.bool I,.slice P n1 c1,.int .i64 Q] rfl rfl 62 _ g.o (by kernel_rfl) rfl rfl ?_);intro r8 G r;clear g;have g:=vv (a.o.get 0 rfl);replace a:=vv (a.o.put 0 rfl G r);replace s:=vv (s.o.apart_ g.o rfl r);replace u:=vv (u.o.apart_ g.o rfl r);replace D:=vv (D.o.apart_ g.o rfl r);replace R:=vv (R.o.apart_ g.o rfl r);replace H7:=vv (H7.o.apart_ g.o rfl r);clear a4 e0 e1 e2 e3 e4 e5 e6 g G r;go_wp2_with fail;go_meet;exact⟨qa,qk,W,Z,n5,c5,N5,x5,I,P,n1,c1,N1,Q,rfl,rfl,rfl,rfl,a.o,D.o,s.o⟩
    case rest =>
     obtain⟨i,o,b8,A8,n8,c8,N8,x8,b9,A9,n9,c9,N9,x9,rfl,rfl,p3,p4,t,g2,g3⟩:=hcut;replace a:=vv t;have J:=vv g2;have L:=vv g3;have p5:=vv p3;have p6:=vv p4;clear t g2 g3 p3 p4 s u D R H7;obtain⟨a6,a7,o4⟩:=Blk.f2 (a.o.get 7 rfl);go_wp2_with fail;refine(i0.o _).mono ?_;rintro e t7 ⟨rfl,f⟩;replace a:=vv (a.o.step f);replace J:=vv (J.o.below f);replace L:=vv (L.o.below f);clear a6 a7 o4 f;go_upto_if 101 with fail;go_cut [18] (fun s18 wx=>s18=.bool C.ii/\Cx w [(b3,62,[.bool b9,.slice A9 n9 c9,.int .i64 x9]),(b0,62,[.bool b8,.slice A8 n8 c8,.int .i64 x8]),((a5+1),62,[.bool W,.slice Z n5 c5,.int .i64 x5]),(a5,62,[.bool U,.slice A2 n2 c2,.int .i64 x2]),(g0,62,[.bool I,.slice P n1 c1,.int .i64 Q]),((w.heap.size+1+1),39,[.bool qa,.slice qb 0 0,.slice qb 0 0]),((w.heap.size+1),39,[.bool qa,.slice qb 0 0,.slice qb 0 0]),(w.heap.size,23,[.int .i64 (E:Int),.int .i64 (F:Int)])] wx/\DB wx z b8 A8 n8 c8 N8 x8 (C.inner)/\DB wx z b9 A9 n9 c9 N9 x9 (C.outer))
     case first =>
      cases mz
      ·go_wp2_with fail;go_meet;exact⟨by rw[p5.o,qm],a.o,J.o,L.o⟩
      ·go_wp2_with fail;go_meet;exact⟨by rw[p5.o,Bool.or_true],a.o,J.o,L.o⟩
     case rest =>
      obtain⟨rfl,t,g2,g3⟩:=hcut;replace a:=vv t;replace J:=vv g2;replace L:=vv g3;clear t g2 g3;go_upto_if 102 with fail;cases z
      case false =>
       replace c0:Hid (sp=⟨C.inner,C.outer,C.ii,C.oi⟩):=c0;go_wp2_with fail;obtain⟨a1,a2,a3⟩:=Blk.c3 (a.o.get 0 rfl);obtain⟨a8,a9,a4⟩:=Blk.c3 (a.o.get 1 rfl);have e7:=(a.o.get 0 rfl).lt;have e8:=(a.o.get 1 rfl).lt;refine q02 (fun w'=>w'.cell? ⟨b3,0,qb⟩=qg (.bool b9)/\w'.cell? ⟨b3,1,qb⟩=qg (.slice A9 n9 c9)/\w'.cell? ⟨b3,2,qb⟩=qg (.int .i64 x9)/\w'.cell? ⟨b0,0,qb⟩=qg (.bool b8)/\w'.cell? ⟨b0,1,qb⟩=qg (.slice A8 n8 c8)/\w'.cell? ⟨b0,2,qb⟩=qg (.int .i64 x8)) 11
        (.still 0 (.still 2 (.still 4 (.still 5 (.one 1 (.one 3 (.one 6 (.one 7 (.still 8 (.still 9 (.still 10 .done))))))))))) ⟨a1,a2,a3,a8,a9,a4⟩ (fun j9=>?_)
       iterate 4
        refine q03 ?_
       clear e7 e8 a1 a2 a3 a8 a9 a4;obtain⟨k0,d3⟩:=yx (wc.drew);have f:qf wc.heap.size wc k0:=by rw[d3];exact q05 (qc _ _)
       replace a:=vv (a.o.step f);replace J:=vv (J.o.below f);replace L:=vv (L.o.below f);rw[<- d3] at j9 ⊢;clear d3 f;refine q01 rfl (by rfl) (fun K hK=>?_);go_simp;refine(i4.o _ _ _ _ _ _ _ _ J.o).mono ?_;rintro e r9 ⟨l,rfl,hI,f⟩;replace a:=vv (a.o.step f);replace J:=vv (J.o.below f);replace L:=vv (L.o.below f);have T:=vv hI;clear f hI;go_wp2_with fail;refine hK.out _ _ (Blk.n3 (a.o.get 0 rfl) (Blk.c3 (a.o.get 1 rfl))) (fun a0=>?_);clear hK;refine q01 rfl (by rfl) (fun K hK=>?_);go_simp;refine(i4.o _ _ _ _ _ _ _ _ L.o).mono ?_;rintro e s0 ⟨h,rfl,hI,f⟩;replace a:=vv (a.o.step f);replace J:=vv (J.o.below f);replace L:=vv (L.o.below f);replace T:=vv (T.o.below f);have HH:=vv hI;clear f hI;go_wp2_with fail;refine hK.out _ _ (Blk.n3 (a.o.get 0 rfl) (Blk.c3 (a.o.get 1 rfl))) (fun a0=>?_);clear hK;refine q01 rfl (by rfl) (fun K hK=>?_);have g:=vv (a.o.get 6 rfl)
       with_reducible refine q0b 39 (.tmp 6) (.tmp 110) rfl (w.heap.size+1) [.bool l.b,.slice l.X l.n l.c,.slice l.Y l.m l.d] rfl rfl 39 _ g.o (by kernel_rfl) rfl rfl ?_
       intro s1 G r;replace a:=vv (a.o.put 6 rfl G r);replace T:=vv (T.o.apart_ g.o rfl r);replace HH:=vv (HH.o.apart_ g.o rfl r);clear g G r;refine hK.out _ _ (Blk.n3 (a.o.get 0 rfl) (Blk.c3 (a.o.get 1 rfl))) (fun a0=>?_);clear hK;refine q01 rfl (by rfl) (fun K hK=>?_);have g:=vv (a.o.get 5 rfl)
       with_reducible refine q0b 39 (.tmp 7) (.tmp 112) rfl (w.heap.size+1+1) [.bool h.b,.slice h.X h.n h.c,.slice h.Y h.m h.d] rfl rfl 39 _ g.o (by kernel_rfl) rfl rfl ?_
       intro s3 G r;replace a:=vv (a.o.put 5 rfl G r);replace T:=vv (T.o.apart_ g.o rfl r);replace HH:=vv (HH.o.apart_ g.o rfl r);clear g G r;refine hK.out _ _ (Blk.n3 (a.o.get 0 rfl) (Blk.c3 (a.o.get 1 rfl))) (fun a0=>?_);clear hK
       iterate 3
        refine q03 ?_
       refine q0T rfl ?_
       repeat go_step
       obtain⟨e9,f0,f1⟩:=Blk.c3 (a.o.get 6 rfl);obtain⟨f4,f5,f6⟩:=Blk.c3 (a.o.get 5 rfl);exact qh (v:=.tuple #[l.v,h.v,.bool C.ii,.bool o,.int .i64 0]) (by simp [results,results27,go_sem,e9,f0,f1,f4,f5,f6]) rfl ⟨l,h,by rw[c0.o,<- p6.o],by rw[c0.o];exact⟨T.o,HH.o⟩,a.o.low⟩
      case true =>
       replace c0:Hid (sp=⟨-C.outer,-C.inner,C.oi,C.ii⟩):=c0;go_wp2_with fail;obtain⟨a1,a2,a3⟩:=Blk.c3 (a.o.get 0 rfl);obtain⟨a8,a9,a4⟩:=Blk.c3 (a.o.get 1 rfl);have e7:=(a.o.get 0 rfl).lt;have e8:=(a.o.get 1 rfl).lt;refine q02 (fun w'=>w'.cell? ⟨b3,0,qb⟩=qg (.bool b9)/\w'.cell? ⟨b3,1,qb⟩=qg (.slice A9 n9 c9)/\w'.cell? ⟨b3,2,qb⟩=qg (.int .i64 x9)/\w'.cell? ⟨b0,0,qb⟩=qg (.bool b8)/\w'.cell? ⟨b0,1,qb⟩=qg (.slice A8 n8 c8)/\w'.cell? ⟨b0,2,qb⟩=qg (.int .i64 x8)) 11
        (.still 0 (.still 2 (.still 4 (.still 5 (.one 1 (.one 3 (.one 6 (.one 7 (.still 8 (.still 9 (.still 10 .done))))))))))) ⟨a1,a2,a3,a8,a9,a4⟩ (fun j9=>?_)
       iterate 4
        refine q03 ?_
       clear e7 e8 a1 a2 a3 a8 a9 a4;obtain⟨k0,d3⟩:=yx (wc.drew);have f:qf wc.heap.size wc k0:=by rw[d3];exact q05 (qc _ _)
       replace a:=vv (a.o.step f);replace J:=vv (J.o.below f);replace L:=vv (L.o.below f);rw[<- d3] at j9 ⊢;clear d3 f;refine q01 rfl (by rfl) (fun K hK=>?_);go_simp;refine(i4.o _ _ _ _ _ _ _ _ L.o).mono ?_;rintro e r9 ⟨l,rfl,hI,f⟩;replace a:=vv (a.o.step f);replace J:=vv (J.o.below f);replace L:=vv (L.o.below f);have T:=vv hI;clear f hI;go_wp2_with fail;refine hK.out _ _ (Blk.n3 (a.o.get 0 rfl) (Blk.c3 (a.o.get 1 rfl))) (fun a0=>?_);clear hK;refine q01 rfl (by rfl) (fun K hK=>?_);go_simp;refine(i4.o _ _ _ _ _ _ _ _ J.o).mono ?_;rintro e s0 ⟨h,rfl,hI,f⟩;replace a:=vv (a.o.step f);replace J:=vv (J.o.below f);replace L:=vv (L.o.below f);replace T:=vv (T.o.below f);have HH:=vv hI;clear f hI;go_wp2_with fail;refine hK.out _ _ (Blk.n3 (a.o.get 0 rfl) (Blk.c3 (a.o.get 1 rfl))) (fun a0=>?_);clear hK;refine q01 rfl (by rfl) (fun K hK=>?_);have g:=vv (a.o.get 6 rfl)
       with_reducible refine q0b 39 (.tmp 6) (.tmp 104) rfl (w.heap.size+1) [.bool l.b,.slice l.X l.n l.c,.slice l.Y l.m l.d] rfl rfl 39 _ g.o (by kernel_rfl) rfl rfl ?_
       intro s1 G r;replace a:=vv (a.o.put 6 rfl G r);replace T:=vv (T.o.apart_ g.o rfl r);replace HH:=vv (HH.o.apart_ g.o rfl r);clear g G r;refine hK.out _ _ (Blk.n3 (a.o.get 0 rfl) (Blk.c3 (a.o.get 1 rfl))) (fun a0=>?_);clear hK;refine q01 rfl (by rfl) (fun K hK=>?_);have g:=vv (a.o.get 5 rfl)
       with_reducible refine q0b 39 (.tmp 7) (.tmp 106) rfl (w.heap.size+1+1) [.bool h.b,.slice h.X h.n h.c,.slice h.Y h.m h.d] rfl rfl 39 _ g.o (by kernel_rfl) rfl rfl ?_
       intro s3 G r;replace a:=vv (a.o.put 5 rfl G r);replace T:=vv (T.o.apart_ g.o rfl r);replace HH:=vv (HH.o.apart_ g.o rfl r);clear g G r;refine hK.out _ _ (Blk.n3 (a.o.get 0 rfl) (Blk.c3 (a.o.get 1 rfl))) (fun a0=>?_);clear hK
       iterate 3
        refine q03 ?_
       refine q0T rfl ?_
       repeat go_step
       obtain⟨e9,f0,f1⟩:=Blk.c3 (a.o.get 6 rfl);obtain⟨f4,f5,f6⟩:=Blk.c3 (a.o.get 5 rfl);exact qh (v:=.tuple #[l.v,h.v,.bool o,.bool C.ii,.int .i64 0]) (by simp [results,results27,go_sem,e9,f0,f1,f4,f5,f6]) rfl ⟨l,h,by rw[c0.o,<- p6.o],by rw[c0.o];exact⟨T.o,HH.o⟩,a.o.low⟩
end R6
namespace R18
open Go Go.RowKit R5 Scn Sh Rtp Sho Fms Exa Nea
theorem qea(r:RV)(q:Rat)(w:ql)(h:RI w r q)(hs:Qb 2200 q)(hst:Std w):qi qd 29 #[r.v] w fun e w'=>∃g,e=.returned (.pointer (qg ⟨g,0,qb⟩))/\w.heap.size<=g/\q0l w' g q/\qf w.heap.size w w':=by
 have a:=q5p hs (by decide);have:=qeJ r.b r.X r.n r.c r.Y r.m r.d q.num.natAbs q.den w h.x h.y a.1 a.2.1 q.den_pos hst;have e:sg r.b q.num.natAbs=q.num:=by rw[h.s];exact q6F q.num
 rw[e] at this;exact this
theorem qcS(E F b:Nat)(w:ql)(h1:2<=E)(h2:E<=11)(h3:1<=F)(h4:F<=52)(hb:b<2^(1+E+F))(hst:Std w):qi qd 31 #[fm E F,.int .u64 (b:Int)] w fun e w'=>∃g,e=.returned (.pointer (qg ⟨g,0,qb⟩))/\w.heap.size<=g/\q0l w' g (q2k E F b)/\qf w.heap.size w w':=by
 refine(qdN E F b w h1 h2 h3 h4 hb hst).mono ?_;rintro e w' ⟨g,h1,h2,h3,h4⟩;refine⟨g,h1,h2,q0l.of h3 ?_,h4⟩;have a:q2k E F b=sq (q0M E F b) (dq (mantOf F (q0c E F b) (q0r F b)) (powOf E F (q0c E F b))):=by rw[q3m hb,<- q9V];unfold wv mgN mgX;rw[q1M,q4n]
 rw[a,qc1,k35];have c:((p2 (-powOf E F (q0c E F b)):Nat):Rat)≠0:=by
  have:=q1d (-powOf E F (q0c E F b))
  exact_mod_cast Nat.ne_of_gt this
 rw[Rat.div_mul_cancel c]
theorem qbG{E F b:Nat}(h1:2<=E)(h2:E<=11)(h4:F<=52)(hf:q0c E F b≠2^E-1):Qb 1280 (wv E F (q0o E F b)):=by
 have hx:q0c E F b<2^E:=k0i _ (k0a _);have c:2^E=2^(E-1)*2:=by rw[<- k0d];congr 1;omega
 have a:2^(E-1)<=1024:=k07 (k00 (by decide) (show E-1<=10 by omega)) (by decide);have d:mgX E F (q0o E F b)<=1023-(F:Int) /\ -1074<=mgX E F (q0o E F b):=by
  unfold mgX powOf;rw[q1M];generalize 2^(E-1)=Q at *
  split<;>omega
 have e:=q0A (q3p F (q0o E F b));exact Nea.Qb.dq (by omega) (by omega)
theorem q8M(E F b mode:Nat)(gl gh gv:Nat)(w:ql)(h1:2<=E)(h2:E<=11)(h4:F<=52)(hf:q0c E F b≠2^E-1)(hm:0<q0o E F b)(hs:IvA w gl gh (q0w E F b mode))(hv:q0l w gv (q2k E F b))(hst:Std w):qi qd 30 #[ivV gl gh (q0w E F b mode),.pointer (qg ⟨gv,0,qb⟩)] w fun e w'=>e=.returned (.tuple #[(q1f (q0w E F b mode) (q2k E F b)).v,.bool qk])/\qf w.heap.size w w':=by
 obtain⟨h,l⟩:=q4g E F b mode hm;obtain⟨d,f,-⟩:=q4h (E:=E) (F:=F) (b:=b) (mode:=mode) h1 h2 h4;have i:=qbG h1 h2 h4 hf;have c:=q6C (E:=E) (F:=F) (b:=b) (mode:=mode) h4 hm;have k:0<wv E F (q0o E F b):=q6l (q5t hm) _;unfold q1f;cases h0:Span.has (q0w E F b mode) 0
 ·rw[k0r (by decide)];cases hng:q1v E F b
  ·have a:q2k E F b=wv E F (q0o E F b):=by unfold q2k;rw[hng];rfl
   rw[hng,k0r (by decide)] at c;have g:0<q2k E F b:=by rw[a];exact k
   rw[k0r (by have:=q18 g;omega)];exact q4E gl gh gv _ _ w hs hv 17 h0 g h d f (by rw[a];exact i) (by decide) c hst
  ·have a:q2k E F b = -wv E F (q0o E F b):=by unfold q2k;rw[hng];rfl
   rw[hng,k0p rfl] at c;have j:q2k E F b<0:=by rw[a];grind
   rw[k0p (by have:=q18 (v:=-q2k E F b) (by grind);rw[Rat.neg_num] at this;omega)];exact q4F gl gh gv _ _ w hs hv 17 h0 j h d f (by rw[a];exact i.neg) (by decide) c hst
 ·rw[k0p rfl];exact q46 gl gh gv _ _ w hs hv h0 d f
theorem q4A(E F b mode:Nat)(w:ql)(h1:2<=E)(h2:E<=11)(h3:1<=F)(h4:F<=52)(hb:b<2^(1+E+F))(hf:q0c E F b≠2^E-1)(hmo:mode<=4)(hm:q0o E F b=0)(hst:Std w):qi qd 9 #[fm E F,.int .u64 (b:Int),.int .u8 (mode:Int)] w (qap (q0P E F b mode) w):=by
 obtain⟨w0,x⟩:=yx ((w.alloc (.cells #[.int .i64 (E:Int),.int .i64 (F:Int)] 23)).alloc (.cells #[.bool qa,.string ⟨#[]⟩,.int .i64 0] 27));have i:Cx w [(w.heap.size+1,27,[.bool qa,.string ⟨#[]⟩,.int .i64 0]),(w.heap.size,23,[.int .i64 (E:Int),.int .i64 (F:Int)])] w0:=by rw[x];exact((Cx.nil w).new _ [_,_] rfl).new _ [_,_,_] (by simp)
 have D:=vv fun w'=>R6.ReachR E F b mode w' h1 h2 h3 h4 hb hf hmo
 have q:=vv fun w'=>R3.Split E F b w' h1 h2 h3 h4 hb
 rw[q3m hb] at q;obtain⟨xo,y⟩:=yx (q0c E F b);obtain⟨fo,z⟩:=yx (q0r F b);rw[<- y,<- z] at q;have M:xo=0:=by rw[y,<- q1M,hm,Nat.zero_div]
 have N:fo=0:=by rw[z,<- q4n E F b,hm,Nat.zero_mod]
 subst M N;have G:q0P E F b mode=⟨q1v E F b,⟨#[]⟩,0⟩:=by unfold q0P;rw[k0p hm]
 rw[G];obtain⟨sp,H⟩:=yx (q0w E F b mode);rw[<- H] at D;obtain⟨s,I⟩:=yx (q1v E F b);rw[<- I] at q ⊢;have a:=vv i;have HW:=vv x;clear x i hst y z G H I hm hb hf hmo;obtain⟨O,P,Q⟩:=Blk.f2 (a.o.get 1 rfl);go_enter func9,ntmps9;go_wp2_with fail;rw[<- HW.o];go_wp2_with fail;refine(D.o _).mono ?_;rintro e t ⟨l,h,rfl,L,g⟩;replace a:=vv (a.o.step g);have k:=vv L;clear O P Q g L;obtain⟨R,S,T⟩:=Blk.f2 (a.o.get 1 rfl);go_wp2_with fail;obtain⟨U,j⟩:=yx (t.heap.size);obtain⟨p,f⟩:=yx (t.alloc (.cells #[.bool l.b,.slice l.X l.n l.c,.slice l.Y l.m l.d] 39));have g:qf t.heap.size t p:=by rw[f];exact(qc _ _).alloc lr _
 have i:=a.o.new 39 [.bool l.b,.slice l.X l.n l.c,.slice l.Y l.m l.d] j;have J:(U+1:Nat)=p.heap.size:=by rw[f,qj,<- j]
 rw[<- f] at i 
 try rw[<- f]
 try rw[<- j]
 replace a:=vv i;replace k:=vv (k.o.below g);clear R S T f g i j;obtain⟨V,f⟩:=yx (p.alloc (.cells #[.bool h.b,.slice h.X h.n h.c,.slice h.Y h.m h.d] 39));have g:qf p.heap.size p V:=by rw[f];exact(qc _ _).alloc lr _
 have i:=a.o.new 39 [.bool h.b,.slice h.X h.n h.c,.slice h.Y h.m h.d] J;rw[<- f] at i 
 try rw[<- f]
 replace a:=vv i;replace k:=vv (k.o.below g);clear f g i J;refine(q.o _).mono ?_;rintro e u ⟨rfl,g⟩;replace a:=vv (a.o.step g);replace k:=vv (k.o.below g);clear g;obtain⟨W,Z,a0⟩:=Blk.f2 (a.o.get 3 rfl);have r:=vv (a.o.get 2 rfl);go_wp2_with (with_reducible refine q00 rfl 27 (.tmp 6) (.tmp 48) rfl (w.heap.size+1) [.bool s,.string ⟨#[]⟩,.int .i64 0] rfl rfl 27 _ (r.o.alloc _) (by kernel_rfl) rfl rfl ?_);intro a5 K C;clear r;obtain⟨a6,j⟩:=yx (u.heap.size);obtain⟨a4,f⟩:=yx (u.alloc (.cells #[.bool s,.int .i64 0,.int .u64 0] 58));have g:qf u.heap.size u a4:=by rw[f];exact(qc _ _).alloc lr _
 have i:=a.o.new 58 [.bool s,.int .i64 0,.int .u64 0] j;rw[<- f] at i C
 try rw[<- f]
 try rw[<- j]
 replace a:=vv i;replace k:=vv (k.o.below g);clear W Z a0 f g i j;have r:=vv (a.o.get 3 rfl);replace a:=vv (a.o.put 3 rfl K C);clear r K C;go_wp2;obtain⟨a1,a2,a3⟩:=Blk.c3 (a.o.get 3 rfl);exact qh (v:=.tuple #[(⟨s,⟨#[]⟩,0⟩:Dcl).v,.int .i64 0]) (by simp [results,results9,go_sem,a1,a2,a3]) rfl ⟨rfl,a.o.low⟩
theorem q53(E F b mode:Nat)(w:ql)(h1:2<=E)(h2:E<=11)(h3:1<=F)(h4:F<=52)(hb:b<2^(1+E+F))(hf:q0c E F b≠2^E-1)(hmo:mode<=4)(hm:0<q0o E F b)(hst:Std w):qi qd 9 #[fm E F,.int .u64 (b:Int),.int .u8 (mode:Int)] w (qap (q0P E F b mode) w):=by
 obtain⟨w0,b6⟩:=yx ((w.alloc (.cells #[.int .i64 (E:Int),.int .i64 (F:Int)] 23)).alloc (.cells #[.bool qa,.string ⟨#[]⟩,.int .i64 0] 27));have g:Cx w [(w.heap.size+1,27,[.bool qa,.string ⟨#[]⟩,.int .i64 0]),(w.heap.size,23,[.int .i64 (E:Int),.int .i64 (F:Int)])] w0:=by rw[b6];exact((Cx.nil w).new _ [_,_] rfl).new _ [_,_,_] (by simp)
 have b3:=vv fun w'=>R6.ReachR E F b mode w' h1 h2 h3 h4 hb hf hmo
 have b4:=vv fun w'=>R3.Split E F b w' h1 h2 h3 h4 hb
 rw[q3m hb] at b4;obtain⟨Q,b7⟩:=yx (q0c E F b);obtain⟨fo,b8⟩:=yx (q0r F b);rw[<- b7,<- b8] at b4;have d7:Q≠0\/(Q=0/\fo≠0):=by
  by_cases k:Q=0
  ·refine .inr ⟨k,fun k2=>?_⟩;have e1:=q1M E F b;have e2:=q4n E F b;rw[<- b7,k] at e1;rw[<- b8,k2] at e2;have:=k0F (q0o E F b) (2^F);rw[e1,e2] at this;omega
  ·exact .inl k
 obtain⟨q3,q4,-⟩:=q4h (E:=E) (F:=F) (b:=b) (mode:=mode) h1 h2 h4;have b9:=vv fun r w' (k:RI w' r (q0w E F b mode).lo) (hs:Std w')=>qea r _ w' k q3 hs
 have b5:=vv fun r w' (k:RI w' r (q0w E F b mode).hi) (hs:Std w')=>qea r _ w' k q4 hs
 have c0:=vv fun w' (hs:Std w')=>qcS E F b w' h1 h2 h3 h4 hb hs
 have V:=vv fun I D gv w' (ka:q0l w' I (q0w E F b mode).lo) (kb:q0l w' D (q0w E F b mode).hi) (hv:q0l w' gv (q2k E F b)) (hst:Std w')=>q8M E F b mode I D gv w' h1 h2 h4 hf hm ⟨ka,kb⟩ hv hst
 have d8:q0P E F b mode=q1f (q0w E F b mode) (q2k E F b):=by unfold q0P;rw[k0r (by omega)]
 obtain⟨d,hd⟩:=yx (q1f (q0w E F b mode) (q2k E F b));rw[d8,<- hd];rw[<- hd] at V;obtain⟨v,hv⟩:=yx (q2k E F b);rw[<- hv] at c0 V;obtain⟨sp,d9⟩:=yx (q0w E F b mode);rw[<- d9] at b3 V b9 b5;obtain⟨li,c1⟩:=yx (sp.li);obtain⟨hn,c5⟩:=yx (sp.hn);have V:Hid (∀I D gv w',q0l w' I sp.lo->q0l w' D sp.hi->q0l w' gv v->Std w'->qi qd 30 #[.agg #[.pointer (qg ⟨I,0,qb⟩),.pointer (qg ⟨D,0,qb⟩),.bool li,.bool hn],.pointer (qg ⟨gv,0,qb⟩)] w' fun e w''=>e=.returned (.tuple #[d.v,.bool qk])/\qf w'.heap.size w' w''):=vv (by rw[c1,c5];exact V.o);have b3:Hid (∀w',qi qd 27 #[fm E F,.int .u64 (b:Int),.int .u8 (mode:Int)] w' fun e w''=>∃l h:RV,e=.returned (.tuple #[l.v,h.v,.bool li,.bool hn,.int .i64 0])/\SI w'' l h sp/\qf w'.heap.size w' w''):=vv (by rw[c1,c5];exact b3.o);obtain⟨ng,e0⟩:=yx (q1v E F b);rw[<- e0] at b4;have P:=vv hst;have a:=vv g;have HW:=vv b6;have e3:=vv d7;clear b6 g hst b7 b8 d8 hd hv d9 e0 c1 c5 q3 q4 hm hb hf hmo d7;obtain⟨e4,e5,e6⟩:=Blk.f2 (a.o.get 1 rfl);go_enter func9,ntmps9;go_wp2_with fail;rw[<- HW.o];go_wp2_with fail;refine(b3.o _).mono ?_;rintro e w4 ⟨l,h,rfl,hS,f⟩;replace a:=vv (a.o.step f);have N:=vv hS;clear e4 e5 e6 f hS;obtain⟨e7,e8,e9⟩:=Blk.f2 (a.o.get 1 rfl);go_wp2_with fail;obtain⟨L,W⟩:=yx (w4.heap.size);obtain⟨w9,H⟩:=yx (w4.alloc (.cells #[.bool l.b,.slice l.X l.n l.c,.slice l.Y l.m l.d] 39));have f:qf w4.heap.size w4 w9:=by rw[H];exact(qc _ _).alloc lr _
 have g:=a.o.new 39 [.bool l.b,.slice l.X l.n l.c,.slice l.Y l.m l.d] W;have b1:(L+1:Nat)=w9.heap.size:=by rw[H,qj,<- W]
 rw[<- H] at g 
 try rw[<- H]
 try rw[<- W]
 replace a:=vv g;replace N:=vv (N.o.below f);clear e7 e8 e9 H f g W;obtain⟨f0,H⟩:=yx (w9.alloc (.cells #[.bool h.b,.slice h.X h.n h.c,.slice h.Y h.m h.d] 39));have f:qf w9.heap.size w9 f0:=by rw[H];exact(qc _ _).alloc lr _
 have g:=a.o.new 39 [.bool h.b,.slice h.X h.n h.c,.slice h.Y h.m h.d] b1;rw[<- H] at g 
 try rw[<- H]
 replace a:=vv g;replace N:=vv (N.o.below f);clear H f g b1;refine(b4.o _).mono ?_;rintro e w8 ⟨rfl,f⟩;replace a:=vv (a.o.step f);replace N:=vv (N.o.below f);clear f;obtain⟨d1,d2,d3⟩:=Blk.f2 (a.o.get 3 rfl);go_upto_region 5 with fail;obtain⟨c6,W⟩:=yx (w8.heap.size);obtain⟨f1,H⟩:=yx (w8.alloc (.cells #[.bool ng,.int .i64 (Q:Int),.int .u64 (fo:Int)] 58));have f:qf w8.heap.size w8 f1:=by rw[H];exact(qc _ _).alloc lr _
 have g:=a.o.new 58 [.bool ng,.int .i64 (Q:Int),.int .u64 (fo:Int)] W;rw[<- H] at g 
 try rw[<- H]
 try rw[<- W]
 replace a:=vv g;replace N:=vv (N.o.below f);clear d1 d2 d3 H f g W;go_cut [45] (fun s45 wx=>s45=.bool qa/\Cx w [(c6,58,[.bool ng,.int .i64 (Q:Int),.int .u64 (fo:Int)]),((L+1),39,[.bool h.b,.slice h.X h.n h.c,.slice h.Y h.m h.d]),(L,39,[.bool l.b,.slice l.X l.n l.c,.slice l.Y l.m l.d]),((w.heap.size+1),27,[.bool qa,.string ⟨#[]⟩,.int .i64 0]),(w.heap.size,23,[.int .i64 (E:Int),.int .i64 (F:Int)])] wx/\SI wx l h sp)
 case first =>
  obtain⟨Z,a0,a1,b2⟩:=Blk.f3 (a.o.get 0 rfl);rcases e3.o with t|⟨rfl,t⟩
  ·have t1:((Q:Int)==0)=qa:=by rw[k05];omega
   have t2:¬Q=0:=t;go_wp2_with fail;go_meet;exact⟨rfl,a.o,N.o⟩
  ·have t1:((fo:Int)==0)=qa:=by rw[k05];omega
   have t2:¬fo=0:=t;go_wp2_with fail;go_meet;exact⟨rfl,a.o,N.o⟩
 case rest =>
  obtain⟨rfl,g,hS⟩:=hcut;replace a:=vv g;have s:=vv hS.l;have q:=vv hS.h;clear g hS N e3;go_upto_region 7 with fail;go_cut [15] (fun s15 wx=>∃I D gi:Nat,s15=.pointer (qg ⟨gi,0,qb⟩)/\Cx w [(gi,73,[.pointer (qg ⟨I,0,qb⟩),.pointer (qg ⟨D,0,qb⟩),.bool li,.bool hn]),(c6,58,[.bool ng,.int .i64 (Q:Int),.int .u64 (fo:Int)]),((L+1),39,[.bool h.b,.slice h.X h.n h.c,.slice h.Y h.m h.d]),(L,39,[.bool l.b,.slice l.X l.n l.c,.slice l.Y l.m l.d]),((w.heap.size+1),27,[.bool qa,.string ⟨#[]⟩,.int .i64 0]),(w.heap.size,23,[.int .i64 (E:Int),.int .i64 (F:Int)])] wx/\q0l wx I sp.lo/\q0l wx D sp.hi)
  case first =>
   go_wp2_with fail;obtain⟨Z,a0,a1⟩:=Blk.c3 (a.o.get 2 rfl);obtain⟨a2,a3,a4⟩:=Blk.c3 (a.o.get 1 rfl);have a7:=(a.o.get 2 rfl).lt;have a8:=(a.o.get 1 rfl).lt;refine q02 (fun w'=>w'.cell? ⟨L,0,qb⟩=qg (.bool l.b)/\w'.cell? ⟨L,1,qb⟩=qg (.slice l.X l.n l.c)/\w'.cell? ⟨L,2,qb⟩=qg (.slice l.Y l.m l.d)/\w'.cell? ⟨(L+1),0,qb⟩=qg (.bool h.b)/\w'.cell? ⟨(L+1),1,qb⟩=qg (.slice h.X h.n h.c)/\w'.cell? ⟨(L+1),2,qb⟩=qg (.slice h.Y h.m h.d)) 9
    (.still 0 (.still 2 (.still 4 (.still 5 (.two 1 (.two 3 (.still 6 (.one 7 (.one 8 .done))) 7 (.one 3 (.still 6 (.one 8 .done)))) 7 (.one 1 (.one 3 (.still 6 (.one 8 .done))))))))) ⟨Z,a0,a1,a2,a3,a4⟩ (fun c7=>?_)
   iterate 4
    refine q03 ?_
   clear a7 a8 Z a0 a1 a2 a3 a4;obtain⟨M,a6⟩:=yx (wc.drew);have f:qf wc.heap.size wc M:=by rw[a6];exact q05 (qc _ _)
   replace a:=vv (a.o.step f);replace s:=vv (s.o.below f);replace q:=vv (q.o.below f);rw[<- a6] at c7 ⊢;clear a6 f;refine q0e rfl (by rfl) rfl (by rfl) (fun K hK=>?_) (fun K hK=>?_)
   focus
    go_simp;refine(b9.o _ M s.o (a.o.std P.o)).mono ?_;rintro e R ⟨I,rfl,-,y,f⟩;replace a:=vv (a.o.step f);replace s:=vv (s.o.below f);replace q:=vv (q.o.below f);have i:=vv y;clear f y;go_wp2_with fail;refine hK.out _ _ (Blk.n3 (a.o.get 2 rfl) (Blk.c3 (a.o.get 1 rfl))) (fun z=>?_);clear hK;refine q0e rfl (by rfl) rfl (by rfl) (fun K hK=>?_) (fun K hK=>?_)
    focus
     go_simp;refine(b5.o _ _ q.o (a.o.std P.o)).mono ?_;rintro e T ⟨D,rfl,-,y,f⟩;replace a:=vv (a.o.step f);replace s:=vv (s.o.below f);replace q:=vv (q.o.below f);replace i:=vv (i.o.below f);have j:=vv y;clear f y;go_wp2_with fail;refine hK.out _ _ (Blk.n3 (a.o.get 2 rfl) (Blk.c3 (a.o.get 1 rfl))) (fun z=>?_);clear hK
     iterate 1
      refine q03 ?_
     refine q01 rfl (by rfl) (fun K hK=>?_);go_simp;obtain⟨U,u⟩:=yx (T.heap.size);obtain⟨a9,p⟩:=yx (T.alloc (.cells #[.pointer qb,.pointer qb,.bool qa,.bool qa] 73));have f:qf T.heap.size T a9:=by rw[p];exact(qc _ _).alloc lr _
     have g:=a.o.new 73 [.pointer qb,.pointer qb,.bool qa,.bool qa] u;rw[<- p] at g
     try rw[<- p]
     try rw[<- u]
     replace a:=vv g;replace s:=vv (s.o.below f);replace q:=vv (q.o.below f);replace i:=vv (i.o.below f);replace j:=vv (j.o.below f);clear f g p u;refine hK.out _ _ (Blk.n3 (a.o.get 3 rfl) (Blk.c3 (a.o.get 2 rfl))) (fun z=>?_);clear hK;obtain⟨wz,O⟩:=yx (a9);subst O
    rotate_left 1
    focus
     go_simp;obtain⟨U,u⟩:=yx (R.heap.size);obtain⟨c8,p⟩:=yx (R.alloc (.cells #[.pointer qb,.pointer qb,.bool qa,.bool qa] 73));have f:qf R.heap.size R c8:=by rw[p];exact(qc _ _).alloc lr _
     have g:=a.o.new 73 [.pointer qb,.pointer qb,.bool qa,.bool qa] u;rw[<- p] at g
     try rw[<- p]
     try rw[<- u]
     replace a:=vv g;replace s:=vv (s.o.below f);replace q:=vv (q.o.below f);replace i:=vv (i.o.below f);clear f g p u;refine hK.out _ _ (Blk.n3 (a.o.get 3 rfl) (Blk.c3 (a.o.get 2 rfl))) (fun z=>?_);clear hK;refine q01 rfl (by rfl) (fun K hK=>?_);go_simp;refine(b5.o _ _ q.o (a.o.std P.o)).mono ?_;rintro e c9 ⟨D,rfl,-,y,f⟩;replace a:=vv (a.o.step f);replace s:=vv (s.o.below f);replace q:=vv (q.o.below f);replace i:=vv (i.o.below f);have j:=vv y;clear f y;go_wp2_with fail;refine hK.out _ _ (Blk.n3 (a.o.get 3 rfl) (Blk.c3 (a.o.get 2 rfl))) (fun z=>?_);clear hK
     iterate 1
      refine q03 ?_
     obtain⟨wz,O⟩:=yx (c9);subst O
   rotate_left 2
   focus
    go_simp;obtain⟨U,u⟩:=yx (M.heap.size);obtain⟨b0,p⟩:=yx (M.alloc (.cells #[.pointer qb,.pointer qb,.bool qa,.bool qa] 73));have f:qf M.heap.size M b0:=by rw[p];exact(qc _ _).alloc lr _
    have g:=a.o.new 73 [.pointer qb,.pointer qb,.bool qa,.bool qa] u;rw[<- p] at g
    try rw[<- p]
    try rw[<- u]
    replace a:=vv g;replace s:=vv (s.o.below f);replace q:=vv (q.o.below f);clear f g p u;refine hK.out _ _ (Blk.n3 (a.o.get 3 rfl) (Blk.c3 (a.o.get 2 rfl))) (fun z=>?_);clear hK;refine q01 rfl (by rfl) (fun K hK=>?_);go_simp;refine(b9.o _ b0 s.o (a.o.std P.o)).mono ?_;rintro e f4 ⟨I,rfl,-,y,f⟩;replace a:=vv (a.o.step f);replace s:=vv (s.o.below f);replace q:=vv (q.o.below f);have i:=vv y;clear f y;go_wp2_with fail;refine hK.out _ _ (Blk.n3 (a.o.get 3 rfl) (Blk.c3 (a.o.get 2 rfl))) (fun z=>?_);clear hK;refine q01 rfl (by rfl) (fun K hK=>?_);go_simp;refine(b5.o _ _ q.o (a.o.std P.o)).mono ?_;rintro e d0 ⟨D,rfl,-,y,f⟩;replace a:=vv (a.o.step f);replace s:=vv (s.o.below f);replace q:=vv (q.o.below f);replace i:=vv (i.o.below f);have j:=vv y;clear f y;go_wp2_with fail;refine hK.out _ _ (Blk.n3 (a.o.get 3 rfl) (Blk.c3 (a.o.get 2 rfl))) (fun z=>?_);clear hK
    iterate 1
     refine q03 ?_
    obtain⟨wz,O⟩:=yx (d0);subst O
   all_goals
    refine q01 rfl (by rfl) (fun K hK=>?_);have C:=vv (a.o.get 0 rfl)
    with_reducible refine q0b 73 (.tmp 15) (.tmp 55) rfl U [.pointer (qg ⟨I,0,qb⟩),.pointer (qg ⟨D,0,qb⟩),.bool li,.bool hn] rfl rfl 73 _ C.o (by kernel_rfl) rfl rfl ?_
    intro f5 a5 J;replace a:=vv (a.o.put 0 rfl a5 J);replace s:=vv (s.o.apart_ C.o rfl J);replace q:=vv (q.o.apart_ C.o rfl J);replace i:=vv (i.o.apart_ C.o rfl J);replace j:=vv (j.o.apart_ C.o rfl J);clear C a5 J;refine hK.out _ _ (Blk.n3 (a.o.get 3 rfl) (Blk.c3 (a.o.get 2 rfl))) (fun z=>?_);clear hK;refine q08 ?_;simp only[k0o,k0w];go_wp2_with fail;go_meet;exact⟨I,D,U,rfl,a.o,i.o,j.o⟩
  case rest =>
   obtain⟨I,D,gi,rfl,g,hL,hH⟩:=hcut;replace a:=vv g;have i:=vv hL;have j:=vv hH;clear g hL hH s q;go_upto_region 8 with fail;go_cut [16] (fun s16 wx=>∃gd:Nat,s16=.pointer (qg ⟨gd,0,qb⟩)/\Cx w [(gd,27,[.bool d.neg,.string d.S,.int .i64 d.x]),(gi,73,[.pointer (qg ⟨I,0,qb⟩),.pointer (qg ⟨D,0,qb⟩),.bool li,.bool hn]),(c6,58,[.bool ng,.int .i64 (Q:Int),.int .u64 (fo:Int)]),((L+1),39,[.bool h.b,.slice h.X h.n h.c,.slice h.Y h.m h.d]),(L,39,[.bool l.b,.slice l.X l.n l.c,.slice l.Y l.m l.d]),((w.heap.size+1),27,[.bool qa,.string ⟨#[]⟩,.int .i64 0]),(w.heap.size,23,[.int .i64 (E:Int),.int .i64 (F:Int)])] wx)
   case first =>
    go_wp2_with fail;obtain⟨Z,a0,a1,a2⟩:=Blk.c4 (a.o.get 0 rfl);obtain⟨a3,a4⟩:=Blk.c2 (a.o.get 5 rfl);have a7:=(a.o.get 0 rfl).lt;have a8:=(a.o.get 5 rfl).lt;refine q02 (fun w'=>w'.cell? ⟨gi,0,qb⟩=qg (.pointer (qg ⟨I,0,qb⟩))/\w'.cell? ⟨gi,1,qb⟩=qg (.pointer (qg ⟨D,0,qb⟩))/\w'.cell? ⟨gi,2,qb⟩=qg (.bool li)/\w'.cell? ⟨gi,3,qb⟩=qg (.bool hn)/\w'.cell? ⟨w.heap.size,0,qb⟩=qg (.int .i64 (E:Int))/\w'.cell? ⟨w.heap.size,1,qb⟩=qg (.int .i64 (F:Int))) 10
     (.still 0 (.still 1 (.still 2 (.two 3 (.two 4 (.still 5 (.still 6 (.still 7 (.one 8 (.one 9 .done))))) 8 (.one 4 (.still 5 (.still 6 (.still 7 (.one 9 .done)))))) 8 (.one 3 (.one 4 (.still 5 (.still 6 (.still 7 (.one 9 .done)))))))))) ⟨Z,a0,a1,a2,a3,a4⟩ (fun c7=>?_)
    iterate 3
     refine q03 ?_
    clear a7 a8 Z a0 a1 a2 a3 a4;obtain⟨M,a6⟩:=yx (wc.drew);have f:qf wc.heap.size wc M:=by rw[a6];exact q05 (qc _ _)
    replace a:=vv (a.o.step f);replace i:=vv (i.o.below f);replace j:=vv (j.o.below f);rw[<- a6] at c7 ⊢;clear a6 f;refine q0e rfl (by rfl) rfl (by rfl) (fun K hK=>?_) (fun K hK=>?_)
    focus
     go_simp;refine(c0.o M (a.o.std P.o)).mono ?_;rintro e R ⟨gv,rfl,-,y,f⟩;replace a:=vv (a.o.step f);replace i:=vv (i.o.below f);replace j:=vv (j.o.below f);have G:=vv y;clear f y;go_wp2_with fail;refine hK.out _ _ (Blk.n4 (a.o.get 0 rfl) (Blk.c2 (a.o.get 5 rfl))) (fun z=>?_);clear hK;refine q0e rfl (by rfl) rfl (by rfl) (fun K hK=>?_) (fun K hK=>?_)
     focus
      go_simp;refine(V.o _ _ _ _ i.o j.o G.o (a.o.std P.o)).mono ?_;rintro e T ⟨rfl,f⟩;replace a:=vv (a.o.step f);replace i:=vv (i.o.below f);replace j:=vv (j.o.below f);replace G:=vv (G.o.below f);clear f;go_wp2_with fail;refine hK.out _ _ (Blk.n4 (a.o.get 0 rfl) (Blk.c2 (a.o.get 5 rfl))) (fun z=>?_);clear hK
      iterate 3
       refine q03 ?_
      refine q01 rfl (by rfl) (fun K hK=>?_);go_simp;obtain⟨U,u⟩:=yx (T.heap.size);obtain⟨a9,p⟩:=yx (T.alloc (.cells #[.bool qa,.string ⟨#[]⟩,.int .i64 0] 27));have f:qf T.heap.size T a9:=by rw[p];exact(qc _ _).alloc lr _
      have g:=a.o.new 27 [.bool qa,.string ⟨#[]⟩,.int .i64 0] u;rw[<- p] at g
      try rw[<- p]
      try rw[<- u]
      replace a:=vv g;replace i:=vv (i.o.below f);replace j:=vv (j.o.below f);replace G:=vv (G.o.below f);clear f g p u;refine hK.out _ _ (Blk.n4 (a.o.get 1 rfl) (Blk.c2 (a.o.get 6 rfl))) (fun z=>?_);clear hK;obtain⟨wz,O⟩:=yx (a9);subst O
     rotate_left 1
     focus
      go_simp;obtain⟨U,u⟩:=yx (R.heap.size);obtain⟨c8,p⟩:=yx (R.alloc (.cells #[.bool qa,.string ⟨#[]⟩,.int .i64 0] 27));have f:qf R.heap.size R c8:=by rw[p];exact(qc _ _).alloc lr _
      have g:=a.o.new 27 [.bool qa,.string ⟨#[]⟩,.int .i64 0] u;rw[<- p] at g
      try rw[<- p]
      try rw[<- u]
      replace a:=vv g;replace i:=vv (i.o.below f);replace j:=vv (j.o.below f);replace G:=vv (G.o.below f);clear f g p u;refine hK.out _ _ (Blk.n4 (a.o.get 1 rfl) (Blk.c2 (a.o.get 6 rfl))) (fun z=>?_);clear hK;refine q01 rfl (by rfl) (fun K hK=>?_);go_simp;refine(V.o _ _ _ _ i.o j.o G.o (a.o.std P.o)).mono ?_;rintro e c9 ⟨rfl,f⟩;replace a:=vv (a.o.step f);replace i:=vv (i.o.below f);replace j:=vv (j.o.below f);replace G:=vv (G.o.below f);clear f;go_wp2_with fail;refine hK.out _ _ (Blk.n4 (a.o.get 1 rfl) (Blk.c2 (a.o.get 6 rfl))) (fun z=>?_);clear hK
      iterate 3
       refine q03 ?_
      obtain⟨wz,O⟩:=yx (c9);subst O
    rotate_left 2
    focus
     go_simp;obtain⟨U,u⟩:=yx (M.heap.size);obtain⟨b0,p⟩:=yx (M.alloc (.cells #[.bool qa,.string ⟨#[]⟩,.int .i64 0] 27));have f:qf M.heap.size M b0:=by rw[p];exact(qc _ _).alloc lr _
     have g:=a.o.new 27 [.bool qa,.string ⟨#[]⟩,.int .i64 0] u;rw[<- p] at g
     try rw[<- p]
     try rw[<- u]
     replace a:=vv g;replace i:=vv (i.o.below f);replace j:=vv (j.o.below f);clear f g p u;refine hK.out _ _ (Blk.n4 (a.o.get 1 rfl) (Blk.c2 (a.o.get 6 rfl))) (fun z=>?_);clear hK;refine q01 rfl (by rfl) (fun K hK=>?_);go_simp;refine(c0.o b0 (a.o.std P.o)).mono ?_;rintro e f4 ⟨gv,rfl,-,y,f⟩;replace a:=vv (a.o.step f);replace i:=vv (i.o.below f);replace j:=vv (j.o.below f);have G:=vv y;clear f y;go_wp2_with fail;refine hK.out _ _ (Blk.n4 (a.o.get 1 rfl) (Blk.c2 (a.o.get 6 rfl))) (fun z=>?_);clear hK;refine q01 rfl (by rfl) (fun K hK=>?_);go_simp;refine(V.o _ _ _ _ i.o j.o G.o (a.o.std P.o)).mono ?_;rintro e d0 ⟨rfl,f⟩;replace a:=vv (a.o.step f);replace i:=vv (i.o.below f);replace j:=vv (j.o.below f);replace G:=vv (G.o.below f);clear f;go_wp2_with fail;refine hK.out _ _ (Blk.n4 (a.o.get 1 rfl) (Blk.c2 (a.o.get 6 rfl))) (fun z=>?_);clear hK
     iterate 3
      refine q03 ?_
     obtain⟨wz,O⟩:=yx (d0);subst O
    all_goals
     refine q01 rfl (by rfl) (fun K hK=>?_);have C:=vv (a.o.get 0 rfl)
     with_reducible refine q0b 27 (.tmp 16) (.tmp 62) rfl U [.bool d.neg,.string d.S,.int .i64 d.x] rfl rfl 27 _ C.o (by kernel_rfl) rfl rfl ?_
     intro f5 a5 J;replace a:=vv (a.o.put 0 rfl a5 J);replace i:=vv (i.o.apart_ C.o rfl J);replace j:=vv (j.o.apart_ C.o rfl J);replace G:=vv (G.o.apart_ C.o rfl J);clear C a5 J;refine hK.out _ _ (Blk.n4 (a.o.get 1 rfl) (Blk.c2 (a.o.get 6 rfl))) (fun z=>?_);clear hK;refine q08 ?_;simp only[k0o,k0w];go_wp2_with fail;go_meet;exact⟨U,rfl,a.o⟩
   case rest =>
    obtain⟨gd,rfl,g⟩:=hcut;replace a:=vv g;clear g i j;obtain⟨Z,a0,a1,b2⟩:=Blk.f3 (a.o.get 0 rfl);have C:=vv (a.o.get 5 rfl);go_wp2_with (with_reducible refine q00 rfl 27 (.tmp 6) (.tmp 64) rfl (w.heap.size+1) [.bool d.neg,.string d.S,.int .i64 d.x] rfl rfl 27 _ C.o (by kernel_rfl) rfl rfl ?_);intro f6 a5 J;clear C;have C:=vv (a.o.get 5 rfl);replace a:=vv (a.o.put 5 rfl a5 J);clear Z a0 a1 b2 C a5 J
    repeat go_step
    obtain⟨d4,d5,d6⟩:=Blk.c3 (a.o.get 5 rfl);exact qh (v:=.tuple #[d.v,.int .i64 0]) (by simp [results,results9,go_sem,d4,d5,d6]) rfl ⟨rfl,a.o.low⟩
theorem Digits18(E F b mode:Nat)(w:ql)(h1:2<=E)(h2:E<=11)(h3:1<=F)(h4:F<=52)(hb:b<2^(1+E+F))(hf:q0c E F b≠2^E-1)(hmo:mode<=4)(hst:Std w):qi qd 9 #[fm E F,.int .u64 (b:Int),.int .u8 (mode:Int)] w (qap (q0P E F b mode) w):=by
 rcases k01 (q0o E F b) with h|h
 ·exact q4A E F b mode w h1 h2 h3 h4 hb hf hmo h hst
 ·exact q53 E F b mode w h1 h2 h3 h4 hb hf hmo h hst
end R18
namespace R6
open Go Go.RowKit R5 Scn Sh Fms Exa Sho Nea
theorem q3F(E F:Int)(b mode:Nat)(q:Int)(w:ql)(hq:(q==0)=qa)(hn:∀w',qi qd 37 #[fm E F,.int .u64 (b:Int)] w' fun e w''=>e=.returned (.int .i64 q)/\qf w'.heap.size w' w''):qi qd 27 #[fm E F,.int .u64 (b:Int),.int .u8 (mode:Int)] w (q3L q w):=by
 obtain⟨C,g⟩:=yx (((w.alloc (.cells #[.int .i64 E,.int .i64 F] 23)).alloc (.cells #[.bool qa,.slice qb 0 0,.slice qb 0 0] 39)).alloc (.cells #[.bool qa,.slice qb 0 0,.slice qb 0 0] 39));have h:Cx w [(w.heap.size+1+1,39,[.bool qa,.slice qb 0 0,.slice qb 0 0]),(w.heap.size+1,39,[.bool qa,.slice qb 0 0,.slice qb 0 0]),(w.heap.size,23,[.int .i64 E,.int .i64 F])] C:=by rw[g];exact(((Cx.nil w).new _ [_,_] rfl).new _ [_,_,_] (by simp)).new _ [_,_,_] (by simp)
 have a:=vv h;have D:=vv g;have j:=vv hn;have G:¬q=0:=k05.1 hq;have H:(q != 0)=qk:=by rw[bne,hq];rfl
 clear g h hn ;obtain⟨k,l,m⟩:=Blk.f2 (a.o.get 2 rfl);go_enter func27,ntmps27;go_wp2_with fail;rw[<- D.o];go_wp2_with fail;refine(j.o _).mono ?_;rintro e I ⟨rfl,i⟩;replace a:=vv (a.o.step i);clear k l m i;obtain⟨n,p,r⟩:=Blk.f2 (a.o.get 2 rfl);have c:=vv (a.o.get 1 rfl);go_wp2_with (with_reducible refine q00 rfl 39 (.tmp 6) (.tmp 39) rfl (w.heap.size+1) [.bool qa,.slice qb 0 0,.slice qb 0 0] rfl rfl 39 _ c.o (by kernel_rfl) rfl rfl ?_);intro J d f;clear c;have c:=vv (a.o.get 1 rfl);replace a:=vv (a.o.put 1 rfl d f);clear n p r c d f;have c:=vv (a.o.get 0 rfl);go_wp2_with (with_reducible refine q00 rfl 39 (.tmp 7) (.tmp 40) rfl (w.heap.size+1+1) [.bool qa,.slice qb 0 0,.slice qb 0 0] rfl rfl 39 _ c.o (by kernel_rfl) rfl rfl ?_);intro K d f;clear c;have c:=vv (a.o.get 0 rfl);replace a:=vv (a.o.put 0 rfl d f);clear c d f;go_wp2;obtain⟨s,t,u⟩:=Blk.c3 (a.o.get 1 rfl);obtain⟨x,y,z⟩:=Blk.c3 (a.o.get 0 rfl);exact qh (v:=.tuple #[q2y,q2y,.bool qa,.bool qa,.int .i64 q]) (by simp [results,results27,go_sem,s,t,u,x,y,z]) rfl ⟨rfl,a.o.low⟩
theorem q3E(E F:Int)(b mode:Nat)(w:ql)(hm:qe ((4:Int)<(mode:Int))=qk)(hn:∀w',qi qd 37 #[fm E F,.int .u64 (b:Int)] w' fun e w''=>e=.returned (.int .i64 0)/\qf w'.heap.size w' w''):qi qd 27 #[fm E F,.int .u64 (b:Int),.int .u8 (mode:Int)] w (q3L 7 w):=by
 obtain⟨C,g⟩:=yx (((w.alloc (.cells #[.int .i64 E,.int .i64 F] 23)).alloc (.cells #[.bool qa,.slice qb 0 0,.slice qb 0 0] 39)).alloc (.cells #[.bool qa,.slice qb 0 0,.slice qb 0 0] 39));have h:Cx w [(w.heap.size+1+1,39,[.bool qa,.slice qb 0 0,.slice qb 0 0]),(w.heap.size+1,39,[.bool qa,.slice qb 0 0,.slice qb 0 0]),(w.heap.size,23,[.int .i64 E,.int .i64 F])] C:=by rw[g];exact(((Cx.nil w).new _ [_,_] rfl).new _ [_,_,_] (by simp)).new _ [_,_,_] (by simp)
 have a:=vv h;have D:=vv g;have j:=vv hn;have k:qe (4<mode)=qe ((4:Int)<(mode:Int)):=by rw[k1y];omega
 rw[hm] at k;clear g h hn ;obtain⟨l,m,n⟩:=Blk.f2 (a.o.get 2 rfl);go_enter func27,ntmps27;go_wp2_with fail;rw[<- D.o];go_wp2_with fail;refine(j.o _).mono ?_;rintro e G ⟨rfl,i⟩;replace a:=vv (a.o.step i);clear l m n i;obtain⟨p,q,r⟩:=Blk.f2 (a.o.get 2 rfl);have c:=vv (a.o.get 1 rfl);go_wp2_with (with_reducible refine q00 rfl 39 (.tmp 6) (.tmp 39) rfl (w.heap.size+1) [.bool qa,.slice qb 0 0,.slice qb 0 0] rfl rfl 39 _ c.o (by kernel_rfl) rfl rfl ?_);intro H d f;clear c;have c:=vv (a.o.get 1 rfl);replace a:=vv (a.o.put 1 rfl d f);clear p q r c d f;have c:=vv (a.o.get 0 rfl);go_wp2_with (with_reducible refine q00 rfl 39 (.tmp 7) (.tmp 40) rfl (w.heap.size+1+1) [.bool qa,.slice qb 0 0,.slice qb 0 0] rfl rfl 39 _ c.o (by kernel_rfl) rfl rfl ?_);intro I d f;clear c;have c:=vv (a.o.get 0 rfl);replace a:=vv (a.o.put 0 rfl d f);clear c d f;go_wp2;obtain⟨s,t,u⟩:=Blk.c3 (a.o.get 1 rfl);obtain⟨x,y,z⟩:=Blk.c3 (a.o.get 0 rfl);exact qh (v:=.tuple #[q2y,q2y,.bool qa,.bool qa,.int .i64 7]) (by simp [results,results27,go_sem,s,t,u,x,y,z]) rfl ⟨rfl,a.o.low⟩
theorem q3D(E F:Int)(b mode:Nat)(w:ql)(hm:qe ((4:Int)<(mode:Int))=qa)(hn:∀w',qi qd 37 #[fm E F,.int .u64 (b:Int)] w' fun e w''=>e=.returned (.int .i64 0)/\qf w'.heap.size w' w'')(hf:∀w',qi qd 70 #[fm E F,.int .u64 (b:Int)] w' fun e w''=>e=.returned (.bool qa)/\qf w'.heap.size w' w''):qi qd 27 #[fm E F,.int .u64 (b:Int),.int .u8 (mode:Int)] w (q3L 8 w):=by
 obtain⟨I,h⟩:=yx (((w.alloc (.cells #[.int .i64 E,.int .i64 F] 23)).alloc (.cells #[.bool qa,.slice qb 0 0,.slice qb 0 0] 39)).alloc (.cells #[.bool qa,.slice qb 0 0,.slice qb 0 0] 39));have i:Cx w [(w.heap.size+1+1,39,[.bool qa,.slice qb 0 0,.slice qb 0 0]),(w.heap.size+1,39,[.bool qa,.slice qb 0 0,.slice qb 0 0]),(w.heap.size,23,[.int .i64 E,.int .i64 F])] I:=by rw[h];exact(((Cx.nil w).new _ [_,_] rfl).new _ [_,_,_] (by simp)).new _ [_,_,_] (by simp)
 have a:=vv i;have J:=vv h;have j:=vv hn;have k:=vv hf;have l:qe (4<mode)=qe ((4:Int)<(mode:Int)):=by rw[k1y];omega
 rw[hm] at l;clear h i hn hf;obtain⟨m,n,p⟩:=Blk.f2 (a.o.get 2 rfl);go_enter func27,ntmps27;go_wp2_with fail;rw[<- J.o];go_wp2_with fail;refine(j.o _).mono ?_;rintro e M ⟨rfl,f⟩;replace a:=vv (a.o.step f);clear m n p f;obtain⟨q,r,s⟩:=Blk.f2 (a.o.get 2 rfl);go_wp2_with fail;refine(k.o _).mono ?_;rintro e N ⟨rfl,f⟩;replace a:=vv (a.o.step f);clear q r s f;obtain⟨t,u,x⟩:=Blk.f2 (a.o.get 2 rfl);have c:=vv (a.o.get 1 rfl);go_wp2_with (with_reducible refine q00 rfl 39 (.tmp 6) (.tmp 39) rfl (w.heap.size+1) [.bool qa,.slice qb 0 0,.slice qb 0 0] rfl rfl 39 _ c.o (by kernel_rfl) rfl rfl ?_);intro K d g;clear c;have c:=vv (a.o.get 1 rfl);replace a:=vv (a.o.put 1 rfl d g);clear t u x c d g;have c:=vv (a.o.get 0 rfl);go_wp2_with (with_reducible refine q00 rfl 39 (.tmp 7) (.tmp 40) rfl (w.heap.size+1+1) [.bool qa,.slice qb 0 0,.slice qb 0 0] rfl rfl 39 _ c.o (by kernel_rfl) rfl rfl ?_);intro L d g;clear c;have c:=vv (a.o.get 0 rfl);replace a:=vv (a.o.put 0 rfl d g);clear c d g;go_wp2;obtain⟨y,z,C⟩:=Blk.c3 (a.o.get 1 rfl);obtain⟨D,G,H⟩:=Blk.c3 (a.o.get 0 rfl);exact qh (v:=.tuple #[q2y,q2y,.bool qa,.bool qa,.int .i64 8]) (by simp [results,results27,go_sem,y,z,C,D,G,H]) rfl ⟨rfl,a.o.low⟩
theorem Reach_no(E F:Int)(b mode:Nat)(w:ql)(hb:b<18446744073709551616)(h:q09 E F b≠0\/4<mode\/∃e f:Nat,E=e/\F=f/\q0c e f b=2^e-1):qi qd 27 #[fm E F,.int .u64 (b:Int),.int .u8 (mode:Int)] w (q3L (q3T E F b mode) w):=by
 have a:∀w',qi qd 37 #[fm E F,.int .u64 (b:Int)] w' fun e w''=>e=.returned (.int .i64 (q09 E F b))/\qf w'.heap.size w' w'':=fun w'=>R3.Fits E F b w' hb
 unfold q3T;by_cases h0:q09 E F b=0
 ·rw[k0r (by omega)];have c:R3.formOk E F=qk:=by
   cases hf:R3.formOk E F
   ·unfold q09 at h0;rw[hf,k0r (by decide)] at h0;exact absurd h0 (by decide)
   ·rfl
  obtain⟨e,f,rfl,rfl,i,j,l,m⟩:=R3.formOk_nat c;have g:b<2^(1+e+f):=by
   unfold q09 at h0;rw[c,k0p rfl] at h0;have:¬(1+(e:Int)+f<bl b):=fun k=>by rw[k0p k] at h0;exact absurd h0 (by decide)
   exact k03 (q0O b) (k00 (by decide) (by omega))
  rw[h0] at a;by_cases hm:4<mode
  ·rw[k0p hm];exact q3E e f b mode w (k04 (by omega)) a
  ·rw[k0r hm];have hx:q0c e f b=2^e-1:=by
    rcases h with k|k|⟨d,r,n,o,p⟩
    ·exact absurd h0 k
    ·exact absurd k hm
    ·rw[k2y n,k2y o];exact p
   have q:∀w',qi qd 70 #[fm e f,.int .u64 (b:Int)] w' fun d w''=>d=.returned (.bool qa)/\qf w'.heap.size w' w'':=fun w'=>by
    have:=R3.Finite e f b w' i j l m g
    rwa [k02 (show ¬q0c e f b≠R3.tw e-1 from fun k=>k hx)] at this
   exact q3D e f b mode w (k02 (by omega)) a q
 ·rw[k0p h0];exact q3F E F b mode _ w (k05.2 h0) a
end R6
namespace R18
open Go Go.RowKit R5 Scn Sh Fms Exa Sho Nea
theorem Digits_no(E F:Int)(b mode:Nat)(er:Int)(w:ql)(h0:(er==0)=qa)(hr:∀w',qi qd 27 #[fm E F,.int .u64 (b:Int),.int .u8 (mode:Int)] w' (q3L er w')):qi qd 9 #[fm E F,.int .u64 (b:Int),.int .u8 (mode:Int)] w fun e w'=>e=.returned (.tuple #[(⟨qa,⟨#[]⟩,0⟩:Dcl).v,.int .i64 er])/\qf w.heap.size w w':=by
 obtain⟨y,l⟩:=yx ((w.alloc (.cells #[.int .i64 E,.int .i64 F] 23)).alloc (.cells #[.bool qa,.string ⟨#[]⟩,.int .i64 0] 27));have d:Cx w [(w.heap.size+1,27,[.bool qa,.string ⟨#[]⟩,.int .i64 0]),(w.heap.size,23,[.int .i64 E,.int .i64 F])] y:=by rw[l];exact((Cx.nil w).new _ [_,_] rfl).new _ [_,_,_] (by simp)
 have p:=vv hr;have a:=vv d;have z:=vv l;have G:¬er=0:=k05.1 h0;have H:(er != 0)=qk:=by rw[bne,h0];rfl
 clear l d hr;obtain⟨q,r,s⟩:=Blk.f2 (a.o.get 1 rfl);go_enter func9,ntmps9;go_wp2_with fail;rw[<- z.o];go_wp2_with fail;refine(p.o _).mono ?_;rintro e j ⟨rfl,f⟩;replace a:=vv (a.o.step f);clear q r s f;have h:=vv (a.o.get 0 rfl);go_wp2_with (with_reducible refine q00 rfl 27 (.tmp 6) (.tmp 30) rfl (w.heap.size+1) [.bool qa,.string ⟨#[]⟩,.int .i64 0] rfl rfl 27 _ ((h.o.alloc _).alloc _) (by kernel_rfl) rfl rfl ?_);intro I m k;clear h;obtain⟨C,i⟩:=yx (j.heap.size);obtain⟨g,c⟩:=yx (j.alloc (.cells #[.bool qa,.slice qb 0 0,.slice qb 0 0] 39));have f:qf j.heap.size j g:=by rw[c];exact(qc _ _).alloc lr _
 have d:=a.o.new 39 [.bool qa,.slice qb 0 0,.slice qb 0 0] i;have n:(C+1:Nat)=g.heap.size:=by rw[c,qj,<- i]
 rw[<- c] at d 
 try rw[<- c]
 try rw[<- i]
 rw[<- c] at k;replace a:=vv d;clear c f d i;obtain⟨D,c⟩:=yx (g.alloc (.cells #[.bool qa,.slice qb 0 0,.slice qb 0 0] 39));have f:qf g.heap.size g D:=by rw[c];exact(qc _ _).alloc lr _
 have d:=a.o.new 39 [.bool qa,.slice qb 0 0,.slice qb 0 0] n;rw[<- c] at d k
 try rw[<- c]
 replace a:=vv d;clear c f d n;have h:=vv (a.o.get 2 rfl);replace a:=vv (a.o.put 2 rfl m k);clear h m k;go_wp2;obtain⟨t,u,x⟩:=Blk.c3 (a.o.get 2 rfl);exact qh (v:=.tuple #[(⟨qa,⟨#[]⟩,0⟩:Dcl).v,.int .i64 er]) (by simp [results,results9,go_sem,t,u,x]) rfl ⟨rfl,a.o.low⟩
end R18
namespace Sho
open Go Go.RowKit R5 Scn Sh Rtp Fms Exa Nea
theorem q5E(E F:Int)(b mode:Nat)(hb:b<18446744073709551616):∃(d:Dcl) (er:Int),(∀w,Std w->qi qd 8 #[fm E F,.int .u64 (b:Int),.int .u8 (mode:Int)] w fun e w'=>e=.returned (.tuple #[d.v,.int .i64 er])/\qf w.heap.size w w') /\(∀w,Std w->qi qd 9 #[fm E F,.int .u64 (b:Int),.int .u8 (mode:Int)] w fun e w'=>e=.returned (.tuple #[d.v,.int .i64 er])/\qf w.heap.size w w'):=by
 by_cases hno:q09 E F b≠0\/4<mode\/∃e f:Nat,E=e/\F=f/\q0c e f b=2^e-1
 ·have a:(q3T E F b mode==0)=qa:=by
   rw[k05];unfold q3T;split
   ·rename_i k;exact k
   ·split<;>decide
  exact⟨_,_,fun w _=>Digits_no E F b mode _ w a fun w'=>Reach_no E F b mode w' hb hno,fun w _=>R18.Digits_no E F b mode _ w a fun w'=>R6.Reach_no E F b mode w' hb hno⟩
 ·have a:q09 E F b=0:=Classical.byContradiction fun k=>hno (.inl k)
  have j:mode<=4:=Nat.le_of_not_lt fun k=>hno (.inr (.inl k))
  have h:R3.formOk E F=qk:=by
   cases c:R3.formOk E F
   ·unfold q09 at a;rw[c,k0r (by decide)] at a;exact absurd a (by decide)
   ·rfl
  obtain⟨e,f,rfl,rfl,l,m,n,o⟩:=R3.formOk_nat h;have i:b<2^(1+e+f):=by
   unfold q09 at a;rw[h,k0p rfl] at a;have:¬(1+(e:Int)+f<bl b):=fun k=>by rw[k0p k] at a;exact absurd a (by decide)
   exact k03 (q0O b) (k00 (by decide) (by omega))
  have c:q0c e f b≠2^e-1:=fun k=>hno (.inr (.inr ⟨e,f,rfl,rfl,k⟩))
  exact⟨_,_,fun w g=>q5M e f b mode w l m n o i c j g,fun w g=>R18.Digits18 e f b mode w l m n o i c j g⟩
theorem ShortDigits(E F:Int)(b mode:Nat)(w:ql)(hb:b<18446744073709551616)(hm:mode<256)(hst:Std w):qi qd 3 #[fm E F,.int .u64 (b:Int),.int .u8 (mode:Int)] w fun e w'=>e=.returned (.bool qk)/\qf w.heap.size w w':=by
 obtain⟨H,k⟩:=yx (w.alloc (.cells #[.int .i64 E,.int .i64 F] 23));have f:Cx w [(w.heap.size,23,[.int .i64 E,.int .i64 F])] H:=by rw[k];exact(Cx.nil w).new _ [_,_] rfl
 have I:=vv fun w' hs=>qbo w' hs
 have l:=vv hst;have a:=vv f;have J:=vv k;obtain⟨d,m,n,p⟩:=q5E E F b mode hb;have K:=vv n;have L:=vv p;have Y:(m==m)=qk:=k36 m;have Z:(d.neg==d.neg)=qk:=k36 _;have tx:(d.x==d.x)=qk:=k36 _;have ts:(d.S.toList==d.S.toList)=qk:=k36 _;clear k f hst hb hm n p;go_enter func3,ntmps3;go_wp2_with fail;rw[<- J.o];refine(I.o _ (a.o.std l.o)).mono ?_;rintro e w1 ⟨rfl,c⟩;replace a:=vv (a.o.step c);clear c;obtain⟨q,r,s⟩:=Blk.f2 (a.o.get 0 rfl);go_wp2_with fail;refine(K.o _ (a.o.std l.o)).mono ?_;rintro e i ⟨rfl,c⟩;replace a:=vv (a.o.step c);clear q r s c;obtain⟨t,u,v⟩:=Blk.f2 (a.o.get 0 rfl);go_wp2_with fail;obtain⟨N,h⟩:=yx (i.heap.size);obtain⟨M,g⟩:=yx (i.alloc (.cells #[.bool d.neg,.string d.S,.int .i64 d.x] 27));have c:qf i.heap.size i M:=by rw[g];exact(qc _ _).alloc lr _
 have f:=a.o.new 27 [.bool d.neg,.string d.S,.int .i64 d.x] h;rw[<- g] at f 
 try rw[<- g]
 try rw[<- h]
 replace a:=vv f;clear t u v g c f h;refine(L.o _ (a.o.std l.o)).mono ?_;rintro e j ⟨rfl,c⟩;replace a:=vv (a.o.step c);clear c;obtain⟨y,z,C,D⟩:=Blk.f3 (a.o.get 0 rfl);go_upto_region 6 with fail;obtain⟨O,h⟩:=yx (j.heap.size);obtain⟨G,g⟩:=yx (j.alloc (.cells #[.bool d.neg,.string d.S,.int .i64 d.x] 27));have c:qf j.heap.size j G:=by rw[g];exact(qc _ _).alloc lr _
 have f:=a.o.new 27 [.bool d.neg,.string d.S,.int .i64 d.x] h;rw[<- g] at f 
 try rw[<- g]
 try rw[<- h]
 replace a:=vv f;clear y z C D g c f h;obtain⟨P,Q,R,T⟩:=Blk.f3 (a.o.get 0 rfl);obtain⟨U,V,W,X⟩:=Blk.f3 (a.o.get 1 rfl);go_wp2;go_ret;exact⟨rfl,a.o.low⟩
end Sho
end Go.Proofs.YtabcgemembkkcaaGreatDoor
