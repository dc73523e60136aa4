/- Lemmas. -/
import Derived.Test.YtabcgemembkkcaaGreatDoorDigsBR
set_option linter.all false
set_option maxHeartbeats 16000000
set_option maxRecDepth 100000
open Go.Proofs.Tryz
open Decidable renaming decide->qa
open Go renaming RowKit.Below.refl->qb,bodyPost_ret->qh,World.size_alloc->qi,World->qj,Calls->qk,IntKind.wrap_i64->qm,IntWalk.i64_in->qn
open Go.Proofs.Tryz renaming prog->qc
open Bool renaming false->qd,true->qo
open Option renaming none->qe,some->qg
open Go.RowKit renaming Below->qf,Hid->ql
namespace Go.Proofs.YtabcgemembkkcaaGreatDoor
namespace R4
open Go Go.RowKit R5 Scn Sh Fms Exa Rtp Sho
theorem q9i{w:qj}{A:Option Addr}{n c N:Nat}(h:Rd w A n c (toL N))(hN:0<N):0<n:=by
 rcases k01 n with k|k
 ·have:=h.words;rw[k] at this;have:=q06.1 this;omega
 ·exact k
theorem qeO(ng:Bool)(A:Option Addr)(n c N:Nat)(x:Int)(q1:Rat)(B:Option Addr)(m d M:Nat)(y:Int)(q2:Rat)(w:qj)(ha:DQ w A n c N x q1)(hb:DQ w B m d M y q2)(hres:Rb (q1+q2)):qk qc 149 #[dyG ng A n c N x,dyG ng B m d M y] w (DGP ng (q1+q2) w):=by
 have hn:=ha.n_le;have hm:=hb.n_le;have L:=vv fun w' (k:DQ w' A n c N x q1) (k2:DQ w' B m d M y q2)=>q4G ng ng A n c N x q1 B m d M y q2 w' k k2
 have O:=vv fun w' (k:DQ w' A n c N x q1)=>qcU ng A n c N x q1 w' k
 have P:=vv fun w' (k:DQ w' B m d M y q2)=>qcU ng B m d M y q2 w' k
 unfold dyG at L O P;have b7:N=0->q1+q2=q2:=fun l=>by rw[ha.e,l,q1n];grind
 have b8:M=0->q1+q2=q1:=fun l=>by rw[hb.e,l,q1n];grind
 obtain⟨u,D⟩:=yx ((ng && qa (0<N)));obtain⟨K,E⟩:=yx ((ng && qa (0<M)));show qk qc 149 #[q0q (ng && qa (0<N)) A n c x,q0q (ng && qa (0<M)) B m d y] w _;rw[<- D,<- E];rw[<- D,<- E] at L;rw[<- D] at O;rw[<- E] at P;obtain⟨w0,Q⟩:=yx (((w.alloc (.cells #[.bool u,.slice A n c,.int .i64 x] 62)).alloc (.cells #[.bool K,.slice B m d,.int .i64 y] 62)).alloc (.cells #[.bool qd,.slice qe 0 0,.int .i64 0] 62));have h:Cx w [(w.heap.size+1+1,62,[.bool qd,.slice qe 0 0,.int .i64 0]),(w.heap.size+1,62,[.bool K,.slice B m d,.int .i64 y]),(w.heap.size,62,[.bool u,.slice A n c,.int .i64 x])] w0:=by rw[Q];exact(((Cx.nil w).new _ [_,_,_] rfl).new _ [_,_,_] (by simp)).new _ [_,_,_] (by simp)
 have b:=vv h;have HW:=vv Q;have f:=vv (ha.below h.low);have g:=vv (hb.below h.low);rcases k01 N with l|l
 ·have I:n=0:=by have:=ha.r.words;rw[l,q0h] at this;exact this.symm
  subst I;rw[b7 l];have R:=vv fun w=>q2i A c w
  have j0:=vv E;clear Q h ha hb hres l hn hm b7 b8 O D E;obtain⟨U,V,W,X⟩:=Blk.f3 (b.o.get 1 rfl);obtain⟨Y,Z,b4,b5⟩:=Blk.f3 (b.o.get 2 rfl);go_enter func149,ntmps149;go_wp2_with fail;rw[<- HW.o];go_wp2_with fail;refine(L.o _ f.o g.o).mono ?_;rintro e w9 ⟨rfl,a⟩;replace b:=vv (b.o.step a);replace f:=vv (f.o.below a);replace g:=vv (g.o.below a);clear U V W X Y Z b4 b5 a;obtain⟨a0,a1,a2,a3⟩:=Blk.f3 (b.o.get 2 rfl);go_wp2_with fail;refine(R.o _).mono ?_;rintro e i4 ⟨rfl,a⟩;replace b:=vv (b.o.step a);replace f:=vv (f.o.below a);replace g:=vv (g.o.below a);clear a0 a1 a2 a3 a;obtain⟨a4,a5,a6,a7⟩:=Blk.f3 (b.o.get 1 rfl);go_wp2_with fail;refine(P.o _ g.o).mono ?_;rintro e i5 ⟨B',m',d',rfl,G,a⟩;replace b:=vv (b.o.step a);replace f:=vv (f.o.below a);replace g:=vv (g.o.below a);have s:=vv G;clear a4 a5 a6 a7 a G;have i:=vv (b.o.get 0 rfl);go_wp2_with (with_reducible refine q00 rfl 62 (.tmp 4) (.tmp 32) rfl (w.heap.size+1+1) [.bool K,.slice B' m' d',.int .i64 y] rfl rfl 62 _ i.o (by kernel_rfl) rfl rfl ?_);intro j9 F t;clear i;have i:=vv (b.o.get 0 rfl);replace b:=vv (b.o.put 0 rfl F t);replace s:=vv (s.o.apart_ i.o rfl t);clear i F t;go_wp2;obtain⟨d3,d4,d5⟩:=Blk.c3 (b.o.get 0 rfl);exact qh (v:=.tuple #[q0q K B' m' d' y,.int .i64 0]) (by simp [results,results149,go_sem,d3,d4,d5]) rfl ⟨B',m',d',M,y,by unfold dyG;rw[j0.o],s.o,b.o.low⟩
 rcases k01 M with J|J
 ·have c0:m=0:=by have:=hb.r.words;rw[J,q0h] at this;exact this.symm
  have I:=q9i ha.r l;subst c0;rw[b8 J];have R:=vv fun w=>q11 A n c w I
  have d0:=vv fun w=>q2i B d w
  have j1:=vv D;clear Q h ha hb hres l J hn hm I b7 b8 P D E;obtain⟨U,V,W,X⟩:=Blk.f3 (b.o.get 1 rfl);obtain⟨Y,Z,b4,b5⟩:=Blk.f3 (b.o.get 2 rfl);go_enter func149,ntmps149;go_wp2_with fail;rw[<- HW.o];go_wp2_with fail;refine(L.o _ f.o g.o).mono ?_;rintro e w9 ⟨rfl,a⟩;replace b:=vv (b.o.step a);replace f:=vv (f.o.below a);replace g:=vv (g.o.below a);clear U V W X Y Z b4 b5 a;obtain⟨a0,a1,a2,a3⟩:=Blk.f3 (b.o.get 2 rfl);go_wp2_with fail;refine(R.o _).mono ?_;rintro e i4 ⟨rfl,a⟩;replace b:=vv (b.o.step a);replace f:=vv (f.o.below a);replace g:=vv (g.o.below a);clear a0 a1 a2 a3 a;obtain⟨a4,a5,a6,a7⟩:=Blk.f3 (b.o.get 1 rfl);go_wp2_with fail;refine(d0.o _).mono ?_;rintro e i5 ⟨rfl,a⟩;replace b:=vv (b.o.step a);replace f:=vv (f.o.below a);replace g:=vv (g.o.below a);clear a4 a5 a6 a7 a;obtain⟨a8,a9,b0,b3⟩:=Blk.f3 (b.o.get 2 rfl);go_wp2_with fail;refine(O.o _ f.o).mono ?_;rintro e k1 ⟨A',n',c',rfl,G,a⟩;replace b:=vv (b.o.step a);replace f:=vv (f.o.below a);replace g:=vv (g.o.below a);have s:=vv G;clear a8 a9 b0 b3 a G;have i:=vv (b.o.get 0 rfl);go_wp2_with (with_reducible refine q00 rfl 62 (.tmp 4) (.tmp 37) rfl (w.heap.size+1+1) [.bool u,.slice A' n' c',.int .i64 x] rfl rfl 62 _ i.o (by kernel_rfl) rfl rfl ?_);intro k3 F t;clear i;have i:=vv (b.o.get 0 rfl);replace b:=vv (b.o.put 0 rfl F t);replace s:=vv (s.o.apart_ i.o rfl t);clear i F t;go_wp2;obtain⟨d6,d7,d8⟩:=Blk.c3 (b.o.get 0 rfl);exact qh (v:=.tuple #[q0q u A' n' c' x,.int .i64 0]) (by simp [results,results149,go_sem,d6,d7,d8]) rfl ⟨A',n',c',N,x,by unfold dyG;rw[j1.o],s.o,b.o.low⟩
 have I:=q9i ha.r l;have c0:=q9i hb.r J;have b6:u=ng:=by rw[D,k04 l,k2L]
 have d9:K=ng:=by rw[E,k04 J,k2L]
 obtain rfl:u=K:=b6.trans d9.symm;obtain rfl:u=ng:=b6;have hq:dq (N*p2 (x-y)+M*p2 (y-x)) (min x y)=q1+q2:=by rw[q6m,<- ha.e,<- hb.e]
 have e1:N*2^(x-min x y).toNat=N*p2 (x-y):=by unfold p2;rw[show(x-min x y).toNat=(x-y).toNat by omega]
 have e2:M*2^(y-min x y).toNat=M*p2 (y-x):=by unfold p2;rw[show(y-min x y).toNat=(y-x).toNat by omega]
 have s1:bl (N*p2 (x-y))<=32000:=q2a (by have:=ha.bn;omega) (by have:=ha.b2;have:=hb.b1;omega);have s2:bl (M*p2 (y-x))<=32000:=q2a (by have:=hb.bn;omega) (by have:=hb.b2;have:=ha.b1;omega);have c4:=vv fun w' (k:DQ w' A n c N x q1)=>R1.Up A n c N (x-min x y).toNat w' k.r hn (by have:=k.bn;have:=ha.b2;have:=hb.b1;have:=ha.b1;omega)
 have c5:=vv fun w' (k:DQ w' B m d M y q2)=>R1.Up B m d M (y-min x y).toNat w' k.r hm (by have:=k.bn;have:=hb.b2;have:=ha.b1;have:=hb.b1;omega)
 rw[e1] at c4;rw[e2] at c5;obtain⟨S,hS⟩:=yx (N*p2 (x-y));obtain⟨T,hT⟩:=yx (M*p2 (y-x));have i6:(((x-min x y).toNat:Nat):Int)=x-min x y:=by omega
 have i7:(((y-min x y).toNat:Nat):Int)=y-min x y:=by omega
 rw[i6] at c4;rw[i7] at c5;obtain⟨z,hz⟩:=yx (min x y);have z1:-3000<=z:=by have:=ha.b1;have:=hb.b1;omega
 have z2:z<=3000:=by have:=ha.b2;have:=hb.b2;omega
 have z3:IntKind.i64.wrap (x-z)=x-z:=qn _ (by have:=ha.b1;have:=ha.b2;omega);have z4:IntKind.i64.wrap (y-z)=y-z:=qn _ (by have:=hb.b1;have:=hb.b2;omega);have k4:min x y=z:=hz.symm;rw[<- hS,<- hT,<- hz] at hq;rw[<- hS,<- hz] at c4;rw[<- hT,<- hz] at c5;rw[<- hS] at s1;rw[<- hT] at s2;have e0:bl (S+T)<=32001:=q20 S T 32000 s1 s2;have R:=vv fun w=>q11 A n c w I
 have d0:=vv fun w=>q11 B m d w c0
 have j2:=vv fun H n1 c1 B1 m1 d1 w' (k:RN w' H n1 c1 S) (k2:RN w' B1 m1 d1 T)=>R1.Add H n1 c1 S B1 m1 d1 T w' k.r k2.r (k07 (Rtp.rd_le (k:=1001) k.r (by omega)) (by decide)) (k07 (Rtp.rd_le (k:=1001) k2.r (by omega)) (by decide)) (k07 (q5O (k:=1001) (by omega)) (by decide))
 have i8:=vv fun H n1 c1 w' (k:RN w' H n1 c1 (S+T))=>q9T u H n1 c1 (S+T) z w' k.r (k07 (Rtp.rd_le (k:=1001) k.r (by omega)) (by decide)) (by rw[hq];exact hres) (by omega) (by omega)
 rw[hq] at i8;have k5:=ha.b1;have j7:=ha.b2;have k6:=hb.b1;have j8:=hb.b2;clear Q h ha hb hres l J hq hn hm I c0 s1 s2 hS hT hz e0 O P D E b7 b8 e1 e2 i6 i7;obtain⟨U,V,W,X⟩:=Blk.f3 (b.o.get 1 rfl);obtain⟨Y,Z,b4,b5⟩:=Blk.f3 (b.o.get 2 rfl);go_enter func149,ntmps149;go_wp2_with fail;rw[<- HW.o];go_wp2_with fail;refine(L.o _ f.o g.o).mono ?_;rintro e w9 ⟨rfl,a⟩;replace b:=vv (b.o.step a);replace f:=vv (f.o.below a);replace g:=vv (g.o.below a);clear U V W X Y Z b4 b5 a;obtain⟨a0,a1,a2,a3⟩:=Blk.f3 (b.o.get 2 rfl);go_wp2_with fail;refine(R.o _).mono ?_;rintro e i4 ⟨rfl,a⟩;replace b:=vv (b.o.step a);replace f:=vv (f.o.below a);replace g:=vv (g.o.below a);clear a0 a1 a2 a3 a;obtain⟨a4,a5,a6,a7⟩:=Blk.f3 (b.o.get 1 rfl);go_wp2_with fail;refine(d0.o _).mono ?_;rintro e i5 ⟨rfl,a⟩;replace b:=vv (b.o.step a);replace f:=vv (f.o.below a);replace g:=vv (g.o.below a);clear a4 a5 a6 a7 a;obtain⟨a8,a9,b0,b3⟩:=Blk.f3 (b.o.get 1 rfl);obtain⟨e3,e4,e5,e6⟩:=Blk.f3 (b.o.get 2 rfl);go_wp2_with fail;refine(c4.o _ f.o).mono ?_;rintro e c6 ⟨H,n1,c1,rfl,hR,-,a⟩;replace b:=vv (b.o.step a);replace f:=vv (f.o.below a);replace g:=vv (g.o.below a);have p:=vv (RN.mk hR);clear a8 a9 b0 b3 e3 e4 e5 e6 a hR;obtain⟨e7,e8,e9,f0⟩:=Blk.f3 (b.o.get 1 rfl);obtain⟨f2,f4,f5,f6⟩:=Blk.f3 (b.o.get 2 rfl);go_wp2_with fail;obtain⟨k7,q⟩:=yx (c6.heap.size);obtain⟨j3,j⟩:=yx (c6.alloc (.cells #[.slice H n1 c1] 37));have a:qf c6.heap.size c6 j3:=by rw[j];exact(qb _ _).alloc lr _
 have h:=b.o.new 37 [.slice H n1 c1] q;rw[<- j] at h 
 try rw[<- j]
 try rw[<- q]
 replace b:=vv h;replace f:=vv (f.o.below a);replace g:=vv (g.o.below a);replace p:=vv (p.o.below a);clear e7 e8 e9 f0 f2 f4 f5 f6 j a h q;refine(c5.o _ g.o).mono ?_;rintro e c7 ⟨B1,m1,d1,rfl,hR,-,a⟩;replace b:=vv (b.o.step a);replace f:=vv (f.o.below a);replace g:=vv (g.o.below a);replace p:=vv (p.o.below a);have C:=vv (RN.mk hR);clear a hR;obtain⟨f7,f8⟩:=Blk.f1 (b.o.get 0 rfl);obtain⟨f9,g0,g1,g2⟩:=Blk.f3 (b.o.get 2 rfl);obtain⟨g3,g4,g5,g6⟩:=Blk.f3 (b.o.get 3 rfl);go_wp2_with fail;obtain⟨k8,q⟩:=yx (c7.heap.size);obtain⟨j4,j⟩:=yx (c7.alloc (.cells #[.slice B1 m1 d1] 37));have a:qf c7.heap.size c7 j4:=by rw[j];exact(qb _ _).alloc lr _
 have h:=b.o.new 37 [.slice B1 m1 d1] q;rw[<- j] at h 
 try rw[<- j]
 try rw[<- q]
 replace b:=vv h;replace f:=vv (f.o.below a);replace g:=vv (g.o.below a);replace p:=vv (p.o.below a);replace C:=vv (C.o.below a);clear f7 f8 f9 g0 g1 g2 g3 g4 g5 g6 j a h q;refine(j2.o _ _ _ _ _ _ _ p.o C.o).mono ?_;rintro e c8 ⟨A2,n2,c2,rfl,i9,a⟩;replace b:=vv (b.o.step a);replace f:=vv (f.o.below a);replace g:=vv (g.o.below a);replace p:=vv (p.o.below a);replace C:=vv (C.o.below a);have H3:=vv (RN.mk i9);clear a i9;obtain⟨g7,g8,g9,i0⟩:=Blk.f3 (b.o.get 4 rfl);go_wp2_with fail;obtain⟨k9,q⟩:=yx (c8.heap.size);obtain⟨j5,j⟩:=yx (c8.alloc (.cells #[.slice A2 n2 c2] 37));have a:qf c8.heap.size c8 j5:=by rw[j];exact(qb _ _).alloc lr _
 have h:=b.o.new 37 [.slice A2 n2 c2] q;rw[<- j] at h 
 try rw[<- j]
 try rw[<- q]
 replace b:=vv h;replace f:=vv (f.o.below a);replace g:=vv (g.o.below a);replace p:=vv (p.o.below a);replace C:=vv (C.o.below a);replace H3:=vv (H3.o.below a);clear g7 g8 g9 i0 j a h q;refine(i8.o _ _ _ _ H3.o).mono ?_;rintro e l0 ⟨A9,n9,c9,N9,x9,rfl,G,a⟩;replace b:=vv (b.o.step a);replace f:=vv (f.o.below a);replace g:=vv (g.o.below a);replace p:=vv (p.o.below a);replace C:=vv (C.o.below a);replace H3:=vv (H3.o.below a);have s:=vv G;clear a G;unfold dyG;obtain⟨b9,d2⟩:=yx ((u && qa (0<N9)));rw[<- d2];have j6:=vv d2;clear d2;have i:=vv (b.o.get 3 rfl);go_wp2_with (with_reducible refine q00 rfl 62 (.tmp 4) (.tmp 89) rfl (w.heap.size+1+1) [.bool b9,.slice A9 n9 c9,.int .i64 x9] rfl rfl 62 _ i.o (by kernel_rfl) rfl rfl ?_);intro l1 F t;clear i;have i:=vv (b.o.get 3 rfl);replace b:=vv (b.o.put 3 rfl F t);replace s:=vv (s.o.apart_ i.o rfl t);clear i F t;go_wp2;obtain⟨i1,i2,i3⟩:=Blk.c3 (b.o.get 3 rfl);exact qh (v:=.tuple #[q0q b9 A9 n9 c9 x9,.int .i64 0]) (by simp [results,results149,go_sem,i1,i2,i3]) rfl ⟨A9,n9,c9,N9,x9,by unfold dyG;rw[j6.o],s.o,b.o.low⟩
theorem qdS(ng:Bool)(A:Option Addr)(n c N:Nat)(x:Int)(q:Rat)(B:Option Addr)(d:Nat)(w:qj)(ha:DQ w A n c N x q)(hb:Rd w B 1 d (toL 1))(hres:Rb (q/2)):qk qc 152 #[dyG ng A n c N x,q0q qd B 1 d (-1)] w (DGP ng (q/2) w):=by
 have G:=ha.n_le;have H:DQ w B 1 d 1 (-1) (dq 1 (-1)):=⟨hb,rfl,.inl rfl,by decide,by decide,by decide,fun e=>by subst e;obtain⟨b,off,e',-⟩:=hb.cell (by decide);cases e'⟩;obtain⟨I,J⟩:=yx (dq 1 (-1));rw[<- J] at H;have y:=vv fun w' (k:DQ w' A n c N x q) (k2:DQ w' B 1 d 1 (-1) I)=>q4G ng qd A n c N x q B 1 d 1 (-1) I w' k k2
 have e:dq (N*1) (x + -1)=q/2:=by
  rw[k0G,ha.e];have e2:dq N x=dq N (x + -1)+dq N (x + -1):=by unfold dq;rw[q3d x];grind
  grind
 have K:=vv fun t n1 c1 w' (k:RN w' t n1 c1 (N*1))=>q9T ng t n1 c1 (N*1) (x + -1) w' k.r (k07 (Rtp.rd_le (k:=3) k.r (by rw[k0G];have:=ha.bn;omega)) (by decide)) (by rw[e];exact hres) (by have:=ha.b1;omega) (by have:=ha.b2;omega)
 rw[e] at K;have d9:=vv fun w' (k:DQ w' A n c N x q) (k2:DQ w' B 1 d 1 (-1) I)=>R1.Mul A n c N B 1 d 1 w' k.r k2.r G (by decide) (by rw[k0G,k.r.words];exact G) (by omega)
 unfold dyG at y;have L:ql (∀w',DQ w' A n c N x q->DQ w' B 1 d 1 (-1) I->qk qc 242 #[q0q (ng && qa (0<N)) A n c x,q0q qd B 1 d (-1)] w' fun e w''=>e=.returned (.int .i64 0)/\qf w'.heap.size w' w''):=vv y.o;have e0:=vv fun w=>q11 B 1 d w (by decide)
 have M:N=0->q/2=0:=fun i=>by rw[ha.e,i,q1n];grind
 have z:0<N->(ng && qa (0<N))=ng:=fun i=>by rw[k04 i,k2L]
 have O:N=0->(ng && qa (0<N))=qd:=fun i=>by rw[i];cases ng<;>rfl
 obtain⟨p,P⟩:=yx ((ng && qa (0<N)));show qk qc 152 #[q0q (ng && qa (0<N)) A n c x,q0q qd B 1 d (-1)] w _;rw[<- P] at L z O ⊢;have hb:=H;obtain⟨w0,C⟩:=yx (((w.alloc (.cells #[.bool p,.slice A n c,.int .i64 x] 62)).alloc (.cells #[.bool qd,.slice B 1 d,.int .i64 (-1)] 62)).alloc (.cells #[.bool qd,.slice qe 0 0,.int .i64 0] 62));have l:Cx w [(w.heap.size+1+1,62,[.bool qd,.slice qe 0 0,.int .i64 0]),(w.heap.size+1,62,[.bool qd,.slice B 1 d,.int .i64 (-1)]),(w.heap.size,62,[.bool p,.slice A n c,.int .i64 x])] w0:=by rw[C];exact(((Cx.nil w).new _ [_,_,_] rfl).new _ [_,_,_] (by simp)).new _ [_,_,_] (by simp)
 have a:=vv l;have HW:=vv C;have g:=vv (ha.below l.low);have h:=vv (hb.below l.low);have e5:=ha.b1;have e6:=ha.b2;rcases k01 N with i|i
 ·have D:n=0:=by have:=ha.r.words;rw[i,q0h] at this;exact this.symm
  subst D;rw[M i];have Q:=vv fun w=>q2i A c w
  clear C l ha hb hres i G H J e M z O P y K d9;obtain⟨R,S,T,U⟩:=Blk.f3 (a.o.get 1 rfl);obtain⟨V,W,X,Y⟩:=Blk.f3 (a.o.get 2 rfl);go_enter func152,ntmps152;go_wp2_with fail;rw[<- HW.o];go_wp2_with fail;refine(L.o _ g.o h.o).mono ?_;rintro e w9 ⟨rfl,f⟩;replace a:=vv (a.o.step f);replace g:=vv (g.o.below f);replace h:=vv (h.o.below f);clear R S T U V W X Y f;obtain⟨Z,a0,a1,a2⟩:=Blk.f3 (a.o.get 2 rfl);go_wp2_with fail;refine(Q.o _).mono ?_;rintro e e1 ⟨rfl,f⟩;replace a:=vv (a.o.step f);replace g:=vv (g.o.below f);replace h:=vv (h.o.below f);clear Z a0 a1 a2 f;obtain⟨a3,a4,a5,a6⟩:=Blk.f3 (a.o.get 1 rfl);obtain⟨b3,a7,a8,b4⟩:=Blk.f3 (a.o.get 2 rfl);have j:=vv (a.o.get 0 rfl);go_wp2_with (with_reducible refine q00 rfl 62 (.tmp 4) (.tmp 23) rfl (w.heap.size+1+1) [.bool qd,.slice qe 0 0,.int .i64 0] rfl rfl 62 _ j.o (by kernel_rfl) rfl rfl ?_);intro e7 s m;clear j;have j:=vv (a.o.get 0 rfl);replace a:=vv (a.o.put 0 rfl s m);replace g:=vv (g.o.apart_ j.o rfl m);replace h:=vv (h.o.apart_ j.o rfl m);clear a3 a4 a5 a6 b3 a7 a8 b4 j s m;go_wp2;obtain⟨b5,b6,b7⟩:=Blk.c3 (a.o.get 0 rfl);exact qh (v:=.tuple #[dyG ng qe 0 0 0 0,.int .i64 0]) (by simp [results,results152,go_sem,b5,b6,b7]) rfl ⟨qe,0,0,0,0,rfl,DQ.of_zero (Rd.nil _) (fun _=>rfl),a.o.low⟩
 have D:=q9i ha.r i;have Q:=vv fun w=>q11 A n c w D
 obtain rfl:p=ng:=z i;have e8:(p != qd)=p:=by cases p<;>rfl
 clear C l ha hb hres i G H J e M z O P y D;obtain⟨R,S,T,U⟩:=Blk.f3 (a.o.get 1 rfl);obtain⟨V,W,X,Y⟩:=Blk.f3 (a.o.get 2 rfl);go_enter func152,ntmps152;go_wp2_with fail;rw[<- HW.o];go_wp2_with fail;refine(L.o _ g.o h.o).mono ?_;rintro e w9 ⟨rfl,f⟩;replace a:=vv (a.o.step f);replace g:=vv (g.o.below f);replace h:=vv (h.o.below f);clear R S T U V W X Y f;obtain⟨Z,a0,a1,a2⟩:=Blk.f3 (a.o.get 2 rfl);go_wp2_with fail;refine(Q.o _).mono ?_;rintro e e1 ⟨rfl,f⟩;replace a:=vv (a.o.step f);replace g:=vv (g.o.below f);replace h:=vv (h.o.below f);clear Z a0 a1 a2 f;obtain⟨a3,a4,a5,a6⟩:=Blk.f3 (a.o.get 1 rfl);go_wp2_with fail;refine(e0.o _).mono ?_;rintro e e9 ⟨rfl,f⟩;replace a:=vv (a.o.step f);replace g:=vv (g.o.below f);replace h:=vv (h.o.below f);clear a3 a4 a5 a6 f;obtain⟨a7,a8,b8,c0⟩:=Blk.f3 (a.o.get 1 rfl);obtain⟨c2,c4,c5,c6⟩:=Blk.f3 (a.o.get 2 rfl);go_wp2_with fail;refine(d9.o _ g.o h.o).mono ?_;rintro e E ⟨t,n1,c1,rfl,hR,f⟩;replace a:=vv (a.o.step f);replace g:=vv (g.o.below f);replace h:=vv (h.o.below f);have u:=vv (RN.mk hR);clear a7 a8 b8 c0 c2 c4 c5 c6 f hR;obtain⟨c7,c8,d0,d1⟩:=Blk.f3 (a.o.get 1 rfl);obtain⟨d2,d3,d4,d5⟩:=Blk.f3 (a.o.get 2 rfl);go_wp2_with fail;obtain⟨f0,a9⟩:=yx (E.heap.size);obtain⟨e3,F⟩:=yx (E.alloc (.cells #[.slice t n1 c1] 37));have f:qf E.heap.size E e3:=by rw[F];exact(qb _ _).alloc lr _
 have l:=a.o.new 37 [.slice t n1 c1] a9;rw[<- F] at l 
 try rw[<- F]
 try rw[<- a9]
 replace a:=vv l;replace g:=vv (g.o.below f);replace h:=vv (h.o.below f);replace u:=vv (u.o.below f);clear c7 c8 d0 d1 d2 d3 d4 d5 F f l a9;refine(K.o _ _ _ _ u.o).mono ?_;rintro e f1 ⟨A9,n9,c9,N9,x9,rfl,hD,f⟩;replace a:=vv (a.o.step f);replace g:=vv (g.o.below f);replace h:=vv (h.o.below f);replace u:=vv (u.o.below f);have HD:=vv hD;clear f hD;unfold dyG;obtain⟨b9,b0⟩:=yx ((p && qa (0<N9)));rw[<- b0];have e4:=vv b0;clear b0;have j:=vv (a.o.get 1 rfl);go_wp2_with (with_reducible refine q00 rfl 62 (.tmp 4) (.tmp 48) rfl (w.heap.size+1+1) [.bool b9,.slice A9 n9 c9,.int .i64 x9] rfl rfl 62 _ j.o (by kernel_rfl) rfl rfl ?_);intro f2 s m;clear j;have j:=vv (a.o.get 1 rfl);replace a:=vv (a.o.put 1 rfl s m);replace HD:=vv (HD.o.apart_ j.o rfl m);clear j s m;go_wp2;obtain⟨d6,d7,d8⟩:=Blk.c3 (a.o.get 1 rfl);exact qh (v:=.tuple #[q0q b9 A9 n9 c9 x9,.int .i64 0]) (by simp [results,results152,go_sem,d6,d7,d8]) rfl ⟨A9,n9,c9,N9,x9,by unfold dyG;rw[e4.o],HD.o,a.o.low⟩
theorem qcY(ng:Bool)(A:Option Addr)(n c N:Nat)(x:Int)(q:Rat)(w:qj)(h:DQ w A n c N x q):qk qc 153 #[dyG ng A n c N x] w (RvP (sq ng q) w):=by
 have Q:=vv fun w' (k:DQ w' A n c N x q)=>Check_ok ng A n c N x q w' k
 unfold dyG at Q ⊢;have c7:sq ng q=sq (ng && qa (0<N)) q:=by
  rcases k01 N with k|k
  ·rw[k,h.e,k,q1n];cases ng
   ·rfl
   ·show -(0:Rat)=0
    grind
  ·rw[k04 k,k2L]
 have Z:(ng && qa (0<N))=qo->0<N:=fun k=>k1h (by simpa using (Bool.and_eq_true_iff.1 k).2)
 rw[c7];obtain⟨neg,a0⟩:=yx ((ng && qa (0<N)));rw[<- a0] at Z Q ⊢;obtain⟨w0,R⟩:=yx ((w.alloc (.cells #[.bool neg,.slice A n c,.int .i64 x] 62)).alloc (.cells #[.bool qd,.slice qe 0 0,.slice qe 0 0] 39));have g:Cx w [(w.heap.size+1,39,[.bool qd,.slice qe 0 0,.slice qe 0 0]),(w.heap.size,62,[.bool neg,.slice A n c,.int .i64 x])] w0:=by rw[R];exact((Cx.nil w).new _ [_,_,_] rfl).new _ [_,_,_] (by simp)
 have hn:=h.n_le;have d2:=h.bn;have e8:=h.b1;have e9:=h.b2;have S:=q7q h.o Z;obtain⟨T,U⟩:=q4d (neg:=neg) h.o;have hq:=h.e;rw[<- hq] at S T U;have a1:(sq neg q).num.natAbs=N*2^(max x 0).toNat:=by rw[T,q0Z];unfold p2;rw[show(max x 0).toNat=x.toNat by omega]
 have a2:(sq neg q).den=1*2^(max (-x) 0).toNat:=by rw[U,k0S];unfold p2;rw[show(max (-x) 0).toNat=(-x).toNat by omega]
 obtain⟨Pn,V⟩:=yx ((sq neg q).num.natAbs);obtain⟨Pd,W⟩:=yx ((sq neg q).den);have c8:=vv fun w' (k:DQ w' A n c N x q)=>R1.Up A n c N (max x 0).toNat w' k.r hn (by omega)
 rw[<- a1,<- V,show(((max x 0).toNat:Nat):Int)=max x 0 by omega] at c8;have G:=vv fun O P c2 w' (k:RN w' O P c2 1)=>R1.Up O P c2 1 (max (-x) 0).toNat w' k.r (by rw[<- k.r.words];decide) (by have:bl 1=1:=rfl;omega)
 rw[<- a2,<- W,show(((max (-x) 0).toNat:Nat):Int)=max (-x) 0 by omega] at G;have d3:=vv S;have d4:=vv V;have d5:=vv W;have f0:IntKind.i64.wrap (-x) = -x:=qn _ (by omega);have d:=vv (h.below g.low);have b:=vv g;have HW:=vv R;clear R g h S T U hq a1 a2 V W Z hn d2 c7 a0;obtain⟨d6,d7,d8,d9⟩:=Blk.f3 (b.o.get 1 rfl);go_enter func153,ntmps153;go_wp2_with fail;rw[<- HW.o];go_wp2_with fail;refine(Q.o _ d.o).mono ?_;rintro e w5 ⟨rfl,a⟩;replace b:=vv (b.o.step a);replace d:=vv (d.o.below a);clear d6 d7 d8 d9 a;obtain⟨e0,e1,e2,e3⟩:=Blk.f3 (b.o.get 1 rfl);go_wp2_with fail;refine(c8.o _ d.o).mono ?_;rintro e H ⟨E,n1,c1,rfl,c9,-,a⟩;replace b:=vv (b.o.step a);replace d:=vv (d.o.below a);have f:=vv (RN.mk c9);clear e0 e1 e2 e3 a c9;obtain⟨a6,a7,a8,a9⟩:=Blk.f3 (b.o.get 1 rfl);go_wp2_with fail;obtain⟨f2,X⟩:=yx (H.heap.size);obtain⟨I,J⟩:=yx (H.alloc (.cells #[.slice E n1 c1] 37));have a:qf H.heap.size H I:=by rw[J];exact(qb _ _).alloc lr _
 have g:=b.o.new 37 [.slice E n1 c1] X;rw[<- J] at g 
 try rw[<- J]
 try rw[<- X]
 replace b:=vv g;replace d:=vv (d.o.below a);replace f:=vv (f.o.below a);clear a6 a7 a8 a9 J a g X;obtain⟨a3,a4,a5,b0⟩:=Blk.f3 (b.o.get 2 rfl);refine q02 (fun w'=>w'.cell? ⟨w.heap.size,0,qe⟩=qg (.bool neg)/\w'.cell? ⟨w.heap.size,1,qe⟩=qg (.slice A n c)/\w'.cell? ⟨w.heap.size,2,qe⟩=qg (.int .i64 x)) 11
  (.still 1 (.still 2 (.still 3 (.still 4 (.two 0 (.two 5 (.still 6 (.still 7 (.still 8 (.one 9 (.one 10 .done))))) 9 (.one 5 (.still 6 (.still 7 (.still 8 (.one 10 .done)))))) 9 (.one 0 (.one 5 (.still 6 (.still 7 (.still 8 (.one 10 .done))))))))))) ⟨a3,a4,a5⟩ (fun e4=>?_)
 iterate 4
  refine q03 ?_
 clear b0 a3 a4 a5;obtain⟨y,Y⟩:=yx (I.drew);have a:qf I.heap.size I y:=by rw[Y];exact q05 (qb _ _)
 replace b:=vv (b.o.step a);replace d:=vv (d.o.below a);replace f:=vv (f.o.below a);rw[<- Y] at e4 ⊢;clear Y a;refine q0e rfl (by rfl) rfl (by rfl) (fun K hK=>?_) (fun K hK=>?_)
 focus
  go_simp;refine(R1.Of1 y).mono ?_;rintro e L ⟨O,P,c2,rfl,C,a⟩;replace b:=vv (b.o.step a);replace d:=vv (d.o.below a);replace f:=vv (f.o.below a);have i:=vv (RN.mk C);clear a C;go_wp2_with fail;refine hK.out _ _ (Blk.c3 (b.o.get 2 rfl)) (fun t=>?_);clear hK;refine q0e rfl (by rfl) rfl (by rfl) (fun K hK=>?_) (fun K hK=>?_)
  focus
   go_simp;refine(G.o _ _ _ _ i.o).mono ?_;rintro e M ⟨z,n3,c3,rfl,u,-,a⟩;replace b:=vv (b.o.step a);replace d:=vv (d.o.below a);replace f:=vv (f.o.below a);replace i:=vv (i.o.below a);have s:=vv (RN.mk u);clear a u;go_wp2_with fail;refine hK.out _ _ (Blk.c3 (b.o.get 2 rfl)) (fun t=>?_);clear hK
   iterate 3
    refine q03 ?_
   refine q01 rfl (by rfl) (fun K hK=>?_);go_simp;obtain⟨ga,m⟩:=yx (M.heap.size);obtain⟨d0,j⟩:=yx (M.alloc (.cells #[.slice qe 0 0] 37));have a:qf M.heap.size M d0:=by rw[j];exact(qb _ _).alloc lr _
   have g:=b.o.new 37 [.slice qe 0 0] m;rw[<- j] at g
   try rw[<- j]
   try rw[<- m]
   replace b:=vv g;replace d:=vv (d.o.below a);replace f:=vv (f.o.below a);replace i:=vv (i.o.below a);replace s:=vv (s.o.below a);clear a g j m;refine hK.out _ _ (Blk.c3 (b.o.get 3 rfl)) (fun t=>?_);clear hK;obtain⟨wz,F⟩:=yx (d0);subst F
  rotate_left 1
  focus
   go_simp;obtain⟨ga,m⟩:=yx (L.heap.size);obtain⟨e5,j⟩:=yx (L.alloc (.cells #[.slice qe 0 0] 37));have a:qf L.heap.size L e5:=by rw[j];exact(qb _ _).alloc lr _
   have g:=b.o.new 37 [.slice qe 0 0] m;rw[<- j] at g
   try rw[<- j]
   try rw[<- m]
   replace b:=vv g;replace d:=vv (d.o.below a);replace f:=vv (f.o.below a);replace i:=vv (i.o.below a);clear a g j m;refine hK.out _ _ (Blk.c3 (b.o.get 3 rfl)) (fun t=>?_);clear hK;refine q01 rfl (by rfl) (fun K hK=>?_);go_simp;refine(G.o _ _ _ _ i.o).mono ?_;rintro e e6 ⟨z,n3,c3,rfl,u,-,a⟩;replace b:=vv (b.o.step a);replace d:=vv (d.o.below a);replace f:=vv (f.o.below a);replace i:=vv (i.o.below a);have s:=vv (RN.mk u);clear a u;go_wp2_with fail;refine hK.out _ _ (Blk.c3 (b.o.get 3 rfl)) (fun t=>?_);clear hK
   iterate 3
    refine q03 ?_
   obtain⟨wz,F⟩:=yx (e6);subst F
 rotate_left 2
 focus
  go_simp;obtain⟨ga,m⟩:=yx (y.heap.size);obtain⟨d1,j⟩:=yx (y.alloc (.cells #[.slice qe 0 0] 37));have a:qf y.heap.size y d1:=by rw[j];exact(qb _ _).alloc lr _
  have g:=b.o.new 37 [.slice qe 0 0] m;rw[<- j] at g
  try rw[<- j]
  try rw[<- m]
  replace b:=vv g;replace d:=vv (d.o.below a);replace f:=vv (f.o.below a);clear a g j m;refine hK.out _ _ (Blk.c3 (b.o.get 3 rfl)) (fun t=>?_);clear hK;refine q01 rfl (by rfl) (fun K hK=>?_);go_simp;refine(R1.Of1 d1).mono ?_;rintro e f4 ⟨O,P,c2,rfl,C,a⟩;replace b:=vv (b.o.step a);replace d:=vv (d.o.below a);replace f:=vv (f.o.below a);have i:=vv (RN.mk C);clear a C;go_wp2_with fail;refine hK.out _ _ (Blk.c3 (b.o.get 3 rfl)) (fun t=>?_);clear hK;refine q01 rfl (by rfl) (fun K hK=>?_);go_simp;refine(G.o _ _ _ _ i.o).mono ?_;rintro e e7 ⟨z,n3,c3,rfl,u,-,a⟩;replace b:=vv (b.o.step a);replace d:=vv (d.o.below a);replace f:=vv (f.o.below a);replace i:=vv (i.o.below a);have s:=vv (RN.mk u);clear a u;go_wp2_with fail;refine hK.out _ _ (Blk.c3 (b.o.get 3 rfl)) (fun t=>?_);clear hK
  iterate 3
   refine q03 ?_
  obtain⟨wz,F⟩:=yx (e7);subst F
 all_goals
  refine q01 rfl (by rfl) (fun K hK=>?_);have l:=vv (b.o.get 0 rfl)
  with_reducible refine q0b 37 (.tmp 6) (.tmp 30) rfl ga [.slice z n3 c3] rfl rfl 37 _ l.o (by kernel_rfl) rfl rfl ?_
  intro f5 D p;replace b:=vv (b.o.put 0 rfl D p);replace d:=vv (d.o.apart_ l.o rfl p);replace f:=vv (f.o.apart_ l.o rfl p);replace i:=vv (i.o.apart_ l.o rfl p);replace s:=vv (s.o.apart_ l.o rfl p);clear l D p;refine hK.out _ _ (Blk.c3 (b.o.get 3 rfl)) (fun t=>?_);clear hK;refine q08 ?_;simp only[k0o,k0w];obtain⟨b3,b4⟩:=Blk.f1 (b.o.get 0 rfl);obtain⟨b5,b6⟩:=Blk.f1 (b.o.get 1 rfl);obtain⟨b7,b8,b9,c0⟩:=Blk.f3 (b.o.get 3 rfl);have l:=vv (b.o.get 2 rfl);go_wp2_with (with_reducible refine q00 rfl 39 (.tmp 2) (.tmp 43) rfl (w.heap.size+1) [.bool neg,.slice E n1 c1,.slice z n3 c3] rfl rfl 39 _ l.o (by kernel_rfl) rfl rfl ?_);intro f6 D p;clear l;have l:=vv (b.o.get 2 rfl);replace b:=vv (b.o.put 2 rfl D p);replace f:=vv (f.o.apart_ l.o rfl p);replace s:=vv (s.o.apart_ l.o rfl p);clear b3 b4 b5 b6 b7 b8 b9 c0 l D p;go_wp2;obtain⟨c4,c5,c6⟩:=Blk.c3 (b.o.get 2 rfl);exact qh (v:=.tuple #[q0m neg E n1 c1 z n3 c3,.int .i64 0]) (by simp [results,results153,go_sem,c4,c5,c6]) rfl ⟨⟨neg,E,n1,c1,z,n3,c3⟩,rfl,⟨d3.o,by rw[<- d4.o];exact f.o.r,by rw[<- d5.o];exact s.o.r⟩,b.o.low⟩
end R4
namespace R18
open Go Go.RowKit R5 Sh Rtp
structure IvA(w:qj)(gl gh:Nat)(s:Span):Prop where
 l:q0l w gl s.lo
 h:q0l w gh s.hi
theorem IvA.below{w w':qj}{gl gh:Nat}{s:Span}(k:IvA w gl gh s)(hb:qf w.heap.size w w'):IvA w' gl gh s:=⟨k.l.below hb,k.h.below hb⟩
abbrev ivV(gl gh:Nat)(s:Span):Go.Value:=.agg #[.pointer (qg ⟨gl,0,qe⟩),.pointer (qg ⟨gh,0,qe⟩),.bool s.li,.bool s.hn]
theorem qd9(gl gh gv:Nat)(s:Span)(v:Rat)(w:qj)(hs:IvA w gl gh s)(hv:q0l w gv v)(s1:Qb 1000000 s.lo)(s2:Qb 1000000 s.hi)(s3:Qb 1000000 v):qk qc 47 #[ivV gl gh s,.pointer (qg ⟨gv,0,qe⟩)] w fun e w'=>e=.returned (.bool (s.has v))/\qf w.heap.size w w':=by
 obtain⟨p,r⟩:=yx (s.li);obtain⟨q,t⟩:=yx (s.hn);show qk qc 47 #[.agg #[.pointer (qg ⟨gl,0,qe⟩),.pointer (qg ⟨gh,0,qe⟩),.bool s.li,.bool s.hn],.pointer (qg ⟨gv,0,qe⟩)] w _;obtain⟨L,n⟩:=yx (w.alloc (.cells #[.pointer (qg ⟨gl,0,qe⟩),.pointer (qg ⟨gh,0,qe⟩),.bool p,.bool q] 73));have m:Cx w [(w.heap.size,73,[.pointer (qg ⟨gl,0,qe⟩),.pointer (qg ⟨gh,0,qe⟩),.bool p,.bool q])] L:=by rw[n];exact(Cx.nil w).new _ [_,_,_,_] rfl
 have d:=vv (hs.below m.low);have f:=vv (hv.below m.low);have u:=vv fun w' (k:q0l w' gv v) (k2:q0l w' gl s.lo)=>qd4 gv gl v s.lo w' k k2 s3 s1
 have x:=vv fun w' (k:q0l w' gv v) (k2:q0l w' gh s.hi)=>qd4 gv gh v s.hi w' k k2 s3 s2
 obtain⟨a,i⟩:=yx (q1s v s.lo);obtain⟨g,j⟩:=yx (q1s v s.hi);have y:s.has v=((qa (0<a) || (a==0 && s.li)) && (qa (g<0) || (g==0 && s.hn))):=by
  have M:q1s s.lo v = -a:=by rw[i];exact q4X v s.lo
  unfold Span.has;rw[M,<- j];have N:qa (-a<0)=qa (0<a):=by rw[k1y];omega
  have O:(-a==0)=(a==0):=by
   by_cases k:a=0
   ·rw[k];rfl
   ·rw[k05.2 k,k05.2 (by omega)]
  rw[N,O]
 have P:a = -1\/a=0\/a=1:=by rw[i];exact Sho.cmp3 _ _
 have Q:g = -1\/g=0\/g=1:=by rw[j];exact Sho.cmp3 _ _
 rw[y];rw[<- i] at u;rw[<- j] at x;have c:=vv m;have R:=vv n;rw[<- r,<- t];clear n m hs hv s1 s2 s3 i j y r t;obtain⟨z,C,D,E,F⟩:=Go.Proofs.YtabcgemembkkcaaGreatDoor.Scn.Blk.f4 (c.o.get 0 rfl);go_enter func47,ntmps47;go_wp2_with fail;rw[<- R.o];refine(u.o _ f.o d.o.l).mono ?_;rintro e Y ⟨rfl,b⟩;replace c:=vv (c.o.step b);replace d:=vv (d.o.below b);replace f:=vv (f.o.below b);clear z C D E F b;obtain⟨G,H,I,J,K⟩:=Go.Proofs.YtabcgemembkkcaaGreatDoor.Scn.Blk.f4 (c.o.get 0 rfl);go_wp2_with fail;refine(x.o _ f.o d.o.h).mono ?_;rintro e S ⟨rfl,b⟩;replace c:=vv (c.o.step b);replace d:=vv (d.o.below b);replace f:=vv (f.o.below b);clear G H I J K b;obtain⟨T,U,V,W,X⟩:=Go.Proofs.YtabcgemembkkcaaGreatDoor.Scn.Blk.f4 (c.o.get 0 rfl);rcases P with rfl|rfl|rfl<;>rcases Q with rfl|rfl|rfl<;>cases p<;>cases q;all_goals
  go_wp2;go_ret;exact⟨rfl,c.o.low⟩
theorem q3f(g gx gy y:Nat)(w:qj)(h:IntAt w g 0 0)(hx:IntAt w gx 0 10)(hy:IntAt w gy 0 (y:Int))(hb:y<=20000000):qk qc 200 #[.pointer (qg ⟨g,0,qe⟩),.pointer (qg ⟨gx,0,qe⟩),.pointer (qg ⟨gy,0,qe⟩),.pointer qe] w (q75 g 0 ((10^y:Nat):Int) w):=by
 rcases k01 y with e|e
 ·subst e;exact B.Exp0 g 0 gx 0 gy 0 0 10 w h hx hy
 ·exact B.Exp g 0 gx 0 gy 0 0 10 y w h hx hy (by decide) e (by have:=q5V y;unfold Sz;omega) (by unfold Sz;have:bl y<=y:=q0A k2m;omega)
def qdc(k:Int)(w:qj)(e:Ending)(w':qj):Prop:=∃g,e=.returned (.pointer (qg ⟨g,0,qe⟩))/\w.heap.size<=g/\q0l w' g (tp k)/\qf w.heap.size w w'
theorem power_(k:Int)(w:qj)(h1:-20000<=k)(h2:k<=20000)(hst:Std w):qk qc 158 #[.int .i64 k] w (qdc k w):=by
 obtain⟨y,J⟩:∃y:Nat,y=k.natAbs:=⟨_,rfl⟩;have z:max k (-k)=(y:Int):=by omega
 have a4:y<=20000:=by omega
 have b4:(y:Int)<=20000:=by omega
 have a5:=vv fun w'=>B.NewInt 10 w' (by decide) (by decide)
 have a6:=vv fun w'=>B.NewInt 1 w' (by decide) (by decide)
 have a7:=vv fun w'=>B.NewInt (y:Int) w' (by omega) (by omega)
 have O:=vv fun g gx gy w' (h:IntAt w' g 0 0) (hx:IntAt w' gx 0 10) (J:IntAt w' gy 0 (y:Int))=>q3f g gx gy y w' h hx J (by omega)
 have j:0<=k->tp k=(((10^y:Nat):Int):Rat):=fun h=>by rw[show k=((y:Nat):Int) by omega,q24,k0J]
 have l:k<0->tp k*((10^y:Nat):Rat)=((1:Int):Rat):=fun h=>by rw[<- q24,<- q2T,show k+(y:Int)=0 by omega];rfl
 have K:0<10^y:=k1g (by decide);have C:Sz (10^y):=by have:=q5V y;unfold Sz;omega
 obtain⟨T,hT⟩:=yx (10^y);rw[<- hT] at O j l K C;obtain⟨q,L⟩:=yx (tp k);unfold qdc;rw[<- L];rw[<- L] at j l;have D:=vv j;have E:=vv l;have HP:=vv K;have HS:=vv C;have HY:=vv z;have a8:=vv hst;have b5:IntKind.i64.wrap (-k) = -k:=by rw[qm];omega
 obtain⟨w1,m⟩:=yx (w.alloc (.cells #[.bool qd,.slice qe 0 0] 82));obtain⟨g,M⟩:=yx (w.heap.size);have P:qf w.heap.size w w1:=by rw[m];exact(qb _ _).alloc lr _
 have Q:IntAt w1 g 0 0:=by rw[m,M];exact IntAt.zero _ _
 have b:=vv P;have c:=vv Q;have HW:=vv m;have HG:=vv M;clear J hst j l K C hT L m M P Q a4;go_enter func158,ntmps158;go_wp2_with fail;rw[<- HW.o,<- HG.o];clear HW;refine(a5.o _).mono ?_;rintro e w2 ⟨gT,rfl,a9,R,F⟩;have c:=vv (c.o.below F);have b:=vn b F;have n:=vv R;clear R F a9;have z:=HY.o;go_wp2_with fail;clear z;refine(a7.o _).mono ?_;rintro e w3 ⟨gY,rfl,b0,S,p⟩;have c:=vv (c.o.below p);have b:=vn b p;have n:=vv (n.o.below p);have U:=vv S;clear S p b0;go_wp2_with fail;refine(O.o g gT gY _ c.o n.o U.o).mono ?_;rintro e v hP;have V:=hP.below b.o b.o.size (by rw[HG.o];exact lr);obtain⟨rfl,W,-⟩:=hP;have c:=vv W;have b:=vv V;clear W V n U;obtain⟨w5,r⟩:=yx (v.alloc (.cells #[.bool qd,.slice qe 0 0,.slice qe 0 0] 87));obtain⟨d,s⟩:=yx (v.heap.size);have G:qf v.heap.size v w5:=by rw[r];exact(qb _ _).alloc lr _
 have X:q0l w5 d 0:=by rw[r,s];exact q0l.zero _ _
 have x:=vv X;have Y:=vv (c.o.below G);have Z:=vn b G;have t:ql (w.heap.size<=d):=vv (by rw[s];exact b.o.size);have a0:=vv r;have a1:=vv s;clear G X r s c b;by_cases hk:k<0
 ·have N:=vv (E.o hk);clear D E;go_wp2_with fail;rw[<- a0.o,<- a1.o];refine(a6.o _).mono ?_;rintro e w6 ⟨gO,rfl,b1,a2,u⟩;have x:=vv (x.o.below u);have b2:=vv (Y.o.below u);have a3:=vn Z u;have b3:=vv a2;clear a2 u b1;go_wp2_with fail;refine(q9u (a:=w) d gO g 1 T q _ x.o t.o a3.o b3.o b2.o HP.o N.o (show Sz (1:Int).natAbs by unfold Sz;decide) HS.o (a8.o.fs (Fs.of_nil a3.o))).mono ?_;rintro e w7 ⟨rfl,f,i⟩;have H:=vv f;have I:=vv i;clear f i;go_wp2;go_ret;exact⟨d,rfl,t.o,H.o,I.o⟩
 ·have N:=vv (D.o (by omega));clear D E;go_wp2_with fail;rw[<- a0.o,<- a1.o];refine(q5w (a:=w) d g _ _ x.o t.o Z.o Y.o).mono ?_;rintro e w7 ⟨rfl,f,i⟩;rw[<- N.o] at f;have H:=vv f;have I:=vv i;clear f i;go_wp2;go_ret;exact⟨d,rfl,t.o,H.o,I.o⟩
theorem qcD(neg:Bool)(s:ByteArray)(x:Int)(w:qj)(h0:0<s.size)(h1:s.size<=65536)(hd:48<=s[s.size-1].toNat):qk qc 164 #[q3J neg s x] w fun e w'=>e=.returned (.bool (s[s.size-1].toNat%2==0))/\qf w.heap.size w w':=by
 obtain⟨f,a⟩:=yx (w.alloc (.cells #[.bool neg,.string s,.int .i64 x] 27));have g:Cx w [(w.heap.size,27,[.bool neg,.string s,.int .i64 x])] f:=by rw[a];exact(Cx.nil w).new _ [_,_,_] rfl
 have t:s.size-1<s.size:=by omega
 have l:(1:Int)<=(s.size:Int):=by omega
 have m:(s.size:Int)<=65536:=by omega
 obtain⟨c,b⟩:=yx (s[s.size-1].toNat);have h:s[s.size-1].toNat=c:=b.symm;have n:c<256:=by rw[b];exact UInt8.toNat_lt _
 have p:(c:Int)<256:=by omega
 rw[h] at hd ⊢;have q:(48:Int)<=(c:Int):=by omega
 have i:ql ((((c:Int)-48)%2==0)=(c%2==0)):=vv (by
  by_cases k:c%2=0
  ·rw[k1D.2 k,k1D.2 (by omega)]
  ·rw[k05.2 k,k05.2 (by omega)])
 have d:=vv g;have j:=vv a;clear a g b;have r:f.cell? ⟨w.heap.size,1,qe⟩=qg (.string s):=(d.o.get 0 rfl).cell 1;have u:=(d.o.get 0 rfl).lt;go_enter func164,ntmps164;go_wp2;go_ret;exact⟨q56 i.o,by rw[<- j.o];exact d.o.low⟩
theorem q9q(N:Nat):B.itoS (N:Int)=q0J N:=by unfold B.itoS q0J Lib.itoa;rw[k0r (by omega)];rfl
theorem qdQ(g N:Nat)(w:qj)(h:IntAt w g 0 (N:Int))(hb:bl N<=1280):qk qc 254 #[.pointer (qg ⟨g,0,qe⟩)] w fun e w'=>e=.returned (.string (q0J N))/\qf w.heap.size w w':=by
 have:=B.String_ g 0 (N:Int) w h hb
 rwa [q9q] at this
theorem qec(g:Nat)(q:Rat)(w:qj)(h:q0l w g q):qk qc 102 #[.pointer (qg ⟨g,0,qe⟩)] w (q0W q.num w):=by
 have:=B.Num g _ _ w h
 rwa [(low_num q.den_pos).1,k2E] at this
theorem qej(g:Nat)(q:Rat)(w:qj)(h:q0l w g q):qk qc 103 #[.pointer (qg ⟨g,0,qe⟩)] w (q0W (q.den:Int) w):=by
 have:=B.Denom g _ _ w h
 rwa [(low_num q.den_pos).2,k2E] at this
theorem qdj(g:Nat)(v:Rat)(w:qj)(h:q0l w g v)(hv:0<v)(hs:Qb 1280 v)(hst:Std w):qk qc 157 #[.pointer (qg ⟨g,0,qe⟩)] w fun e w'=>e=.returned (.int .i64 (top v))/\qf w.heap.size w w':=by
 have T:=q18 hv;have U:=q2o (n:=v.num.natAbs) (by omega);have V:=q2o v.den_pos;have M:=hs.1;have N:=hs.2;have W:ql (∀w',q0l w' g v->qk qc 102 #[.pointer (qg ⟨g,0,qe⟩)] w' (q0W ((v.num.natAbs:Nat):Int) w')):=vv fun w' k=>by
  have:=qec g v w' k
  rwa [show v.num=((v.num.natAbs:Nat):Int) by omega] at this
 have X:=vv fun w' (k:q0l w' g v)=>qej g v w' k
 have E:=vv fun g w' (k:IntAt w' g 0 ((v.num.natAbs:Nat):Int))=>qdQ g _ w' k M
 have F:=vv fun g w' (k:IntAt w' g 0 (v.den:Int))=>qdQ g _ w' k N
 obtain⟨s,G⟩:=yx (q0J v.num.natAbs);obtain⟨u,H⟩:=yx (q0J v.den);have x:=q0z v.num.natAbs;have y:=q0z v.den;rw[<- G] at E x;rw[<- H] at F y;obtain⟨k,z⟩:∃k:Int,k=(s.size:Int)-(u.size:Int):=⟨_,rfl⟩;have Z:-3000<=k:=by omega
 have a2:k<=3000:=by omega
 have a0:(s.size:Int)<=3000:=by omega
 have a1:(u.size:Int)<=3000:=by omega
 have m:=vv fun w' hs=>power_ k w' (by omega) (by omega) hs
 have p:=vv fun C w' (h1:q0l w' g v) (h2:q0l w' C (tp k))=>qd4 g C v _ w' h1 h2 (hs.mono (by decide)) ((Qb.tp k).mono (by omega))
 have I:top v=if v<tp k then k-1 else k:=by unfold top;rw[z,x,y]
 obtain⟨l,j⟩:=yx (q1s v (tp k));rw[<- j] at p;have J:top v=if l<0 then k-1 else k:=by
  rw[I];by_cases h:v<tp k
  ·rw[k0p h,k0p (by rw[j];exact q3y.2 h)]
  ·rw[k0r h,k0r (by rw[j];exact fun a=>h (q3y.1 a))]
 have q:=vv J;have a3:(s.size:Int)-(u.size:Int)=k:=z.symm;have d:=vv h;have R:=vv hst;have c:=vv (qb w.heap.size w);unfold qdc at m;obtain⟨O,K⟩:=yx (top v);rw[<- K] at q ⊢;obtain⟨pq,L⟩:=yx (tp k);rw[<- L] at m p;clear T U V M N G H x y z I j J h hst hs hv K L;go_enter func157,ntmps157;go_wp2_with fail;refine(W.o _ d.o).mono ?_;rintro e w1 ⟨Y,rfl,r,f,b⟩;replace c:=vn c b;replace d:=vv (d.o.below b);have i:=vv f;clear r f b;go_wp2_with fail;refine(E.o _ _ i.o).mono ?_;rintro e w2 ⟨rfl,b⟩;replace c:=vn c b;replace d:=vv (d.o.below b);clear b i;go_wp2_with fail;refine(X.o _ d.o).mono ?_;rintro e w3 ⟨Y,rfl,r,f,b⟩;replace c:=vn c b;replace d:=vv (d.o.below b);have i:=vv f;clear r f b;go_wp2_with fail;refine(F.o _ _ i.o).mono ?_;rintro e w4 ⟨rfl,b⟩;replace c:=vn c b;replace d:=vv (d.o.below b);clear b i;go_wp2_with fail;refine(m.o _ (R.o.fs (Fs.of_nil c.o))).mono ?_;rintro e w5 ⟨C,rfl,S,P,b⟩;replace c:=vn c b;replace d:=vv (d.o.below b);have Q:=vv P;clear S P b;go_wp2_with fail;refine(p.o _ _ d.o Q.o).mono ?_;rintro e w6 ⟨rfl,b⟩;replace c:=vn c b;clear b Q;by_cases hc:l<0
 ·have t:qa (l<0)=qo:=k04 hc;have D:ql (O=k-1):=vv (by rw[q.o,k0p hc]);clear hc;go_wp2;go_ret;exact⟨q0X D.o.symm,c.o⟩
 ·have t:qa (l<0)=qd:=k02 hc;have D:ql (O=k):=vv (by rw[q.o,k0r hc]);clear hc;go_wp2;go_ret;exact⟨q0X D.o.symm,c.o⟩
theorem q6s{n:Nat}(h:0<n):∀k,Lib.decDigits (n*10^k)=Lib.decDigits n++List.replicate k 48
 | 0=>by rw[k0B,k0G];simp
 | k+1=>by
  have h1:n*10^(k+1)=(n*10^k)*10:=by rw[k0d,k0j]
  have a:0<n*10^k:=k0N h (k1g (by decide));rw[h1,q2Z (by omega),k2S _ (by decide),Nat.mul_mod_left,q6s h k,List.append_assoc,List.replicate_succ'];rfl
theorem q3e{N:Nat}(h:0<N):(q0J N).data.toList=(q0J (q0E N)).data.toList++List.replicate (Go.Proofs.YtabcgemembkkcaaGreatDoor.Sh.tz N) 48:=by rw[q1L,q1L,<- q6s (q5h h),q5i h]
theorem qbW{N j:Nat}(h:0<N)(hj:j<(q0J N).size)(hl:q0K (q0E N)<=j):(q0J N)[j].toNat=48:=by
 have e:(q0J N)[j]=(q0J N).data.toList[j]'(by rw[q1e];exact hj):=rfl;have a:(q0J (q0E N)).data.toList.length=q0K (q0E N):=by rw[q1e,q0z]
 rw[e];simp only[q3e h];rw[List.getElem_append_right (by omega),List.getElem_replicate];rfl
theorem q8W{N:Nat}(h:0<N)(hj:q0K (q0E N)-1<(q0J N).size):(q0J N)[q0K (q0E N)-1].toNat≠48:=by
 have e:(q0J N)[q0K (q0E N)-1]=(q0J N).data.toList[q0K (q0E N)-1]'(by rw[q1e];exact hj):=rfl;have c:=q16 (q0E N);have b:(q0J (q0E N)).data.toList.length=q0K (q0E N):=by rw[q1e,q0z]
 have a:q0K (q0E N)-1<(q0J (q0E N)).size:=by rw[q0z];omega
 rw[e];simp only[q3e h];rw[List.getElem_append_left (by omega)];have:=q2v (q0E N) a;have d:=q7o h;show(q0J (q0E N))[q0K (q0E N)-1].toNat≠48;omega
theorem qax{N:Nat}(h:0<N):(q0J N).extract 0 (q0K (q0E N))=q0J (q0E N):=by
 refine ByteArray.ext (Array.toList_inj.1 ?_);have a:(q0J (q0E N)).data.toList.length=q0K (q0E N):=by rw[q1e,q0z]
 rw[q7H,k0w,q3e h,List.take_append_of_le_length (by omega),k0D (by omega)]
theorem q54(gn N:Nat)(x:Int)(w:qj)(h:IntAt w gn 0 (N:Int))(hN:0<N)(hb:bl N<=1280)(hx1:-100000<=x)(hx2:x<=100000):qk qc 162 #[.pointer (qg ⟨gn,0,qe⟩),.int .i64 x] w fun e w'=>e=.returned (.agg #[.bool qd,.string (q0J (q0E N)),.int .i64 (x+(Go.Proofs.YtabcgemembkkcaaGreatDoor.Sh.tz N:Int))])/\qf w.heap.size w w':=by
 obtain⟨p,l⟩:=yx ((w.alloc (.cells #[.bool qd,.string ⟨#[]⟩,.int .i64 0] 27)).alloc (.cells #[.bool qd,.slice qe 0 0] 82));have H:Cx w [(w.heap.size,27,[.bool qd,.string ⟨#[]⟩,.int .i64 0])] (w.alloc (.cells #[.bool qd,.string ⟨#[]⟩,.int .i64 0] 27)):=(Cx.nil w).new _ [_,_,_] rfl;have I:qf (w.heap.size+1) (w.alloc (.cells #[.bool qd,.string ⟨#[]⟩,.int .i64 0] 27)) p:=by rw[l];exact(qb _ _).alloc (by simp) _
 have C:Cx w [(w.heap.size,27,[.bool qd,.string ⟨#[]⟩,.int .i64 0])] p:=H.step (by simpa using I);have hI:IntAt p (w.heap.size+1) 0 0:=by have:=IntAt.zero (w.alloc (.cells #[.bool qd,.string ⟨#[]⟩,.int .i64 0] 27)) 82;rw[qi] at this;rw[l];exact this
 have hX:IntAt p gn 0 (N:Int):=h.below C.low;have J:=h.lt;have M:=vv fun w' (k1:IntAt w' (w.heap.size+1) 0 0) (k2:IntAt w' gn 0 (N:Int))=>B.Abs (w.heap.size+1) 0 gn 0 0 (N:Int) w' k1 k2
 simp only[k08] at M;have O:=vv fun g w' (k:IntAt w' g 0 (N:Int))=>qdQ g N w' k hb
 have a4:ql (∀w',IntAt w' gn 0 (N:Int)->qk qc 112 #[.pointer (qg ⟨gn,0,qe⟩)] w' fun e w''=>e=.returned (.int .i64 1)/\qf w'.heap.size w' w''):=vv fun w' k=>(B.Sign gn 0 (N:Int) w' k).mono fun e w'' ⟨k1,k2⟩=>⟨by rw[k1,k0M (by omega)],k2 ▸ qb _ _⟩
 have P:=q0z N;have q:=q1w hN;have Q:=q16 (q0E N);have a5:=q2o hN;have r:=vv fun j (hj:j<(q0J N).size) hl=>qbW hN hj hl
 have m:=vv fun hj=>q8W hN hj
 have n:=vv (qax hN);obtain⟨S,hS⟩:=yx (q0J N);rw[<- hS] at O P r m n;obtain⟨L,hL⟩:=yx (q0K (q0E N));rw[<- hL] at q Q r m n;obtain⟨z,hz⟩:=yx (Go.Proofs.YtabcgemembkkcaaGreatDoor.Sh.tz N);rw[<- hz] at q ⊢;have T:S.size=L+z:=by omega
 have b5:(1:Int)<=(L:Int):=by omega
 have b6:(S.size:Int)<=3000:=by omega
 have a6:(S.toList==[48])=qd:=by
  rw[k05];intro e;have h1:S.data.toList=[48]:=by rw[<- ByteArray.toList_eq];exact e
  have D:=m.o (by omega);have h3:S.size=1:=by rw[<- q1e,h1];rfl
  have h4:L-1=0:=by omega
  have h5:(S[L-1]'(by omega))=S.data.toList[L-1]'(by rw[q1e];omega):=rfl;rw[h5] at D;simp only[h1,h4] at D;exact absurd rfl D
 obtain⟨R,hR⟩:=yx (q0J (q0E N));rw[<- hR] at n ⊢;have U:=vv T;have E:=vv hI;have c:=vv hX;have a:=vv C;have HW:=vv l;have a7:ql (gn<w.heap.size):=vv J;clear l H I C hI hX h hN hb P q Q a5 hS hL hz T hR J;go_enter func162,ntmps162;go_wp2_with fail;rw[<- HW.o];refine(M.o _ E.o c.o).mono ?_;rintro e F d;replace d:=d.f E.o;have V:ql (IntAt F (w.heap.size+1) 0 (N:Int)):=vv d.2.1;replace c:=vv (c.o.fs1 d.2.2 (by have:=a7.o;omega));replace a:=vv (a.o.fs d.2.2 (by intro y hy;rw[k09.1 hy];exact k33 _) (by omega));obtain⟨rfl,-,-⟩:=d;go_wp2_with fail;refine(O.o _ _ V.o).mono ?_;rintro e G ⟨rfl,b⟩;replace a:=vv (a.o.step b);replace c:=vv (c.o.below b);clear b E V;go_wp2_with fail;go_loop [6] (fun t=>∃j:Nat,L<=j/\j<=S.size/\t=.int .i64 (j:Int)) (fun t=>(intOf t).toNat)
 case atStart=>exact⟨S.size,by have:=U.o;omega,lr,rfl⟩
 case round =>
  obtain⟨j,s,W,rfl⟩:=hrel;obtain⟨i,rfl⟩:∃i,j=i+1:=⟨j-1,by omega⟩;have a8:i<S.size:=by omega
  have b7:(i:Int)<(S.size:Int):=by omega
  have e1:((i+1:Nat):Int)-1=(i:Int):=by omega
  rcases Nat.lt_or_eq_of_le s with a9|X
  ·have hd:((S[i].toNat:Nat):Int)=48:=by have:=r.o i a8 (by omega);omega
   have HJ:ql (L<=i/\i<=S.size):=vv ⟨by omega,by omega⟩;have b0:(((S[i].toNat:Nat):Int)==48)=qo:=k1D.2 hd;clear hd s W a9;go_wp2;go_round
   case rel=>exact⟨i,HJ.o.1,HJ.o.2,by go_num⟩
   case measure=>simp [intOf]
  ·have b0:(((S[i].toNat:Nat):Int)==48)=qd:=by
    have e2:L-1=i:=by omega
    have:=m.o (by omega);simp only[e2] at this;rw[k05];omega
   have b1:L=i+1:=X;clear s W X;subst b1;have b8:(i:Int)+1<=(S.size:Int):=by omega
   have b9:(0:Int)<=(i:Int)+1:=by omega
   have a1:IntKind.i64.wrap (x+(S.size:Int))=x+(S.size:Int):=by rw[qm];omega
   have a2:IntKind.i64.wrap (x+(S.size:Int)-((i:Int)+1))=x+(z:Int):=by have:=U.o;rw[qm];omega
   have a3:=vv n.o;go_wp2_with fail;refine q02 (fun w'=>True) 14
    (.still 0 (.still 3 (.still 4 (.still 5 (.still 6 (.still 7 (.still 8 (.still 9 (.still 10 (.still 11 (.one 1 (.still 2 (.still 12 (.one 13 .done)))))))))))))) trivial (fun a6=>?_)
   iterate 10
    refine q03 ?_
   obtain⟨F,u⟩:=yx (G.drew);have b:qf G.heap.size G F:=by rw[u];exact q05 (qb _ _)
   replace a:=vv (a.o.step b);replace c:=vv (c.o.below b);rw[<- u];clear u b;refine q01 rfl (by rfl) (fun K hK=>?_);go_simp;refine(a4.o _ c.o).mono ?_;rintro e w3 ⟨rfl,b⟩;replace a:=vv (a.o.step b);clear b c;go_wp2_with fail;refine hK.out _ _ trivial (fun a0=>?_);clear hK
   iterate 2
    refine q03 ?_
   rw[a3.o]
   try rw[a1,a2]
   refine q01 rfl (by rfl) (fun K hK=>?_);have Y:=vv (a.o.get 0 rfl)
   with_reducible refine q0b 27 (.tmp 4) (.tmp 35) rfl w.heap.size [.bool qd,.string R,.int .i64 (x+(z:Int))] rfl rfl 27 _ Y.o (by kernel_rfl) rfl rfl ?_
   intro w4 Z hg;replace a:=vv (a.o.put 0 rfl Z hg);clear Y Z hg;refine hK.out _ _ trivial (fun a0=>?_);clear hK;refine q08 ?_;simp only[k0o,k0w];go_wp2;obtain⟨b2,b3,b4⟩:=Go.Proofs.YtabcgemembkkcaaGreatDoor.Scn.Blk.c3 (a.o.get 0 rfl);exact qh (v:=.agg #[.bool qd,.string R,.int .i64 (x+(z:Int))]) (by simp [results,results162,go_sem,b2,b3,b4]) rfl ⟨rfl,a.o.low⟩
theorem qaH{a:qj}(g gx gy N D:Nat)(w:qj)(hz:IntAt w g 0 0)(hg:a.heap.size<=g)(hb:qf a.heap.size a w)(hx:IntAt w gx 0 (N:Int))(hy:IntAt w gy 0 (D:Int))(hD:0<D)(hn:Sz N):qk qc 159 #[.pointer (qg ⟨g,0,qe⟩),.pointer (qg ⟨gx,0,qe⟩),.pointer (qg ⟨gy,0,qe⟩)] w fun e w'=>e=.returned (.pointer (qg ⟨g,0,qe⟩))/\IntAt w' g 0 ((N/D:Nat):Int)/\qf a.heap.size a w':=by
 obtain⟨d,c⟩:=yx (w.alloc (.cells #[.bool qd,.slice qe 0 0] 82));have b:qf w.heap.size w d:=by rw[c];exact(qb _ _).alloc lr _
 have i:IntAt d w.heap.size 0 0:=by rw[c];exact IntAt.zero _ _
 have f:g≠w.heap.size:=by have:=hz.lt;omega
 have j:=vv (B.QuoRem g 0 gx 0 gy 0 w.heap.size 0 0 (N:Int) (D:Int) 0 d (hz.below b) (hx.below b) (hy.below b) i f (by omega) (by rw[k08];exact hn));have h:=hb.trans (b.mono hb.size);have k:sg (qa ((N:Int)<0) != qa ((D:Int)<0)) ((N:Int).natAbs/(D:Int).natAbs)=((N/D:Nat):Int):=by rw[k02 (p:=(N:Int)<0) (by omega),k02 (p:=(D:Int)<0) (by omega),k08,k08];rfl
 rw[k] at j;have l:=vv h;have s:=vv hg;have t:=vv hb.size;have u:=vv c;clear c b i hz hg hb hx hy hn k h f;go_enter func159,ntmps159;go_wp2_with fail;rw[<- u.o];refine j.o.mono ?_;rintro e v ⟨rfl,m,-,n⟩;have x:=vv m;have r:ql (qf a.heap.size a v):=vv (n.below l.o l.o.size (by
  intro p q;simp only[k0R,k0X,k2c] at q;rcases q with rfl|rfl
  ·exact t.o
  ·exact s.o))
 clear m n;go_wp2;go_ret;exact⟨rfl,x.o,r.o⟩
theorem qbr{a:qj}(g gx gy:Nat)(x y:Int)(w:qj)(hz:IntAt w g 0 0)(hg:a.heap.size<=g)(hb:qf a.heap.size a w)(hx:IntAt w gx 0 x)(hy:IntAt w gy 0 y)(sx:Sz x.natAbs)(sy:Sz y.natAbs):qk qc 160 #[.pointer (qg ⟨g,0,qe⟩),.pointer (qg ⟨gx,0,qe⟩),.pointer (qg ⟨gy,0,qe⟩)] w fun e w'=>e=.returned (.pointer (qg ⟨g,0,qe⟩))/\IntAt w' g 0 (x+y)/\qf a.heap.size a w':=by refine(B.Add g 0 gx 0 gy 0 0 x y w hz hx hy sx sy).mono ?_;rintro e w' b;exact⟨b.1,b.2.1,(b.f hz).below hb hb.size hg⟩
theorem qcx(g:Nat)(q:Rat)(w:qj)(h:q0l w g q):qk qc 161 #[.pointer (qg ⟨g,0,qe⟩)] w fun e w'=>e=.returned (.bool (qa (q.den=1)))/\qf w.heap.size w w':=by have:=B.IsInt g _ _ w h;rw[(low_num q.den_pos).2,k2E] at this;exact this.mono fun e w' ⟨k1,k2⟩=>⟨k1,k2 ▸ qb _ _⟩
theorem qa9{v:Rat}(hv:0<v)(e:Int):fl v e=(v*tp (-e)).num.natAbs/(v*tp (-e)).den:=by
 unfold fl;have a:=q18 (q3n hv e);generalize v*tp (-e)=y at *
 rw[Rat.floor_def];have:y.num/((y.den:Nat):Int)=((y.num.natAbs/y.den:Nat):Int):=by rw[k1n,Int.natAbs_of_nonneg (Int.le_of_lt a)]
 rw[this,k08]
theorem qcL{v:Rat}(hv:0<v)(e:Int):ce v e=if(v*tp (-e)).den=1 then fl v e else fl v e+1:=by
 unfold ce;have a:=q18 (q3n hv e);have b:=qa9 hv e;obtain⟨y,c⟩:=yx (v*tp (-e));rw[<- c] at a b ⊢;rw[b];by_cases h:y.den=1
 ·rw[k0p h];refine k0p ?_;rw[h,k1b];have:=q3j y;rw[h,show((1:Nat):Rat)=1 from rfl,k1Z] at this;have d:((y.num.natAbs:Nat):Rat)=(y.num:Rat):=by rw[<- k0J,Int.natAbs_of_nonneg (Int.le_of_lt a)]
  rw[d];exact this.symm
 ·rw[k0r h];refine k0r fun k=>h ?_
  rw[<- k,Rat.den_natCast]
end R18
namespace R18
open Go Go.RowKit R5 Scn Sh Rtp
theorem qcl{a:qj}(g gx gy N:Nat)(e:Int)(w:qj)(hz:q0l w g 0)(hg:a.heap.size<=g)(hb:qf a.heap.size a w)(hx:q0l w gx ((N:Int):Rat))(hy:q0l w gy (tp e))(sx:Qb 20000 ((N:Int):Rat))(sy:Qb 20000 (tp e))(hst:Std w):qk qc 83 #[.pointer (qg ⟨g,0,qe⟩),.pointer (qg ⟨gx,0,qe⟩),.pointer (qg ⟨gy,0,qe⟩)] w fun e' w'=>e'=.returned (.pointer (qg ⟨g,0,qe⟩))/\q0l w' g (wo N e)/\qf a.heap.size a w':=by
 have:=q7N g gx gy _ _ w hz hg hb hx hy (sx.mono (by decide)) (sy.mono (by decide)) hst
 rwa [k0J] at this
theorem qbI{v:Rat}(hv:0<v)(e:Int):up v e=(qa (0<q1s (v-wo (fl v e) e) (wo (ce v e) e-v)) || (q1s (v-wo (fl v e) e) (wo (ce v e) e-v)==0 && evD (ce v e) && !evD (fl v e))):=by
 have h:=q9w hv e;have i:=(qb0 hv e).1;have a:Sh.far v (fl v e) e=v-wo (fl v e) e:=by
  unfold Sh.far;rw[Rat.abs_of_nonpos (by grind)]
  grind
 have b:Sh.far v (ce v e) e=wo (ce v e) e-v:=by unfold Sh.far;rw[Rat.abs_of_nonneg (by grind)]
 have d:=q4X (v-wo (fl v e) e) (wo (ce v e) e-v);unfold up;rw[a,b,d];generalize q1s (v-wo (fl v e) e) (wo (ce v e) e-v)=c;have f:qa (-c<0)=qa (0<c):=by rw[k1y];omega
 have g:(-c==0)=(c==0):=by
  by_cases k:c=0
  ·rw[k];rfl
  ·rw[k05.2 k,k05.2 (by omega)]
 rw[f,g]
theorem q6i(N:Nat)(x:Int)(w:qj)(hN:0<N)(hl:q0K N<=9000):qk qc 164 #[q3J qd (q0J (q0E N)) x] w fun e w'=>e=.returned (.bool (evD N))/\qf w.heap.size w w':=by
 have a:=q0z (q0E N);have d:=q1w hN;have f:=q16 (q0E N);have b:=q2v (q0E N) (by omega);have c:(q0J (q0E N))[(q0J (q0E N)).size-1].toNat=48+q0E N%10:=by simp only[a,b]
 have k:=qcD qd (q0J (q0E N)) x w (by omega) (by omega) (by omega);have e:(q0J (q0E N))[(q0J (q0E N)).size-1].toNat%2=q0E N%2:=by rw[c];omega
 rw[e,<- q8a hN] at k;exact k
theorem qai(gl gh gv:Nat)(s:Span)(v:Rat)(K:Nat)(w:qj)(hs:IvA w gl gh s)(hv:q0l w gv v)(hpos:0<v)(hlo:s.lo<s.hi)(s1:Qb 2200 s.lo)(s2:Qb 2200 s.hi)(s3:Qb 1280 v)(hK:K<=300)(hstop:q2s s v (top v-(K:Int))=qo)(hst:Std w):qk qc 80 #[ivV gl gh s,.pointer (qg ⟨gv,0,qe⟩)] w fun e w'=>e=.returned (.tuple #[.agg #[.bool qd,.string (q0J (q0E (q0Q s v).1)),.int .i64 ((q0Q s v).2+(Go.Proofs.YtabcgemembkkcaaGreatDoor.Sh.tz (q0Q s v).1:Int))],.bool qo])/\qf w.heap.size w w':=by
 obtain⟨li,v2⟩:=yx (s.li);obtain⟨hn,v3⟩:=yx (s.hn);show qk qc 80 #[.agg #[.pointer (qg ⟨gl,0,qe⟩),.pointer (qg ⟨gh,0,qe⟩),.bool s.li,.bool s.hn],.pointer (qg ⟨gv,0,qe⟩)] w _;rw[<- v2,<- v3];obtain⟨w0,v4⟩:=yx ((w.alloc (.cells #[.pointer (qg ⟨gl,0,qe⟩),.pointer (qg ⟨gh,0,qe⟩),.bool li,.bool hn] 73)).alloc (.cells #[.bool qd,.string ⟨#[]⟩,.int .i64 0] 27));have G:Cx w [((w.heap.size+1),27,[.bool qd,.string ⟨#[]⟩,.int .i64 0]),(w.heap.size,73,[.pointer (qg ⟨gl,0,qe⟩),.pointer (qg ⟨gh,0,qe⟩),.bool li,.bool hn])] w0:=by rw[v4];exact((Cx.nil w).new _ [_,_,_,_] rfl).new _ [_,_,_] (by simp)
 have hi3:=s3.mono (show 1280<=1000000 by decide);have s8:=q7i hpos s3;obtain⟨TP,s9⟩:=yx (top v);rw[<- s9] at s8 hstop;have HCl:ql (∀w',IvA w' gl gh s->qk qc 116 #[.pointer (qg ⟨gl,0,qe⟩),.pointer (qg ⟨gh,0,qe⟩)] w' fun e w''=>e=.returned (.int .i64 (-1))/\qf w'.heap.size w' w''):=vv fun w' k=>by
  have:=qd4 gl gh _ _ w' k.l k.h (s1.mono (by decide)) (s2.mono (by decide))
  rwa [show q1s s.lo s.hi = -1 by unfold q1s;rw[k0p hlo]] at this
 have HTp:ql (∀w',q0l w' gv v->Std w'->qk qc 157 #[.pointer (qg ⟨gv,0,qe⟩)] w' fun e w''=>e=.returned (.int .i64 TP)/\qf w'.heap.size w' w''):=vv fun w' k hs=>by rw[s9];exact qdj gv v w' k hpos s3 hs
 have v5:ql (∀j w',-4000<=j->j<=4000->Std w'->qk qc 158 #[.int .i64 j] w' (qdc j w')):=vv fun j w' a b hs=>power_ j w' (by omega) (by omega) hs
 have k5:ql (∀g q w',IvA w' gl gh s->q0l w' g q->Qb 1000000 q->qk qc 47 #[.agg #[.pointer (qg ⟨gl,0,qe⟩),.pointer (qg ⟨gh,0,qe⟩),.bool li,.bool hn],.pointer (qg ⟨g,0,qe⟩)] w' fun e w''=>e=.returned (.bool (s.has q))/\qf w'.heap.size w' w''):=vv fun g q w' a b c=>by rw[v2,v3];exact qd9 gl gh g s q w' a b (s1.mono (by decide)) (s2.mono (by decide)) c
 obtain⟨SB,v6⟩:=yx (q0J (q0E (q0Q s v).1));obtain⟨XB,v7⟩:=yx ((q0Q s v).2+(Go.Proofs.YtabcgemembkkcaaGreatDoor.Sh.tz (q0Q s v).1:Int));rw[<- v6,<- v7];have z7:=vv (And.intro v6.symm v7.symm);clear v6 v7;have b0:=vv hpos;have n8:=vv s3;have y3:=vv hstop;have o6:=vv s9;have Y:=vv hst;have n:=vv (hs.below G.low);have m:=vv (hv.below G.low);have f:=vv G;have HW:=vv v4;have hT1:-1280<=TP:=s8.1;have hT2:TP<=1280:=s8.2;clear v4 G hst hs hv hpos hlo s1 s2 s3 hstop s9 hi3 s8 v2 v3;obtain⟨kc1,kc2,kc3,kc4,kl5⟩:=Blk.f4 (f.o.get 1 rfl);go_enter func80,ntmps80;go_wp2_with fail;rw[<- HW.o];refine(HCl.o _ n.o).mono ?_;rintro e w6 ⟨rfl,d⟩;replace f:=vv (f.o.step d);replace n:=vv (n.o.below d);replace m:=vv (m.o.below d);clear kc1 kc2 kc3 kc4 kl5 d;go_wp2_with fail;go_loopw [6] (fun t wr=>∃k:Nat,k<=K/\t=.int .i64 ((k:Int)+1)/\(∀j:Nat,j<k->q2s s v (TP-(j:Int))=qd)/\Cx w [((w.heap.size+1),27,[.bool qd,.string ⟨#[]⟩,.int .i64 0]),(w.heap.size,73,[.pointer (qg ⟨gl,0,qe⟩),.pointer (qg ⟨gh,0,qe⟩),.bool li,.bool hn])] wr/\IvA wr gl gh s/\q0l wr gv v) (fun t _=>(K+2-intOf t).toNat)
 case atStart=>exact⟨0,k0x _,rfl,fun j h=>absurd h (by omega),f.o,n.o,m.o⟩
 case round =>
  clear f n m;obtain⟨k,hk,rfl,q1,G,D,hV⟩:=hrel;have k6:=vv q1;have f:=vv G;have n:=vv D;have m:=vv hV;clear q1 G D hV;obtain⟨i,n9⟩:∃e:Int,e=TP-(k:Int):=⟨_,rfl⟩;have he1:TP-((k:Int)+1)+1=i:=by omega
  have hki:(k:Int)<=300:=by omega
  have hb1:-1600<=i:=by omega
  have hb2:i<=1280:=by omega
  have hne:IntKind.i64.wrap (-i) = -i:=by rw[qm];omega
  have v8:i<=top v:=by rw[n9,o6.o];omega
  have z8:=vv (q86 b0.o v8);have z9:=vv (qag b0.o v8);have HFd:=vv (qa9 b0.o i);have v9:=vv (qcL b0.o i);have hlk:=q7W b0.o (e:=i) (k:=k) (by rw[n9,o6.o];omega);have hfb:bl (fl v i)<=1280:=k07 (Sho.bl_len _) (by omega);have hcb:bl (ce v i)<=1280:=k07 (Sho.bl_len _) (by omega);have w1:=vv hfb;have HCB:=vv hcb;have HQy:ql (Qb 20000 (v*tp (-i))):=vv ((n8.o.mul (Qb.tp (-i))).mono (by omega));have t0:ql (Qb 73000 (wo (fl v i) i)):=vv (Sho.wo_Qb (by omega) (by omega) (by omega));have t1:ql (Qb 73000 (wo (ce v i) i)):=vv (Sho.wo_Qb (by omega) (by omega) (by omega));have HQt:ql (Qb 20000 (tp i)):=vv ((Qb.tp i).mono (by omega));have HQm:ql (Qb 20000 (tp (-i))):=vv ((Qb.tp (-i)).mono (by omega));have HQf:ql (Qb 20000 (((fl v i:Nat):Int):Rat)):=vv (by rw[k0J];exact Qb.nat (by omega) (by decide) (by decide));have HQc:ql (Qb 20000 (((ce v i:Nat):Int):Rat)):=vv (by rw[k0J];exact Qb.nat (by omega) (by decide) (by decide));obtain⟨⟨w2,ff2⟩,⟨w3,cc2⟩⟩:(1<=fl v i/\q0K (fl v i)<=9000)/\(1<=ce v i/\q0K (ce v i)<=9000):=⟨⟨z8.o,by omega⟩,⟨z9.o,by omega⟩⟩;have HMy:ql (∀(a w':qj) (g gx gy:Nat),q0l w' g 0->a.heap.size<=g->qf a.heap.size a w'->q0l w' gx v->q0l w' gy (tp (-i))->Std w'->qk qc 83 #[.pointer (qg ⟨g,0,qe⟩),.pointer (qg ⟨gx,0,qe⟩),.pointer (qg ⟨gy,0,qe⟩)] w' fun e w''=>e=.returned (.pointer (qg ⟨g,0,qe⟩))/\q0l w'' g (v*tp (-i))/\qf a.heap.size a w''):=vv fun a w' g gx gy h1 h2 h3 h4 h5 h6=>q7N g gx gy _ _ w' h1 h2 h3 h4 h5 (n8.o.mono (by decide)) (HQm.o.mono (by decide)) h6
  have hyp:0<(v*tp (-i)).num:=q18 (q3n b0.o i);have t2:ql (∀(g:Nat) (w':qj),q0l w' g (v*tp (-i))->qk qc 102 #[.pointer (qg ⟨g,0,qe⟩)] w' (q0W (((v*tp (-i)).num.natAbs:Nat):Int) w')):=vv fun g w' k=>by
   have:=qec g _ w' k
   rwa [show(v*tp (-i)).num=(((v*tp (-i)).num.natAbs:Nat):Int) by omega] at this
  have t3:ql (∀(g:Nat) (w':qj),q0l w' g (v*tp (-i))->qk qc 103 #[.pointer (qg ⟨g,0,qe⟩)] w' (q0W ((v*tp (-i)).den:Int) w')):=vv fun g w' k=>qej g _ w' k
  have o7:ql (∀(a w':qj) (g gx gy:Nat),IntAt w' g 0 0->a.heap.size<=g->qf a.heap.size a w'->IntAt w' gx 0 (((v*tp (-i)).num.natAbs:Nat):Int)->IntAt w' gy 0 ((v*tp (-i)).den:Int)->qk qc 159 #[.pointer (qg ⟨g,0,qe⟩),.pointer (qg ⟨gx,0,qe⟩),.pointer (qg ⟨gy,0,qe⟩)] w' fun e w''=>e=.returned (.pointer (qg ⟨g,0,qe⟩))/\IntAt w'' g 0 ((fl v i:Nat):Int)/\qf a.heap.size a w''):=vv fun a w' g gx gy h1 h2 h3 h4 h5=>by
   have:=qaH g gx gy _ _ w' h1 h2 h3 h4 h5 (v*tp (-i)).den_pos (by have:=HQy.o.1;unfold Sz;omega)
   rwa [<- HFd.o] at this
  have w4:=vv fun w'=>B.NewInt 1 w' (by decide) (by decide)
  have t4:ql (∀(a w':qj) (g gx gy:Nat),IntAt w' g 0 0->a.heap.size<=g->qf a.heap.size a w'->IntAt w' gx 0 ((fl v i:Nat):Int)->IntAt w' gy 0 1->qk qc 160 #[.pointer (qg ⟨g,0,qe⟩),.pointer (qg ⟨gx,0,qe⟩),.pointer (qg ⟨gy,0,qe⟩)] w' fun e w''=>e=.returned (.pointer (qg ⟨g,0,qe⟩))/\IntAt w'' g 0 (((fl v i+1:Nat)):Int)/\qf a.heap.size a w''):=vv fun a w' g gx gy h1 h2 h3 h4 h5=>qbr g gx gy _ _ w' h1 h2 h3 h4 h5 (by rw[k08];have:=w1.o;unfold Sz;omega) (by show Sz 1;unfold Sz;decide)
  have o8:=vv fun(g:Nat) (w':qj) (h:q0l w' g (v*tp (-i)))=>qcx g _ w' h
  have w5:=vv fun(g:Nat) (w':qj) (h1:IvA w' gl gh s) (h2:q0l w' g (wo (fl v i) i))=>k5.o g _ w' h1 h2 (t0.o.mono (by decide))
  have w8:=vv fun(g:Nat) (w':qj) (h1:IvA w' gl gh s) (h2:q0l w' g (wo (ce v i) i))=>k5.o g _ w' h1 h2 (t1.o.mono (by decide))
  have o9:=vv fun(g:Nat) (w':qj) (h:IntAt w' g 0 ((fl v i:Nat):Int))=>q54 g _ i w' h w2 w1.o (by omega) (by omega)
  have p0:=vv fun(g:Nat) (w':qj) (h:IntAt w' g 0 ((ce v i:Nat):Int))=>q54 g _ i w' h w3 HCB.o (by omega) (by omega)
  have HSu:ql (∀(a w':qj) (g gx gy:Nat),q0l w' g 0->a.heap.size<=g->qf a.heap.size a w'->q0l w' gx v->q0l w' gy (wo (fl v i) i)->Std w'->qk qc 163 #[.pointer (qg ⟨g,0,qe⟩),.pointer (qg ⟨gx,0,qe⟩),.pointer (qg ⟨gy,0,qe⟩)] w' fun e w''=>e=.returned (.pointer (qg ⟨g,0,qe⟩))/\q0l w'' g (v-wo (fl v i) i)/\qf a.heap.size a w''):=vv fun a w' g gx gy h1 h2 h3 h4 h5 h6=>q7n g gx gy _ _ w' h1 h2 h3 h4 h5 (n8.o.mono (by decide)) (t0.o.mono (by decide)) h6
  have HSo:ql (∀(a w':qj) (g gx gy:Nat),q0l w' g 0->a.heap.size<=g->qf a.heap.size a w'->q0l w' gx (wo (ce v i) i)->q0l w' gy v->Std w'->qk qc 163 #[.pointer (qg ⟨g,0,qe⟩),.pointer (qg ⟨gx,0,qe⟩),.pointer (qg ⟨gy,0,qe⟩)] w' fun e w''=>e=.returned (.pointer (qg ⟨g,0,qe⟩))/\q0l w'' g (wo (ce v i) i-v)/\qf a.heap.size a w''):=vv fun a w' g gx gy h1 h2 h3 h4 h5 h6=>q7n g gx gy _ _ w' h1 h2 h3 h4 h5 (t1.o.mono (by decide)) (n8.o.mono (by decide)) h6
  have t5:=vv fun(g gx:Nat) (w':qj) (h1:q0l w' g (v-wo (fl v i) i)) (h2:q0l w' gx (wo (ce v i) i-v))=>qd4 g gx _ _ w' h1 h2 ((Qb.sub n8.o t0.o).mono (by omega)) ((Qb.sub t1.o n8.o).mono (by omega))
  have t6:=vv fun w'=>q6i (fl v i) (i+(Go.Proofs.YtabcgemembkkcaaGreatDoor.Sh.tz (fl v i):Int)) w' w2 ff2
  have t7:=vv fun w'=>q6i (ce v i) (i+(Go.Proofs.YtabcgemembkkcaaGreatDoor.Sh.tz (ce v i):Int)) w' w3 cc2
  have w9:q2s s v i=(s.has (wo (fl v i) i) || s.has (wo (ce v i) i)):=rfl;have V:q74 s v i=if s.has (wo (ce v i) i)=qd then fl v i else if s.has (wo (fl v i) i)=qd then ce v i else if up v i then ce v i else fl v i:=rfl;rw[qbI b0.o] at V;have p1:=Sho.cmp3 (v-wo (fl v i) i) (wo (ce v i) i-v);have p2:ql ((s.has (wo (fl v i) i) || s.has (wo (ce v i) i))=qd->k+1<=K/\∀j:Nat,j<k+1->q2s s v (TP-(j:Int))=qd):=vv fun q=>by
   rw[<- w9,n9] at q;refine⟨?_,fun j hj=>?_⟩
   ·rcases k0A k K with z|z
    ·exact z
    ·rw[show k=K by omega,y3.o] at q;exact absurd q (by decide)
   ·rcases k0A j k with z|z
    ·exact k6.o j z
    ·rw[show j=k by omega];exact q
  have Z:ql ((s.has (wo (fl v i) i) || s.has (wo (ce v i) i))=qo->q0J (q0E (q0Q s v).1)=q0J (q0E (q74 s v i))/\(q0Q s v).2+(Go.Proofs.YtabcgemembkkcaaGreatDoor.Sh.tz (q0Q s v).1:Int)=i+(Go.Proofs.YtabcgemembkkcaaGreatDoor.Sh.tz (q74 s v i):Int)):=vv fun q=>by have q2:=q8t (s:=s) (v:=v) (k:=k) (by omega) (by rw[<- o6.o,<- n9,w9];exact q) (by rw[<- o6.o];exact k6.o);rw[<- o6.o,<- n9] at q2;rw[q2];exact⟨rfl,rfl⟩
  generalize hpv:q74 s v i=pv at V Z;rw[z7.o.1,z7.o.2] at Z;have o0:qa ((v*tp (-i)).den=1)=qo->ce v i=fl v i:=fun q=>by rw[v9.o,k0p (k1h q)]
  have o1:qa ((v*tp (-i)).den=1)=qd->ce v i=fl v i+1:=fun q=>by rw[v9.o,k0r (k2W q)]
  obtain⟨y,hy⟩:=yx (v*tp (-i));rw[<- hy] at HMy t2 t3 o7 o8 o0 o1;obtain⟨sm,q3⟩:∃b,b=qa (y.den=1):=⟨_,rfl⟩;rw[<- q3] at o8 o0 o1;obtain⟨U,hNf⟩:=yx (fl v i);obtain⟨X,hNc⟩:=yx (ce v i);rw[<- hNf] at o7 t4 w5 o9 HSu t5 t6 p2 Z V o0 o1 p1 HQf;rw[<- hNc] at w8 p0 HSo t5 t7 p2 Z V o0 o1 p1 HQc;obtain⟨bf,hbf⟩:=yx (s.has (wo U i));obtain⟨bc,hbc⟩:=yx (s.has (wo X i));rw[<- hbf] at w5 p2 Z V;rw[<- hbc] at w8 p2 Z V;obtain⟨cq,hcq⟩:=yx (q1s (v-wo U i) (wo X i-v));rw[<- hcq] at t5 V p1;obtain⟨O,x0⟩:=yx (q0J (q0E U));obtain⟨S,x1⟩:=yx (q0J (q0E X));obtain⟨P,x2⟩:=yx (i+(Go.Proofs.YtabcgemembkkcaaGreatDoor.Sh.tz U:Int));obtain⟨T,x3⟩:=yx (i+(Go.Proofs.YtabcgemembkkcaaGreatDoor.Sh.tz X:Int));rw[<- x0,<- x2] at o9 t6;rw[<- x1,<- x3] at p0 t7;obtain⟨vf,hvf⟩:=yx (evD U);obtain⟨vc,hvc⟩:=yx (evD X);rw[<- hvf] at t6 V;rw[<- hvc] at t7 V;have k4:=vv V;have p3:=vv (And.intro o0 o1);have HCq:=vv p1;have t8:ql (pv=U->(bf || bc)=qo->SB=O/\XB=P):=vv fun k1 k2=>by rw[x0,x2,<- k1];exact Z.o k2
  have x4:ql (pv=X->(bf || bc)=qo->SB=S/\XB=T):=vv fun k1 k2=>by rw[x1,x3,<- k1];exact Z.o k2
  have HKK:=vv hk;clear z8 z9 HFd v9 w1 HCB HQy t0 t1 HQm Z k6 k5 hyp w2 ff2 w3 cc2 w9 V hpv o0 o1 hNf hNc hy q3 hbf hbc hcq x0 x1 x2 x3 hvf hvc p1 hk;clear n9 v8 hlk hfb hcb;go_wp2_with fail;refine(HTp.o _ m.o (f.o.std Y.o)).mono ?_;rintro e w7 ⟨rfl,d⟩;replace f:=vv (f.o.step d);replace n:=vv (n.o.below d);replace m:=vv (m.o.below d);clear d;go_wp2_with fail;have q4:=n;have q5:=m;have q6:=f;obtain⟨g9,r⟩:=yx (w7.heap.size);obtain⟨x5,p⟩:=yx (w7.alloc (.cells #[.bool qd,.slice qe 0 0,.slice qe 0 0] 87));have d:qf w7.heap.size w7 x5:=by rw[p];exact(qb _ _).alloc lr _
  have c5:ql (q0l x5 g9 0):=vv (by rw[p,r];exact q0l.zero _ _);have q7:ql (w7.heap.size<=g9):=vv (by rw[r];exact lr);replace f:=vv (f.o.step d);replace n:=vv (n.o.below d);replace m:=vv (m.o.below d);have c6:=vv d;have s7:ql (g9+1=x5.heap.size):=vv (by rw[p,qi,<- r]);rw[<- p]
  try rw[<- r]
  clear p r d;refine(v5.o _ _ (by omega) (by omega) (f.o.std Y.o)).mono ?_;rintro e w11 ⟨g2,rfl,hg2,hQ,d⟩;replace f:=vv (f.o.step d);replace n:=vv (n.o.below d);replace m:=vv (m.o.below d);replace c5:=vv (c5.o.below d);replace c6:=vn c6 d;have HQ2:=vv hQ;clear d hQ;go_wp2_with fail;refine(HMy.o w7 _ g9 gv g2 c5.o q7.o c6.o m.o HQ2.o (f.o.std Y.o)).mono ?_;rintro e o2 ⟨rfl,D,d⟩;replace f:=vv (q6.o.step d);replace n:=vv (q4.o.below d);replace m:=vv (q5.o.below d);have I:=vv D
  try clear s7
  clear q6 c5 q7 c6 D d q4 q5 HQ2;go_wp2_with fail;have c8:=n;have c9:=m;have d0:=I;have d1:=f;obtain⟨c7,r⟩:=yx (o2.heap.size);obtain⟨x6,p⟩:=yx (o2.alloc (.cells #[.bool qd,.slice qe 0 0] 82));have d:qf o2.heap.size o2 x6:=by rw[p];exact(qb _ _).alloc lr _
  have a4:ql (IntAt x6 c7 0 0):=vv (by rw[p,r];exact IntAt.zero _ _);have d2:ql (o2.heap.size<=c7):=vv (by rw[r];exact lr);replace f:=vv (f.o.step d);replace n:=vv (n.o.below d);replace m:=vv (m.o.below d);replace I:=vv (I.o.below d);have a5:=vv d;have n2:ql (c7+1=x6.heap.size):=vv (by rw[p,qi,<- r]);rw[<- p]
  try rw[<- r]
  clear p r d;go_wp2_with fail;refine(t2.o _ _ I.o).mono ?_;rintro e w16 ⟨g3,rfl,hg3,D,d⟩;replace f:=vv (f.o.step d);replace n:=vv (n.o.below d);replace m:=vv (m.o.below d);replace I:=vv (I.o.below d);replace a4:=vv (a4.o.below d);replace a5:=vn a5 d;have t9:=vv D;clear d D;clear hg3;go_wp2_with fail;refine(t3.o _ _ I.o).mono ?_;rintro e w17 ⟨g4,rfl,hg4,D,d⟩;replace f:=vv (f.o.step d);replace n:=vv (n.o.below d);replace m:=vv (m.o.below d);replace I:=vv (I.o.below d);replace a4:=vv (a4.o.below d);replace t9:=vv (t9.o.below d);replace a5:=vn a5 d;have HDn:=vv D;clear d D;clear hg4;go_wp2_with fail;refine(o7.o o2 _ c7 g3 g4 a4.o d2.o a5.o t9.o HDn.o).mono ?_;rintro e o3 ⟨rfl,D,d⟩;replace f:=vv (d1.o.step d);replace n:=vv (c8.o.below d);replace m:=vv (c9.o.below d);replace I:=vv (d0.o.below d);have u:=vv D
  try clear n2
  clear d1 a4 d2 a5 D d c8 c9 d0 t9 HDn;go_wp2_with fail;have d3:=n;have d4:=m;have d5:=I;have d6:=u;have d7:=f;obtain⟨p4,r⟩:=yx (o3.heap.size);obtain⟨x7,p⟩:=yx (o3.alloc (.cells #[.bool qd,.slice qe 0 0] 82));have d:qf o3.heap.size o3 x7:=by rw[p];exact(qb _ _).alloc lr _
  have b3:ql (IntAt x7 p4 0 0):=vv (by rw[p,r];exact IntAt.zero _ _);have d8:ql (o3.heap.size<=p4):=vv (by rw[r];exact lr);replace f:=vv (f.o.step d);replace n:=vv (n.o.below d);replace m:=vv (m.o.below d);replace I:=vv (I.o.below d);replace u:=vv (u.o.below d);have b4:=vv d;have n3:ql (p4+1=x7.heap.size):=vv (by rw[p,qi,<- r]);rw[<- p]
  try rw[<- r]
  clear p r d;go_wp2_with fail;refine(w4.o _).mono ?_;rintro e w22 ⟨g5,rfl,hg5,D,d⟩;replace f:=vv (f.o.step d);replace n:=vv (n.o.below d);replace m:=vv (m.o.below d);replace I:=vv (I.o.below d);replace u:=vv (u.o.below d);replace b3:=vv (b3.o.below d);replace b4:=vn b4 d;have HO1:=vv D;clear d D;clear hg5;go_wp2_with fail;refine(t4.o o3 _ p4 c7 g5 b3.o d8.o b4.o u.o HO1.o).mono ?_;rintro e w23 ⟨rfl,D,d⟩;replace f:=vv (d7.o.step d);replace n:=vv (d3.o.below d);replace m:=vv (d4.o.below d);replace I:=vv (d5.o.below d);replace u:=vv (d6.o.below d);have x:=vv D
  try clear n3
  clear d7 b3 d8 b4 D d d3 d4 d5 d6 HO1;go_wp2_with fail;refine(o8.o _ _ I.o).mono ?_;rintro e w24 ⟨rfl,d⟩;replace f:=vv (f.o.step d);replace n:=vv (n.o.below d);replace m:=vv (m.o.below d);replace I:=vv (I.o.below d);replace u:=vv (u.o.below d);replace x:=vv (x.o.below d);clear d;go_upto_if 56 with fail;go_cut [10] (fun s10 wx=>∃gc:Nat,s10=.pointer (qg ⟨gc,0,qe⟩)/\IntAt wx gc 0 (X:Int)/\Cx w [((w.heap.size+1),27,[.bool qd,.string ⟨#[]⟩,.int .i64 0]),(w.heap.size,73,[.pointer (qg ⟨gl,0,qe⟩),.pointer (qg ⟨gh,0,qe⟩),.bool li,.bool hn])] wx/\IvA wx gl gh s/\q0l wx gv v/\IntAt wx c7 0 (U:Int))
  case first =>
   clear o7 t2 t3 t4 o8 w4;cases sm
   ·have hn:=p3.o.2 rfl;clear p3;go_wp2_with fail;go_meet;exact⟨p4,rfl,by rw[hn];exact x.o,f.o,n.o,m.o,u.o⟩
   ·have hn:=p3.o.1 rfl;clear p3;go_wp2_with fail;go_meet;exact⟨c7,rfl,by rw[hn];exact u.o,f.o,n.o,m.o,u.o⟩
  case rest =>
   clear o7 t2 t3 t4 o8 w4 p3 I x u f n m;obtain⟨gc,rfl,hM,G,D,hV,hN⟩:=hcut;have f:=vv G;have n:=vv D;have m:=vv hV;have u:=vv hN;have x:=vv hM;clear G D hV hN hM;go_wp2_with fail;have d9:=n;have e0:=m;have e1:=u;have b5:=x;have e2:=f;obtain⟨p5,r⟩:=yx (wc.heap.size);obtain⟨c1,p⟩:=yx (wc.alloc (.cells #[.bool qd,.slice qe 0 0,.slice qe 0 0] 87));have d:qf wc.heap.size wc c1:=by rw[p];exact(qb _ _).alloc lr _
   have a0:ql (q0l c1 p5 0):=vv (by rw[p,r];exact q0l.zero _ _);have e3:ql (wc.heap.size<=p5):=vv (by rw[r];exact lr);replace f:=vv (f.o.step d);replace n:=vv (n.o.below d);replace m:=vv (m.o.below d);replace u:=vv (u.o.below d);replace x:=vv (x.o.below d);have a1:=vv d;have b1:ql (p5+1=c1.heap.size):=vv (by rw[p,qi,<- r]);rw[<- p]
   try rw[<- r]
   clear p r d;have e4:=n;have e5:=m;have e6:=u;have b6:=x;have a6:=a0;have a7:=a1;have e7:=f;obtain⟨p6,r⟩:=yx (c1.heap.size);obtain⟨x8,p⟩:=yx (c1.alloc (.cells #[.bool qd,.slice qe 0 0,.slice qe 0 0] 87));have d:qf c1.heap.size c1 x8:=by rw[p];exact(qb _ _).alloc lr _
   have e8:ql (q0l x8 p6 0):=vv (by rw[p,r];exact q0l.zero _ _);have e9:ql (c1.heap.size<=p6):=vv (by rw[r];exact lr);replace f:=vv (f.o.step d);replace n:=vv (n.o.below d);replace m:=vv (m.o.below d);replace u:=vv (u.o.below d);replace x:=vv (x.o.below d);replace a0:=vv (a0.o.below d);replace a1:=vn a1 d;have f0:=vv d;have n4:ql (p6+1=x8.heap.size):=vv (by rw[p,qi,<- r]);rw[<- p]
   try rw[<- r]
   try rw[b1.o,<- r]
   clear p r d b1;go_wp2_with fail;refine(q5w (a:=c1) p6 c7 _ _ e8.o e9.o f0.o u.o).mono ?_;rintro e w31 ⟨rfl,D,d⟩;replace f:=vv (e7.o.step d);replace n:=vv (e4.o.below d);replace m:=vv (e5.o.below d);replace u:=vv (e6.o.below d);replace x:=vv (b6.o.below d);replace a0:=vv (a6.o.below d);replace a1:=vn a7 d;have c2:=vv D
   try clear n4
   clear e7 e8 e9 f0 D d e4 e5 e6 b6 a6 a7;go_wp2_with fail;refine(v5.o _ _ (by omega) (by omega) (f.o.std Y.o)).mono ?_;rintro e w32 ⟨g6,rfl,x9,hQ,d⟩;replace f:=vv (f.o.step d);replace n:=vv (n.o.below d);replace m:=vv (m.o.below d);replace u:=vv (u.o.below d);replace x:=vv (x.o.below d);replace a0:=vv (a0.o.below d);replace c2:=vv (c2.o.below d);replace a1:=vn a1 d;have p7:=vv hQ;clear d hQ;clear x9;go_wp2_with fail;refine(qcl (a:=wc) p5 p6 g6 U i _ a0.o e3.o a1.o c2.o p7.o HQf.o HQt.o (f.o.std Y.o)).mono ?_;rintro e o4 ⟨rfl,D,d⟩;replace f:=vv (e2.o.step d);replace n:=vv (d9.o.below d);replace m:=vv (e0.o.below d);replace u:=vv (e1.o.below d);replace x:=vv (b5.o.below d);have C:=vv D
   try clear b1
   clear e2 a0 e3 a1 D d d9 e0 e1 b5 c2 p7;go_wp2_with fail;have f1:=n;have f2:=m;have f5:=u;have b7:=x;have f6:=C;have f7:=f;obtain⟨p8,r⟩:=yx (o4.heap.size);obtain⟨c4,p⟩:=yx (o4.alloc (.cells #[.bool qd,.slice qe 0 0,.slice qe 0 0] 87));have d:qf o4.heap.size o4 c4:=by rw[p];exact(qb _ _).alloc lr _
   have a2:ql (q0l c4 p8 0):=vv (by rw[p,r];exact q0l.zero _ _);have f8:ql (o4.heap.size<=p8):=vv (by rw[r];exact lr);replace f:=vv (f.o.step d);replace n:=vv (n.o.below d);replace m:=vv (m.o.below d);replace u:=vv (u.o.below d);replace x:=vv (x.o.below d);replace C:=vv (C.o.below d);have a3:=vv d;have b2:ql (p8+1=c4.heap.size):=vv (by rw[p,qi,<- r]);rw[<- p]
   try rw[<- r]
   clear p r d;have f9:=n;have g0:=m;have g1:=u;have b8:=x;have g7:=C;have a8:=a2;have a9:=a3;have g8:=f;obtain⟨p9,r⟩:=yx (c4.heap.size);obtain⟨y0,p⟩:=yx (c4.alloc (.cells #[.bool qd,.slice qe 0 0,.slice qe 0 0] 87));have d:qf c4.heap.size c4 y0:=by rw[p];exact(qb _ _).alloc lr _
   have i0:ql (q0l y0 p9 0):=vv (by rw[p,r];exact q0l.zero _ _);have i1:ql (c4.heap.size<=p9):=vv (by rw[r];exact lr);replace f:=vv (f.o.step d);replace n:=vv (n.o.below d);replace m:=vv (m.o.below d);replace u:=vv (u.o.below d);replace x:=vv (x.o.below d);replace C:=vv (C.o.below d);replace a2:=vv (a2.o.below d);replace a3:=vn a3 d;have i2:=vv d;have n5:ql (p9+1=y0.heap.size):=vv (by rw[p,qi,<- r]);rw[<- p]
   try rw[<- r]
   try rw[b2.o,<- r]
   clear p r d b2;go_wp2_with fail;refine(q5w (a:=c4) p9 gc _ _ i0.o i1.o i2.o x.o).mono ?_;rintro e w40 ⟨rfl,D,d⟩;replace f:=vv (g8.o.step d);replace n:=vv (f9.o.below d);replace m:=vv (g0.o.below d);replace u:=vv (g1.o.below d);replace x:=vv (b8.o.below d);replace C:=vv (g7.o.below d);replace a2:=vv (a8.o.below d);replace a3:=vn a9 d;have c2:=vv D
   try clear n5
   clear g8 i0 i1 i2 D d f9 g0 g1 b8 g7 a8 a9;go_wp2_with fail;refine(v5.o _ _ (by omega) (by omega) (f.o.std Y.o)).mono ?_;rintro e w41 ⟨g6,rfl,x9,hQ,d⟩;replace f:=vv (f.o.step d);replace n:=vv (n.o.below d);replace m:=vv (m.o.below d);replace u:=vv (u.o.below d);replace x:=vv (x.o.below d);replace C:=vv (C.o.below d);replace a2:=vv (a2.o.below d);replace c2:=vv (c2.o.below d);replace a3:=vn a3 d;have p7:=vv hQ;clear d hQ;clear x9;go_wp2_with fail;refine(qcl (a:=o4) p8 p9 g6 X i _ a2.o f8.o a3.o c2.o p7.o HQc.o HQt.o (f.o.std Y.o)).mono ?_;rintro e w42 ⟨rfl,D,d⟩;replace f:=vv (f7.o.step d);replace n:=vv (f1.o.below d);replace m:=vv (f2.o.below d);replace u:=vv (f5.o.below d);replace x:=vv (b7.o.below d);replace C:=vv (f6.o.below d);have E:=vv D
   try clear b2
   clear f7 a2 f8 a3 D d f1 f2 f5 b7 f6 c2 p7;obtain⟨y4,y5,y6,y7,y8⟩:=Blk.f4 (f.o.get 1 rfl);go_wp2_with fail;refine(w5.o _ _ n.o C.o).mono ?_;rintro e w48 ⟨rfl,d⟩;replace f:=vv (f.o.step d);replace n:=vv (n.o.below d);replace m:=vv (m.o.below d);replace u:=vv (u.o.below d);replace x:=vv (x.o.below d);replace C:=vv (C.o.below d);replace E:=vv (E.o.below d);clear y4 y5 y6 y7 y8 d;obtain⟨y9,z0,z1,z2,z3⟩:=Blk.f4 (f.o.get 1 rfl);go_wp2_with fail;refine(w8.o _ _ n.o E.o).mono ?_;rintro e w54 ⟨rfl,d⟩;replace f:=vv (f.o.step d);replace n:=vv (n.o.below d);replace m:=vv (m.o.below d);replace u:=vv (u.o.below d);replace x:=vv (x.o.below d);replace C:=vv (C.o.below d);replace E:=vv (E.o.below d);clear y9 z0 z1 z2 z3 d;cases bf<;>cases bc
   focus
    have hjn:=p2.o rfl;go_wp2;go_roundw
    case measure=>have:=HKK.o;simp [intOf];omega
    case rel=>exact⟨k+1,hjn.1,by simp,hjn.2,f.o,n.o,m.o⟩
   focus
    go_wp2_with fail;refine(o9.o _ _ u.o).mono ?_;rintro e Q ⟨rfl,d⟩;replace f:=vv (f.o.step d);replace n:=vv (n.o.below d);replace m:=vv (m.o.below d);replace u:=vv (u.o.below d);replace x:=vv (x.o.below d);replace C:=vv (C.o.below d);replace E:=vv (E.o.below d);clear d;go_wp2_with fail;obtain⟨g58,r⟩:=yx (Q.heap.size);obtain⟨q0,p⟩:=yx (Q.alloc (.cells #[.bool qd,.string O,.int .i64 P] 27));have d:qf Q.heap.size Q q0:=by rw[p];exact(qb _ _).alloc lr _
    have G:=f.o.new 27 [.bool qd,.string O,.int .i64 P] r;rw[<- p] at G 
    try rw[<- p]
    try rw[<- r]
    replace f:=vv G;replace n:=vv (n.o.below d);replace m:=vv (m.o.below d);replace u:=vv (u.o.below d);replace x:=vv (x.o.below d);replace C:=vv (C.o.below d);replace E:=vv (E.o.below d);clear p d G r;refine(p0.o _ _ x.o).mono ?_;rintro e R ⟨rfl,d⟩;replace f:=vv (f.o.step d);replace n:=vv (n.o.below d);replace m:=vv (m.o.below d);replace u:=vv (u.o.below d);replace x:=vv (x.o.below d);replace C:=vv (C.o.below d);replace E:=vv (E.o.below d);clear d;go_upto_if 91 with fail;obtain⟨g60,r⟩:=yx (R.heap.size);obtain⟨W,p⟩:=yx (R.alloc (.cells #[.bool qd,.string S,.int .i64 T] 27));have d:qf R.heap.size R W:=by rw[p];exact(qb _ _).alloc lr _
    have G:=f.o.new 27 [.bool qd,.string S,.int .i64 T] r;rw[<- p] at G 
    try rw[<- p]
    try rw[<- r]
    replace f:=vv G;replace n:=vv (n.o.below d);replace m:=vv (m.o.below d);replace u:=vv (u.o.below d);replace x:=vv (x.o.below d);replace C:=vv (C.o.below d);replace E:=vv (E.o.below d);clear p d G r;obtain⟨k7,k8,k9,l0⟩:=Blk.f3 (f.o.get 0 rfl);obtain⟨l1,l2,l3,l4⟩:=Blk.f3 (f.o.get 1 rfl);have F:=vv (f.o.get 2 rfl);go_wp2_with (with_reducible refine q00 rfl 27 (.tmp 4) (.tmp 95) rfl (w.heap.size+1) [.bool qd,.string S,.int .i64 T] rfl rfl 27 _ F.o (by kernel_rfl) rfl rfl ?_);intro w69 H J;clear F;have F:=vv (f.o.get 2 rfl);replace f:=vv (f.o.put 2 rfl H J);clear k7 k8 k9 l0 l1 l2 l3 l4 F H J;have L:pv=X:=by rw[k4.o];rfl
    have M:=x4.o L rfl;have N:=vv M;clear L M
    repeat go_step
    obtain⟨l5,l6,l7⟩:=Blk.c3 (f.o.get 2 rfl);exact qh (v:=.tuple #[.agg #[.bool qd,.string S,.int .i64 T],.bool qo]) (by simp [results,results80,go_sem,l5,l6,l7]) rfl ⟨by rw[N.o.1,N.o.2],f.o.low⟩
   focus
    go_wp2_with fail;refine(o9.o _ _ u.o).mono ?_;rintro e Q ⟨rfl,d⟩;replace f:=vv (f.o.step d);replace n:=vv (n.o.below d);replace m:=vv (m.o.below d);replace u:=vv (u.o.below d);replace x:=vv (x.o.below d);replace C:=vv (C.o.below d);replace E:=vv (E.o.below d);clear d;go_wp2_with fail;obtain⟨g58,r⟩:=yx (Q.heap.size);obtain⟨q0,p⟩:=yx (Q.alloc (.cells #[.bool qd,.string O,.int .i64 P] 27));have d:qf Q.heap.size Q q0:=by rw[p];exact(qb _ _).alloc lr _
    have G:=f.o.new 27 [.bool qd,.string O,.int .i64 P] r;rw[<- p] at G 
    try rw[<- p]
    try rw[<- r]
    replace f:=vv G;replace n:=vv (n.o.below d);replace m:=vv (m.o.below d);replace u:=vv (u.o.below d);replace x:=vv (x.o.below d);replace C:=vv (C.o.below d);replace E:=vv (E.o.below d);clear p d G r;refine(p0.o _ _ x.o).mono ?_;rintro e R ⟨rfl,d⟩;replace f:=vv (f.o.step d);replace n:=vv (n.o.below d);replace m:=vv (m.o.below d);replace u:=vv (u.o.below d);replace x:=vv (x.o.below d);replace C:=vv (C.o.below d);replace E:=vv (E.o.below d);clear d;go_upto_if 91 with fail;obtain⟨g60,r⟩:=yx (R.heap.size);obtain⟨W,p⟩:=yx (R.alloc (.cells #[.bool qd,.string S,.int .i64 T] 27));have d:qf R.heap.size R W:=by rw[p];exact(qb _ _).alloc lr _
    have G:=f.o.new 27 [.bool qd,.string S,.int .i64 T] r;rw[<- p] at G 
    try rw[<- p]
    try rw[<- r]
    replace f:=vv G;replace n:=vv (n.o.below d);replace m:=vv (m.o.below d);replace u:=vv (u.o.below d);replace x:=vv (x.o.below d);replace C:=vv (C.o.below d);replace E:=vv (E.o.below d);clear p d G r;obtain⟨k7,k8,k9,l0⟩:=Blk.f3 (f.o.get 0 rfl);obtain⟨l1,l2,l3,l4⟩:=Blk.f3 (f.o.get 1 rfl);have F:=vv (f.o.get 2 rfl);go_wp2_with (with_reducible refine q00 rfl 27 (.tmp 4) (.tmp 92) rfl (w.heap.size+1) [.bool qd,.string O,.int .i64 P] rfl rfl 27 _ F.o (by kernel_rfl) rfl rfl ?_);intro w69 H J;clear F;have F:=vv (f.o.get 2 rfl);replace f:=vv (f.o.put 2 rfl H J);clear k7 k8 k9 l0 l1 l2 l3 l4 F H J;have L:pv=U:=by rw[k4.o];rfl
    have M:=t8.o L rfl;have N:=vv M;clear L M
    repeat go_step
    obtain⟨l5,l6,l7⟩:=Blk.c3 (f.o.get 2 rfl);exact qh (v:=.tuple #[.agg #[.bool qd,.string O,.int .i64 P],.bool qo]) (by simp [results,results80,go_sem,l5,l6,l7]) rfl ⟨by rw[N.o.1,N.o.2],f.o.low⟩
   focus
    go_wp2_with fail;refine(o9.o _ _ u.o).mono ?_;rintro e Q ⟨rfl,d⟩;replace f:=vv (f.o.step d);replace n:=vv (n.o.below d);replace m:=vv (m.o.below d);replace u:=vv (u.o.below d);replace x:=vv (x.o.below d);replace C:=vv (C.o.below d);replace E:=vv (E.o.below d);clear d;go_wp2_with fail;obtain⟨g58,r⟩:=yx (Q.heap.size);obtain⟨q0,p⟩:=yx (Q.alloc (.cells #[.bool qd,.string O,.int .i64 P] 27));have d:qf Q.heap.size Q q0:=by rw[p];exact(qb _ _).alloc lr _
    have G:=f.o.new 27 [.bool qd,.string O,.int .i64 P] r;rw[<- p] at G 
    try rw[<- p]
    try rw[<- r]
    replace f:=vv G;replace n:=vv (n.o.below d);replace m:=vv (m.o.below d);replace u:=vv (u.o.below d);replace x:=vv (x.o.below d);replace C:=vv (C.o.below d);replace E:=vv (E.o.below d);clear p d G r;refine(p0.o _ _ x.o).mono ?_;rintro e R ⟨rfl,d⟩;replace f:=vv (f.o.step d);replace n:=vv (n.o.below d);replace m:=vv (m.o.below d);replace u:=vv (u.o.below d);replace x:=vv (x.o.below d);replace C:=vv (C.o.below d);replace E:=vv (E.o.below d);clear d;go_upto_if 91 with fail;obtain⟨g60,r⟩:=yx (R.heap.size);obtain⟨W,p⟩:=yx (R.alloc (.cells #[.bool qd,.string S,.int .i64 T] 27));have d:qf R.heap.size R W:=by rw[p];exact(qb _ _).alloc lr _
    have G:=f.o.new 27 [.bool qd,.string S,.int .i64 T] r;rw[<- p] at G 
    try rw[<- p]
    try rw[<- r]
    replace f:=vv G;replace n:=vv (n.o.below d);replace m:=vv (m.o.below d);replace u:=vv (u.o.below d);replace x:=vv (x.o.below d);replace C:=vv (C.o.below d);replace E:=vv (E.o.below d);clear p d G r;go_wp2_with fail;have i3:=n;have i4:=m;have i5:=u;have b9:=x;have i6:=C;have i7:=E;have i8:=f;obtain⟨v0,r⟩:=yx (W.heap.size);obtain⟨y1,p⟩:=yx (W.alloc (.cells #[.bool qd,.slice qe 0 0,.slice qe 0 0] 87));have d:qf W.heap.size W y1:=by rw[p];exact(qb _ _).alloc lr _
    have i9:ql (q0l y1 v0 0):=vv (by rw[p,r];exact q0l.zero _ _);have j0:ql (W.heap.size<=v0):=vv (by rw[r];exact lr);replace f:=vv (f.o.step d);replace n:=vv (n.o.below d);replace m:=vv (m.o.below d);replace u:=vv (u.o.below d);replace x:=vv (x.o.below d);replace C:=vv (C.o.below d);replace E:=vv (E.o.below d);have j1:=vv d;have n6:ql (v0+1=y1.heap.size):=vv (by rw[p,qi,<- r]);rw[<- p]
    try rw[<- r]
    clear p r d;go_wp2_with fail;refine(HSu.o W _ v0 gv p5 i9.o j0.o j1.o m.o C.o (f.o.std Y.o)).mono ?_;rintro e o5 ⟨rfl,D,d⟩;replace f:=vv (i8.o.step d);replace n:=vv (i3.o.below d);replace m:=vv (i4.o.below d);replace u:=vv (i5.o.below d);replace x:=vv (b9.o.below d);replace C:=vv (i6.o.below d);replace E:=vv (i7.o.below d);have HU:=vv D
    try clear n6
    clear i8 i9 j0 j1 D d i3 i4 i5 b9 i6 i7;go_wp2_with fail;have j2:=n;have j3:=m;have j4:=u;have c0:=x;have j5:=C;have j6:=E;have j7:=HU;have j8:=f;obtain⟨v1,r⟩:=yx (o5.heap.size);obtain⟨y2,p⟩:=yx (o5.alloc (.cells #[.bool qd,.slice qe 0 0,.slice qe 0 0] 87));have d:qf o5.heap.size o5 y2:=by rw[p];exact(qb _ _).alloc lr _
    have j9:ql (q0l y2 v1 0):=vv (by rw[p,r];exact q0l.zero _ _);have k0:ql (o5.heap.size<=v1):=vv (by rw[r];exact lr);replace f:=vv (f.o.step d);replace n:=vv (n.o.below d);replace m:=vv (m.o.below d);replace u:=vv (u.o.below d);replace x:=vv (x.o.below d);replace C:=vv (C.o.below d);replace E:=vv (E.o.below d);replace HU:=vv (HU.o.below d);have k3:=vv d;have n7:ql (v1+1=y2.heap.size):=vv (by rw[p,qi,<- r]);rw[<- p]
    try rw[<- r]
    clear p r d;go_wp2_with fail;refine(HSo.o o5 _ v1 p8 gv j9.o k0.o k3.o E.o m.o (f.o.std Y.o)).mono ?_;rintro e w68 ⟨rfl,D,d⟩;replace f:=vv (j8.o.step d);replace n:=vv (j2.o.below d);replace m:=vv (j3.o.below d);replace u:=vv (j4.o.below d);replace x:=vv (c0.o.below d);replace C:=vv (j5.o.below d);replace E:=vv (j6.o.below d);replace HU:=vv (j7.o.below d);have HO:=vv D
    try clear n7
    clear j8 j9 k0 k3 D d j2 j3 j4 c0 j5 j6 j7;go_wp2_with fail;refine(t5.o _ _ _ HU.o HO.o).mono ?_;rintro e w69 ⟨rfl,d⟩;replace f:=vv (f.o.step d);replace n:=vv (n.o.below d);replace m:=vv (m.o.below d);replace u:=vv (u.o.below d);replace x:=vv (x.o.below d);replace C:=vv (C.o.below d);replace E:=vv (E.o.below d);replace HU:=vv (HU.o.below d);replace HO:=vv (HO.o.below d);clear d;obtain⟨l8,l9,m0,m1⟩:=Blk.f3 (f.o.get 0 rfl);obtain⟨m2,m3,m4,m5⟩:=Blk.f3 (f.o.get 1 rfl);rcases HCq.o with rfl|rfl|rfl
    focus
     have F:=vv (f.o.get 2 rfl);go_wp2_with (with_reducible refine q00 rfl 27 (.tmp 4) (.tmp 123) rfl (w.heap.size+1) [.bool qd,.string O,.int .i64 P] rfl rfl 27 _ F.o (by kernel_rfl) rfl rfl ?_);intro w78 H J;clear F;have F:=vv (f.o.get 2 rfl);replace f:=vv (f.o.put 2 rfl H J);clear l8 l9 m0 m1 m2 m3 m4 m5 F H J;have L:pv=U:=by rw[k4.o];rfl
     have M:=t8.o L rfl;have N:=vv M;clear L M
     repeat go_step
     obtain⟨m6,m7,m8⟩:=Blk.c3 (f.o.get 2 rfl);exact qh (v:=.tuple #[.agg #[.bool qd,.string O,.int .i64 P],.bool qo]) (by simp [results,results80,go_sem,m6,m7,m8]) rfl ⟨by rw[N.o.1,N.o.2],f.o.low⟩
    focus
     go_wp2_with fail;refine(t7.o _).mono ?_;rintro e w78 ⟨rfl,d⟩;replace f:=vv (f.o.step d);clear l8 l9 m0 m1 m2 m3 m4 m5 d;obtain⟨q8,q9,r0,r1⟩:=Blk.f3 (f.o.get 0 rfl);obtain⟨r2,r3,r4,r5⟩:=Blk.f3 (f.o.get 1 rfl);cases vc
     focus
      have F:=vv (f.o.get 2 rfl);go_wp2_with (with_reducible refine q00 rfl 27 (.tmp 4) (.tmp 123) rfl (w.heap.size+1) [.bool qd,.string O,.int .i64 P] rfl rfl 27 _ F.o (by kernel_rfl) rfl rfl ?_);intro w87 H J;clear F;have F:=vv (f.o.get 2 rfl);replace f:=vv (f.o.put 2 rfl H J);clear q8 q9 r0 r1 r2 r3 r4 r5 F H J;have L:pv=U:=by rw[k4.o];rfl
      have M:=t8.o L rfl;have N:=vv M;clear L M
      repeat go_step
      obtain⟨z4,z5,z6⟩:=Blk.c3 (f.o.get 2 rfl);exact qh (v:=.tuple #[.agg #[.bool qd,.string O,.int .i64 P],.bool qo]) (by simp [results,results80,go_sem,z4,z5,z6]) rfl ⟨by rw[N.o.1,N.o.2],f.o.low⟩
     focus
      go_wp2_with fail;refine(t6.o _).mono ?_;rintro e w87 ⟨rfl,d⟩;replace f:=vv (f.o.step d);clear q8 q9 r0 r1 r2 r3 r4 r5 d;obtain⟨r6,r7,r8,r9⟩:=Blk.f3 (f.o.get 0 rfl);obtain⟨s0,s4,s5,s6⟩:=Blk.f3 (f.o.get 1 rfl);cases vf
      focus
       have F:=vv (f.o.get 2 rfl);go_wp2_with (with_reducible refine q00 rfl 27 (.tmp 4) (.tmp 122) rfl (w.heap.size+1) [.bool qd,.string S,.int .i64 T] rfl rfl 27 _ F.o (by kernel_rfl) rfl rfl ?_);intro w96 H J;clear F;have F:=vv (f.o.get 2 rfl);replace f:=vv (f.o.put 2 rfl H J);clear r6 r7 r8 r9 s0 s4 s5 s6 F H J;have L:pv=X:=by rw[k4.o];rfl
       have M:=x4.o L rfl;have N:=vv M;clear L M
       repeat go_step
       obtain⟨m9,n0,n1⟩:=Blk.c3 (f.o.get 2 rfl);exact qh (v:=.tuple #[.agg #[.bool qd,.string S,.int .i64 T],.bool qo]) (by simp [results,results80,go_sem,m9,n0,n1]) rfl ⟨by rw[N.o.1,N.o.2],f.o.low⟩
      focus
       have F:=vv (f.o.get 2 rfl);go_wp2_with (with_reducible refine q00 rfl 27 (.tmp 4) (.tmp 123) rfl (w.heap.size+1) [.bool qd,.string O,.int .i64 P] rfl rfl 27 _ F.o (by kernel_rfl) rfl rfl ?_);intro w96 H J;clear F;have F:=vv (f.o.get 2 rfl);replace f:=vv (f.o.put 2 rfl H J);clear r6 r7 r8 r9 s0 s4 s5 s6 F H J;have L:pv=U:=by rw[k4.o];rfl
       have M:=t8.o L rfl;have N:=vv M;clear L M
       repeat go_step
       obtain⟨m9,n0,n1⟩:=Blk.c3 (f.o.get 2 rfl);exact qh (v:=.tuple #[.agg #[.bool qd,.string O,.int .i64 P],.bool qo]) (by simp [results,results80,go_sem,m9,n0,n1]) rfl ⟨by rw[N.o.1,N.o.2],f.o.low⟩
    focus
     have F:=vv (f.o.get 2 rfl);go_wp2_with (with_reducible refine q00 rfl 27 (.tmp 4) (.tmp 122) rfl (w.heap.size+1) [.bool qd,.string S,.int .i64 T] rfl rfl 27 _ F.o (by kernel_rfl) rfl rfl ?_);intro w78 H J;clear F;have F:=vv (f.o.get 2 rfl);replace f:=vv (f.o.put 2 rfl H J);clear l8 l9 m0 m1 m2 m3 m4 m5 F H J;have L:pv=X:=by rw[k4.o];rfl
     have M:=x4.o L rfl;have N:=vv M;clear L M
     repeat go_step
     obtain⟨m6,m7,m8⟩:=Blk.c3 (f.o.get 2 rfl);exact qh (v:=.tuple #[.agg #[.bool qd,.string S,.int .i64 T],.bool qo]) (by simp [results,results80,go_sem,m6,m7,m8]) rfl ⟨by rw[N.o.1,N.o.2],f.o.low⟩
end R18
end Go.Proofs.YtabcgemembkkcaaGreatDoor
