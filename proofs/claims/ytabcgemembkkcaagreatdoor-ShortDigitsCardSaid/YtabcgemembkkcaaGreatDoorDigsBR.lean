/- Lemmas. -/
import Derived.Test.YtabcgemembkkcaaGreatDoorDigsBQ
import Derived.Test.YtabcgemembkkcaaGreatDoorDigsBP
set_option linter.all false
set_option maxHeartbeats 4000000
set_option maxRecDepth 100000
open Go.Proofs.Tryz
open Bool renaming false->qa,true->qm
open Go.Proofs.Tryz renaming prog->qb
open Decidable renaming decide->qc
open Go renaming RowKit.Below.refl->qd,World->qf,bodyPost_ret->qh,Calls->qi,Addr->qk,IntWalk.i64_in->ql
open Option renaming none->qe,some->qj
open Go.RowKit renaming Below->qg,Hid->qn
namespace Go.Proofs.YtabcgemembkkcaaGreatDoor
variable{M n c N g k:Nat}{w w':qf}{A:Option qk}{x:Int}{neg:Bool}{t:TypeId}{cs:List Value}
namespace Hx
open Go Go.RowKit R5 Scn Fms Exa
abbrev awP:ByteArray:=⟨#[48,120,49,46,56,112,45,50,51]⟩
abbrev awQ:ByteArray:=⟨#[48,120,49,112,49]⟩
abbrev awR:ByteArray:=⟨#[48,120,49,112,45,50,53]⟩
abbrev awD:ByteArray:=⟨#[48,120,55,101,48,49]⟩
abbrev awL:ByteArray:=⟨#[48,120,55,103,48,49]⟩
abbrev fM(E F b:Nat):Nat:=mantOf F (q0c E F b) (q0r F b)
abbrev fN(E F b:Nat):Nat:=oddN (fM E F b)
abbrev fX(E F b:Nat):Int:=qeq (fM E F b) (powOf E F (q0c E F b))
abbrev fG(E F b:Nat):Bool:=qer (q0M E F b) (fM E F b)
theorem oddN_odd(h:0<M):oddN M%2=1:=by unfold oddN;rw[k0r (by omega)];obtain⟨m,a⟩:=q22 h;have e:M/2^tz M=2*m+1:=Nat.div_eq_of_eq_mul_right (k0a _) a;omega
theorem oddN_pos(h:0<M):0<oddN M:=by have:=oddN_odd h;omega
def qe6(N:Nat):Nat:=(bl N+up4 (bl N)-1)/4
def txN(N q37:Nat):Nat:=if N=0 then 0 else N*2^(up4 (bl N)+4*q37)
def txX(N:Nat)(x:Int):Int:=if N=0 then 0 else x+(bl N:Int)-1
end Hx
namespace Exa
open Go Go.RowKit R5 Scn Sh Fms
def Rb(q:Rat):Prop:=q=0\/∃(K:Nat) (p:Int),0<K/\q=dq K p/\bl K<=80 /\ -2900<=p/\p<=2900
theorem DQ.of_odd{q:Rat}(hr:Rd w A n c (toL N))(ho:N%2=1)(he:q=dq N x)(hb:Rb q)(hz:A=qe->c=0):DQ w A n c N x q:=by
 rcases hb with h|⟨K,p,a,h,d,e,f⟩
 ·exfalso;have:=q6l (N:=N) (by omega) x;rw[<- he,h] at this;exact absurd this (Rat.lt_irrefl)
 ·obtain⟨b,g,i⟩:=q3k ho a (he.symm.trans h);have:=q1k b;exact⟨hr,he,.inl ho,by omega,by omega,by omega,hz⟩
theorem DQ.of_zero(hr:Rd w A n c (toL 0))(hz:A=qe->c=0):DQ w A n c 0 0 0:=⟨hr,(q1n 0).symm,.inr ⟨rfl,rfl⟩,by decide,by decide,by decide,hz⟩
theorem q65(h:0<N)(x:Int):dq (N/2^Go.Proofs.YtabcgemembkkcaaGreatDoor.tz N) (x+(Go.Proofs.YtabcgemembkkcaaGreatDoor.tz N:Int))=dq N x:=by
 have:=Hx.odd_split h
 conv=>rhs;rw[this]
 rw[q2E];unfold Hx.oddN;rw[k0r (by omega)]
theorem qbM(h:0<N):Go.Proofs.YtabcgemembkkcaaGreatDoor.tz N<=bl N:=by
 have e:=Hx.odd_split h;have b:=q0O N;have a:=Hx.oddN_pos h;have c:1*2^Go.Proofs.YtabcgemembkkcaaGreatDoor.tz N<=Hx.oddN N*2^Go.Proofs.YtabcgemembkkcaaGreatDoor.tz N:=k0y _ a;rcases k0A (bl N) (Go.Proofs.YtabcgemembkkcaaGreatDoor.tz N) with k|k
 ·have:=k00 (n:=2) (by decide) (k1l k);omega
 ·exact k
theorem qbx(A:Option qk)(n c N:Nat)(x:Int)(w:qf)(ha:Rd w A n c (toL N))(hn:n<=16384)(hb:Rb (dq N x))(h1:-100000<=x)(h2:x<=100000)(hst:Std w):qi qb 65 #[.bool qa,q0x A n c,.int .i64 x] w (DQP (dq N x) w):=by
 rcases k01 N with a|a
 ·subst a;have i:n=0:=by have:=ha.words;rw[q0h] at this;exact this.symm
  subst i;refine(q9U qa A c x w ha).mono ?_;rintro e j ⟨f,m,rfl,d,-,g⟩;have l:m=0:=by have:=d.words;rw[q0h] at this;exact this.symm
  rw[q1n];exact⟨f,m,m,0,0,rfl,DQ.of_zero d (fun _=>l),g⟩
 ·have p:=Rtp.wds_bl ha hn;have q:=qbM a;refine(qdg qa A n c N x w ha a hst hn (by omega) (by omega)).mono ?_;rintro e j ⟨f,m,rfl,d,-,g⟩;have o:(N/2^Go.Proofs.YtabcgemembkkcaaGreatDoor.tz N)%2=1:=by
   have:=Hx.oddN_odd a;unfold Hx.oddN at this
   rwa [k0r (by omega)] at this
  refine⟨f,m,m,_,_,rfl,DQ.of_odd d o (q65 a x).symm hb (fun e=>?_),g⟩;rcases k01 m with k|k
  ·exact k
  ·obtain⟨b,off,h,-⟩:=d.cell k;rw[e] at h;cases h
def sq(neg:Bool)(q:Rat):Rat:=if neg then -q else q
theorem qc1(neg:Bool)(N:Nat)(x:Int):sq neg (dq N x)=mkRat (sg neg (N*p2 x)) (p2 (-x)):=by
 unfold sq;rw[qcG];cases neg
 ·rfl
 ·show -mkRat _ _=mkRat (-((N*p2 x:Nat):Int)) _;rw[Rat.neg_mkRat]
theorem q4d(ho:N%2=1\/(N=0/\x=0)):(sq neg (dq N x)).num=sg neg (N*p2 x)/\(sq neg (dq N x)).den=p2 (-x):=by
 have c:Nat.gcd (sg neg (N*p2 x)).natAbs (p2 (-x))=1:=by
  rw[q0Z];rcases ho with h|⟨h,a⟩
  ·rcases k3f 0 x with k|k
   ·rw[q0s (n:=-x) (by omega)];exact k2z _
   ·rw[q0s (n:=x) (by omega),k0G];unfold p2;refine Nat.Coprime.pow_right _ ?_;show Nat.gcd N 2=1;rw[k1k,k2H,h];exact Nat.gcd_one_left _
  ·rw[a];exact k2z _
 have b:=q3a (q1d (-x)) c;have a:=Rtp.low_num (p:=sg neg (N*p2 x)) (q1d (-x));rw[qc1];exact⟨a.1.symm.trans b.1,a.2.symm.trans b.2⟩
theorem q7q(ho:N%2=1\/(N=0/\x=0))(h0:neg=qm->0<N):neg=qc ((sq neg (dq N x)).num<0):=by
 rw[(q4d ho).1];cases neg
 ·exact(k02 (by show ¬(((N*p2 x:Nat):Int)<0);omega)).symm
 ·have:0<N*p2 x:=k0N (h0 rfl) (q1d _);exact(k04 (by show -((N*p2 x:Nat):Int)<0;omega)).symm
theorem qan(neg:Bool)(A:Option qk)(n c N:Nat)(x:Int)(q:Rat)(w:qf)(h:DQ w A n c N x q)(h0:neg=qm->0<N):qi qb 25 #[q0q neg A n c x] w (Rtp.RqP (sq neg q) w):=by
 obtain⟨w0,O⟩:=yx ((w.alloc (.cells #[.bool neg,.slice A n c,.int .i64 x] 62)).alloc (.cells #[.bool qa,.slice qe 0 0,.slice qe 0 0] 39));have g:Cx w [(w.heap.size+1,39,[.bool qa,.slice qe 0 0,.slice qe 0 0]),(w.heap.size,62,[.bool neg,.slice A n c,.int .i64 x])] w0:=by rw[O];exact((Cx.nil w).new _ [_,_,_] rfl).new _ [_,_,_] (by simp)
 have hn:=h.n_le;have c8:=h.bn;have e4:=h.b1;have e5:=h.b2;have Y:=h.ok neg h0;have P:=q7q h.o h0;obtain⟨Q,R⟩:=q4d (neg:=neg) h.o;have hq:=h.e;rw[<- hq] at P Q R;have Z:(sq neg q).num.natAbs=N*p2 (max 0 x):=by rw[Q,q0Z];unfold p2;rw[show(max 0 x).toNat=x.toNat by omega]
 have a0:(sq neg q).den=1*p2 (max 0 (-x)):=by rw[R,k0S];unfold p2;rw[show(max 0 (-x)).toNat=(-x).toNat by omega]
 obtain⟨Pn,S⟩:=yx ((sq neg q).num.natAbs);obtain⟨Pd,T⟩:=yx ((sq neg q).den);have c2:=vv fun w' (k:DQ w' A n c N x q)=>Check neg A n c (toL N) x w' k.r
 rw[Y] at c2;have c4:=vv fun w' (k:DQ w' A n c N x q)=>q8P (max 0 x) k.r hn (by omega) (by omega) (by omega)
 rw[<- Z,<- S] at c4;have G:=vv fun W w' (k:RN w' W 1 1 1)=>q8P (max 0 (-x)) k.r (by decide) (by decide) (by omega) (by omega)
 rw[<- a0,<- T] at G;have c9:=vv P;have d0:=vv S;have d1:=vv T;have e6:IntKind.i64.wrap (-x) = -x:=ql _ (by omega);have d:=vv (h.below g.low);have b:=vv g;have HW:=vv O;clear O g h Y P Q R hq Z a0 S T h0 hn c8;obtain⟨d2,d3,d4,d5⟩:=Blk.f3 (b.o.get 1 rfl);go_enter func25,ntmps25;go_wp2_with fail;rw[<- HW.o];go_wp2_with fail;refine(c2.o _ d.o).mono ?_;rintro e w5 ⟨rfl,a⟩;replace b:=vv (b.o.step a);replace d:=vv (d.o.below a);clear d2 d3 d4 d5 a;obtain⟨d6,d7,d8,d9⟩:=Blk.f3 (b.o.get 1 rfl);go_wp2_with fail;refine(c4.o _ d.o).mono ?_;rintro e H ⟨E,n1,rfl,c5,-,a⟩;replace b:=vv (b.o.step a);replace d:=vv (d.o.below a);have f:=vv (RN.mk c5);clear d6 d7 d8 d9 a c5;obtain⟨a4,a5,a6,a7⟩:=Blk.f3 (b.o.get 1 rfl);go_wp2_with fail;obtain⟨e7,U⟩:=yx (H.heap.size);obtain⟨I,J⟩:=yx (H.alloc (.cells #[.slice E n1 n1] 37));have a:qg H.heap.size H I:=by rw[J];exact(qd _ _).alloc lr _
 have g:=b.o.new 37 [.slice E n1 n1] U;rw[<- J] at g 
 try rw[<- J]
 try rw[<- U]
 replace b:=vv g;replace d:=vv (d.o.below a);replace f:=vv (f.o.below a);clear a4 a5 a6 a7 J a g U;obtain⟨a1,a2,a3,a8⟩:=Blk.f3 (b.o.get 2 rfl);refine q02 (fun w'=>w'.cell? ⟨w.heap.size,0,qe⟩=qj (.bool neg)/\w'.cell? ⟨w.heap.size,1,qe⟩=qj (.slice A n c)/\w'.cell? ⟨w.heap.size,2,qe⟩=qj (.int .i64 x)) 11
  (.still 1 (.still 2 (.still 3 (.still 4 (.two 0 (.two 5 (.still 6 (.still 7 (.still 8 (.one 9 (.one 10 .done))))) 9 (.one 5 (.still 6 (.still 7 (.still 8 (.one 10 .done)))))) 9 (.one 0 (.one 5 (.still 6 (.still 7 (.still 8 (.one 10 .done))))))))))) ⟨a1,a2,a3⟩ (fun e0=>?_)
 iterate 4
  refine q03 ?_
 clear a8 a1 a2 a3;obtain⟨y,V⟩:=yx (I.drew);have a:qg I.heap.size I y:=by rw[V];exact q05 (qd _ _)
 replace b:=vv (b.o.step a);replace d:=vv (d.o.below a);replace f:=vv (f.o.below a);rw[<- V] at e0 ⊢;clear V a;refine q0e rfl (by rfl) rfl (by rfl) (fun K hK=>?_) (fun K hK=>?_)
 focus
  go_simp;refine(Nat_.Of1 y).mono ?_;rintro e L ⟨W,rfl,C,a⟩;replace b:=vv (b.o.step a);replace d:=vv (d.o.below a);replace f:=vv (f.o.below a);have i:=vv (RN.mk C);clear a C;go_wp2_with fail;refine hK.out _ _ (Blk.c3 (b.o.get 2 rfl)) (fun t=>?_);clear hK;refine q0e rfl (by rfl) rfl (by rfl) (fun K hK=>?_) (fun K hK=>?_)
  focus
   go_simp;refine(G.o _ _ i.o).mono ?_;rintro e M ⟨z,n3,rfl,u,-,a⟩;replace b:=vv (b.o.step a);replace d:=vv (d.o.below a);replace f:=vv (f.o.below a);replace i:=vv (i.o.below a);have s:=vv (RN.mk u);clear a u;go_wp2_with fail;refine hK.out _ _ (Blk.c3 (b.o.get 2 rfl)) (fun t=>?_);clear hK
   iterate 3
    refine q03 ?_
   refine q01 rfl (by rfl) (fun K hK=>?_);go_simp;obtain⟨X,m⟩:=yx (M.heap.size);obtain⟨c6,j⟩:=yx (M.alloc (.cells #[.slice qe 0 0] 37));have a:qg M.heap.size M c6:=by rw[j];exact(qd _ _).alloc lr _
   have g:=b.o.new 37 [.slice qe 0 0] m;rw[<- j] at g
   try rw[<- j]
   try rw[<- m]
   replace b:=vv g;replace d:=vv (d.o.below a);replace f:=vv (f.o.below a);replace i:=vv (i.o.below a);replace s:=vv (s.o.below a);clear a g j m;refine hK.out _ _ (Blk.c3 (b.o.get 3 rfl)) (fun t=>?_);clear hK;obtain⟨wz,F⟩:=yx (c6);subst F
  rotate_left 1
  focus
   go_simp;obtain⟨X,m⟩:=yx (L.heap.size);obtain⟨e1,j⟩:=yx (L.alloc (.cells #[.slice qe 0 0] 37));have a:qg L.heap.size L e1:=by rw[j];exact(qd _ _).alloc lr _
   have g:=b.o.new 37 [.slice qe 0 0] m;rw[<- j] at g
   try rw[<- j]
   try rw[<- m]
   replace b:=vv g;replace d:=vv (d.o.below a);replace f:=vv (f.o.below a);replace i:=vv (i.o.below a);clear a g j m;refine hK.out _ _ (Blk.c3 (b.o.get 3 rfl)) (fun t=>?_);clear hK;refine q01 rfl (by rfl) (fun K hK=>?_);go_simp;refine(G.o _ _ i.o).mono ?_;rintro e e2 ⟨z,n3,rfl,u,-,a⟩;replace b:=vv (b.o.step a);replace d:=vv (d.o.below a);replace f:=vv (f.o.below a);replace i:=vv (i.o.below a);have s:=vv (RN.mk u);clear a u;go_wp2_with fail;refine hK.out _ _ (Blk.c3 (b.o.get 3 rfl)) (fun t=>?_);clear hK
   iterate 3
    refine q03 ?_
   obtain⟨wz,F⟩:=yx (e2);subst F
 rotate_left 2
 focus
  go_simp;obtain⟨X,m⟩:=yx (y.heap.size);obtain⟨c7,j⟩:=yx (y.alloc (.cells #[.slice qe 0 0] 37));have a:qg y.heap.size y c7:=by rw[j];exact(qd _ _).alloc lr _
  have g:=b.o.new 37 [.slice qe 0 0] m;rw[<- j] at g
  try rw[<- j]
  try rw[<- m]
  replace b:=vv g;replace d:=vv (d.o.below a);replace f:=vv (f.o.below a);clear a g j m;refine hK.out _ _ (Blk.c3 (b.o.get 3 rfl)) (fun t=>?_);clear hK;refine q01 rfl (by rfl) (fun K hK=>?_);go_simp;refine(Nat_.Of1 c7).mono ?_;rintro e e8 ⟨W,rfl,C,a⟩;replace b:=vv (b.o.step a);replace d:=vv (d.o.below a);replace f:=vv (f.o.below a);have i:=vv (RN.mk C);clear a C;go_wp2_with fail;refine hK.out _ _ (Blk.c3 (b.o.get 3 rfl)) (fun t=>?_);clear hK;refine q01 rfl (by rfl) (fun K hK=>?_);go_simp;refine(G.o _ _ i.o).mono ?_;rintro e e3 ⟨z,n3,rfl,u,-,a⟩;replace b:=vv (b.o.step a);replace d:=vv (d.o.below a);replace f:=vv (f.o.below a);replace i:=vv (i.o.below a);have s:=vv (RN.mk u);clear a u;go_wp2_with fail;refine hK.out _ _ (Blk.c3 (b.o.get 3 rfl)) (fun t=>?_);clear hK
  iterate 3
   refine q03 ?_
  obtain⟨wz,F⟩:=yx (e3);subst F
 all_goals
  refine q01 rfl (by rfl) (fun K hK=>?_);have l:=vv (b.o.get 0 rfl)
  with_reducible refine q0b 37 (.tmp 7) (.tmp 34) rfl X [.slice z n3 n3] rfl rfl 37 _ l.o (by kernel_rfl) rfl rfl ?_
  intro e9 D p;replace b:=vv (b.o.put 0 rfl D p);replace d:=vv (d.o.apart_ l.o rfl p);replace f:=vv (f.o.apart_ l.o rfl p);replace i:=vv (i.o.apart_ l.o rfl p);replace s:=vv (s.o.apart_ l.o rfl p);clear l D p;refine hK.out _ _ (Blk.c3 (b.o.get 3 rfl)) (fun t=>?_);clear hK;refine q08 ?_;simp only[k0o,k0w];obtain⟨a9,b0⟩:=Blk.f1 (b.o.get 0 rfl);obtain⟨b3,b4⟩:=Blk.f1 (b.o.get 1 rfl);obtain⟨b5,b6,b7,b8⟩:=Blk.f3 (b.o.get 3 rfl);have l:=vv (b.o.get 2 rfl);go_wp2_with (with_reducible refine q00 rfl 39 (.tmp 2) (.tmp 44) rfl (w.heap.size+1) [.bool neg,.slice E n1 n1,.slice z n3 n3] rfl rfl 39 _ l.o (by kernel_rfl) rfl rfl ?_);intro f0 D p;clear l;have l:=vv (b.o.get 2 rfl);replace b:=vv (b.o.put 2 rfl D p);replace f:=vv (f.o.apart_ l.o rfl p);replace s:=vv (s.o.apart_ l.o rfl p);clear a9 b0 b3 b4 b5 b6 b7 b8 l D p;go_wp2;obtain⟨b9,c0,c1⟩:=Blk.c3 (b.o.get 2 rfl);exact qh (v:=.tuple #[q0m neg E n1 n1 z n3 n3,.int .i64 0]) (by simp [results,results25,go_sem,b9,c0,c1]) rfl ⟨neg,E,n1,z,n3,rfl,⟨c9.o,by rw[<- d0.o];exact f.o.r,by rw[<- d1.o];exact s.o.r⟩,b.o.low⟩
end Exa
namespace Dcm
open Go Go.RowKit R5 Scn Sh Dec
theorem qaO(w:qf):qi qb 51 #[.string ⟨#[]⟩] w fun e w'=>e=.returned (.tuple #[q0x qe 0 0,.int .i64 0])/\qg w.heap.size w w':=by
 obtain⟨b,a⟩:=yx (w.alloc (.cells #[.slice qe 0 0] 37));have c:Cx w [(w.heap.size,37,[.slice qe 0 0])] b:=by rw[a];exact(Cx.nil w).new _ [_] rfl
 have d:=vv c;have g:=vv a;clear a c;go_enter func51,ntmps51;go_wp2_with fail;rw[<- g.o];have f:b.cell? ⟨w.heap.size,0,qe⟩=qj (.slice qe 0 0):=(d.o.get 0 rfl).cell 0;exact qh (v:=.tuple #[q0x qe 0 0,.int .i64 0]) (by simp [results,results51,go_sem,f]) rfl ⟨rfl,d.o.low⟩
theorem qaN(s:ByteArray)(w:qf)(hd:q8F s)(h1:s.size<=65536):qi qb 51 #[.string s] w fun e w'=>∃A n,e=.returned (.tuple #[q0x A n n,.int .i64 0])/\Rd w' A n n (toL (dvk s s.size))/\qg w.heap.size w w':=by
 rcases k01 s.size with a|a
 ·have e:s=⟨#[]⟩:=R16.bytes_none a;rw[e];exact(qaO w).mono fun e w' ⟨k,hB⟩=>⟨qe,0,k,Rd.nil _,hB⟩
 ·exact qaM s w hd a h1
theorem wo_mk(neg:Bool)(N:Nat)(x:Int):Go.Proofs.YtabcgemembkkcaaGreatDoor.Exa.sq neg (wo N x)=mkRat (sg neg (N*t10 x)) (t10 (-x)):=by
 have e:wo N x=mkRat ((N*t10 x:Nat):Int) (t10 (-x)):=by
  unfold wo tp
  conv=>lhs;lhs;rw[show(N:Rat)=mkRat (N:Int) 1 by rw[k2n,k0J]]
  rw[Rat.mkRat_mul_mkRat,k0S,k0f]
 unfold Go.Proofs.YtabcgemembkkcaaGreatDoor.Exa.sq;rw[e];cases neg
 ·rfl
 ·show -mkRat _ _=mkRat (-((N*t10 x:Nat):Int)) _;rw[Rat.neg_mkRat]
theorem q7l(h:x<=0):t10 x=1:=by unfold t10;rw[show x.toNat=0 by omega]
theorem qcE(s:ByteArray)(hd:q8F s):bl (dvk s s.size)<=4*s.size+1:=by have h:=q8e s hd s.size lr;exact k07 (q1k (k1l h)) (q2q _)
theorem RatioE(neg:Bool)(s:ByteArray)(x:Int)(w:qf)(hm:q1j s x=qm)(hs:s.size<=20000)(h1:-20000<=x)(h2:x<=20000)(hst:Std w):qi qb 19 #[q3J neg s x] w (Rtp.RqP (Go.Proofs.YtabcgemembkkcaaGreatDoor.Exa.sq neg (wo (dvk s s.size) x)) w):=by
 have V:q8F s:=by
  rcases k01 s.size with h0|h0
  ·intro k W;omega
  ·unfold q1j at hm;rw[k0r (by omega)] at hm;simp only[k13] at hm;exact q2g.1 hm.2.1.1
 obtain⟨w0,O⟩:=yx ((w.alloc (.cells #[.bool neg,.string s,.int .i64 x] 27)).alloc (.cells #[.bool qa,.slice qe 0 0,.slice qe 0 0] 39));have i:Cx w [(w.heap.size+1,39,[.bool qa,.slice qe 0 0,.slice qe 0 0]),(w.heap.size,27,[.bool neg,.string s,.int .i64 x])] w0:=by rw[O];exact((Cx.nil w).new _ [_,_,_] rfl).new _ [_,_,_] (by simp)
 have d4:=vv fun w=>Go.Proofs.YtabcgemembkkcaaGreatDoor.Dec.Check neg s x w (by omega)
 rw[Go.Proofs.YtabcgemembkkcaaGreatDoor.Dec.decErr_yes (by omega) hm] at d4;have d5:=vv fun w=>qaN s w V (by omega)
 have d6:=qcE s V;obtain⟨N,hN⟩:=yx (dvk s s.size);rw[<- hN] at d5 d6 ⊢;obtain⟨k,W⟩:∃k:Nat,max x (-x)=k:=⟨(max x (-x)).toNat,by omega⟩;have d7:k<=20000:=by omega
 have a1:=q2q k;have P:=vv fun w=>Pnt.PowTen k w d7
 rw[<- W] at P;obtain⟨Q,F⟩:=yx (10^k);rw[<- F] at P a1;have d8:0<Q:=by rw[F];exact k1g (by decide)
 have e8:=q1T N Q;have e9:=vv fun A n B m w' (k1:RN w' A n n N) (k2:RN w' B m m Q)=>Pnt.Mul A n n N B m m Q w' k1.r k2.r (Rtp.rd_le k1.r (by omega)) (Rtp.rd_le k2.r (by omega)) (by have a:=Rtp.rd_le (k:=2501) k1.r (by omega);have b:=Rtp.rd_le (k:=2501) k2.r (by omega);omega) (Pnt.words_bl' (by omega))
 have d9:=vv fun A n M B m D w' (k1:RN w' A n n M) (k2:RN w' B m m D) (b1:bl M<=180000) (b2:bl D<=180000) (hD:0<D) (hs:Std w')=>Rtp.MakeQ neg A n n B m m M D w' k1.r k2.r (Rtp.rd_le k1.r (by omega)) (Rtp.rd_le k2.r (by omega)) hD hs
 have I:qn (bl N<=180000/\bl Q<=180000/\bl (N*Q)<=180000/\0<Q):=vv ⟨by omega,by omega,by omega,d8⟩;have g6:IntKind.i64.wrap (-x) = -x:=ql _ (by omega);have e0:x<0->Go.Proofs.YtabcgemembkkcaaGreatDoor.Exa.sq neg (wo N x)=mkRat (sg neg N) Q:=fun h=>by rw[wo_mk,q7l (by omega),k0G,F];unfold t10;rw[show(-x).toNat=k by omega]
 have e1:0<=x->Go.Proofs.YtabcgemembkkcaaGreatDoor.Exa.sq neg (wo N x)=mkRat (sg neg (N*Q)) 1:=fun h=>by rw[wo_mk,q7l (x:=-x) (by omega),F];unfold t10;rw[show x.toNat=k by omega]
 have f0:=vv e0;have f2:=vv e1;have e2:=vv hst;have c:=vv i;have HW:=vv O;clear O i hst hm hs V d6 hN W d7 a1 F d8 e8 e0 e1;obtain⟨f4,f5,f6,f7⟩:=Blk.f3 (c.o.get 1 rfl);go_enter func19,ntmps19;go_wp2_with fail;rw[<- HW.o];go_wp2_with fail;refine(d4.o _).mono ?_;rintro e w5 ⟨rfl,d⟩;replace c:=vv (c.o.step d);clear f4 f5 f6 f7 d;obtain⟨f8,f9,g0,g1⟩:=Blk.f3 (c.o.get 1 rfl);go_wp2_with fail;refine(d5.o _).mono ?_;rintro e J ⟨A1,n1,rfl,e3,d⟩;replace c:=vv (c.o.step d);have j:=vv (RN.mk e3);clear f8 f9 g0 g1 d e3;obtain⟨b4,b5,b6,b7⟩:=Blk.f3 (c.o.get 1 rfl);go_wp2_with fail;obtain⟨R,p⟩:=yx (J.heap.size);obtain⟨g2,g⟩:=yx (J.alloc (.cells #[.slice A1 n1 n1] 37));have d:qg J.heap.size J g2:=by rw[g];exact(qd _ _).alloc lr _
 have i:=c.o.new 37 [.slice A1 n1 n1] p;rw[<- g] at i 
 try rw[<- g]
 try rw[<- p]
 replace c:=vv i;replace j:=vv (j.o.below d);clear b4 b5 b6 b7 g d i p;refine(P.o _).mono ?_;rintro e u ⟨L,z,rfl,e4,-,d⟩;replace c:=vv (c.o.step d);replace j:=vv (j.o.below d);have t:=vv (RN.mk e4);clear d e4;obtain⟨a2,a3,a4,a5⟩:=Blk.f3 (c.o.get 2 rfl);obtain⟨a6,a7⟩:=Blk.f1 (c.o.get 0 rfl);rcases k23 x 0 with hx|hx
 ·have t0:qc (x<0)=qm:=k04 hx;have S:=vv (f0.o hx);clear hx;go_wp2_with fail;obtain⟨g3,p⟩:=yx (u.heap.size);obtain⟨T,g⟩:=yx (u.alloc (.cells #[.slice L z z] 37));have d:qg u.heap.size u T:=by rw[g];exact(qd _ _).alloc lr _
  have i:=c.o.new 37 [.slice L z z] p;rw[<- g] at i 
  try rw[<- g]
  try rw[<- p]
  replace c:=vv i;replace j:=vv (j.o.below d);replace t:=vv (t.o.below d);clear a2 a3 a4 a5 a6 a7 g d i p;refine(d9.o _ _ _ _ _ _ _ j.o t.o I.o.1 I.o.2.1 I.o.2.2.2 (c.o.std e2.o)).mono ?_;rintro e g4 ⟨b,X,n,Y,m,rfl,G,d⟩;replace c:=vv (c.o.step d);replace j:=vv (j.o.below d);replace t:=vv (t.o.below d);have C:=vv G;clear d G;have f:=vv (c.o.get 2 rfl);go_wp2_with (with_reducible refine q00 rfl 39 (.tmp 2) (.tmp 46) rfl (w.heap.size+1) [.bool b,.slice X n n,.slice Y m m] rfl rfl 39 _ f.o (by kernel_rfl) rfl rfl ?_);intro E y l;clear f;have f:=vv (c.o.get 2 rfl);replace c:=vv (c.o.put 2 rfl y l);replace C:=vv (C.o.apart_ f.o rfl l);clear f y l;go_wp2;obtain⟨b8,b9,c0⟩:=Blk.c3 (c.o.get 2 rfl);exact qh (v:=.tuple #[q0m b X n n Y m m,.int .i64 0]) (by simp [results,results19,go_sem,b8,b9,c0]) rfl ⟨b,X,n,Y,m,rfl,by rw[S.o];exact C.o,c.o.low⟩
 ·have t0:qc (x<0)=qa:=k02 (by omega);have S:=vv (f2.o hx);clear hx;go_wp2_with fail;obtain⟨g3,p⟩:=yx (u.heap.size);obtain⟨T,g⟩:=yx (u.alloc (.cells #[.slice L z z] 37));have d:qg u.heap.size u T:=by rw[g];exact(qd _ _).alloc lr _
  have i:=c.o.new 37 [.slice L z z] p;rw[<- g] at i 
  try rw[<- g]
  try rw[<- p]
  replace c:=vv i;replace j:=vv (j.o.below d);replace t:=vv (t.o.below d);clear a2 a3 a4 a5 a6 a7 g d i p;refine(e9.o _ _ _ _ _ j.o t.o).mono ?_;rintro e g4 ⟨Z,n3,rfl,e5,-,d⟩;replace c:=vv (c.o.step d);replace j:=vv (j.o.below d);replace t:=vv (t.o.below d);have q:=vv (RN.mk e5);clear d e5;have f:=vv (c.o.get 1 rfl);go_wp2_with (with_reducible refine q00 rfl 37 (.tmp 5) (.tmp 52) rfl R [.slice Z n3 n3] rfl rfl 37 _ f.o (by kernel_rfl) rfl rfl ?_);intro E y l;clear f;have f:=vv (c.o.get 1 rfl);replace c:=vv (c.o.put 1 rfl y l);replace q:=vv (q.o.apart_ f.o rfl l);clear f y l;obtain⟨c2,c4⟩:=Blk.f1 (c.o.get 1 rfl);obtain⟨c5,c6,c7,c8⟩:=Blk.f3 (c.o.get 3 rfl);go_wp2_with fail;obtain⟨a8,a9,b0⟩:=Blk.c3 (c.o.get 3 rfl);have b3:E.cell? ⟨R,0,qe⟩=qj (.slice Z n3 n3):=(c.o.get 1 rfl).cell 0;have c9:=(c.o.get 3 rfl).lt;have d0:=(c.o.get 1 rfl).lt;refine q02 (fun w'=>w'.cell? ⟨w.heap.size,0,qe⟩=qj (.bool neg)/\w'.cell? ⟨w.heap.size,1,qe⟩=qj (.string s)/\w'.cell? ⟨w.heap.size,2,qe⟩=qj (.int .i64 x)/\w'.cell? ⟨R,0,qe⟩=qj (.slice Z n3 n3)) 8
   (.still 0 (.still 1 (.still 2 (.one 3 (.one 4 (.still 5 (.still 6 (.one 7 .done)))))))) ⟨a8,a9,b0,b3⟩ (fun g5=>?_)
  iterate 3
   refine q03 ?_
  clear c2 c4 c5 c6 c7 c8 c9 d0 a8 a9 b0 b3;obtain⟨e6,U⟩:=yx (E.drew);have d:qg E.heap.size E e6:=by rw[U];exact q05 (qd _ _)
  replace c:=vv (c.o.step d);replace q:=vv (q.o.below d);rw[<- U] at g5 ⊢;clear U d;refine q01 rfl (by rfl) (fun K hK=>?_);go_simp;refine(Nat_.Of1 e6).mono ?_;rintro e g7 ⟨A4,rfl,e7,d⟩;replace c:=vv (c.o.step d);replace q:=vv (q.o.below d);have H:=vv (RN.mk e7);clear d e7;go_wp2_with fail;refine hK.out _ _ (Blk.n3 (c.o.get 3 rfl) (Blk.c1 (c.o.get 1 rfl))) (fun a0=>?_);clear hK;refine q01 rfl (by rfl) (fun K hK=>?_);go_simp;refine(d9.o _ _ _ _ _ _ _ q.o H.o I.o.2.2.1 (by decide) (by decide) (c.o.std e2.o)).mono ?_;rintro e g8 ⟨b,X,n,Y,m,rfl,G,d⟩;replace c:=vv (c.o.step d);replace q:=vv (q.o.below d);replace H:=vv (H.o.below d);have C:=vv G;clear d G;go_wp2_with fail;refine hK.out _ _ (Blk.n3 (c.o.get 3 rfl) (Blk.c1 (c.o.get 1 rfl))) (fun a0=>?_);clear hK
  iterate 2
   refine q03 ?_
  refine q01 rfl (by rfl) (fun K hK=>?_);have f:=vv (c.o.get 2 rfl)
  with_reducible refine q0b 39 (.tmp 2) (.tmp 63) rfl (w.heap.size+1) [.bool b,.slice X n n,.slice Y m m] rfl rfl 39 _ f.o (by kernel_rfl) rfl rfl ?_
  intro g9 y l;replace c:=vv (c.o.put 2 rfl y l);replace q:=vv (q.o.apart_ f.o rfl l);replace H:=vv (H.o.apart_ f.o rfl l);replace C:=vv (C.o.apart_ f.o rfl l);clear f y l;refine hK.out _ _ (Blk.n3 (c.o.get 3 rfl) (Blk.c1 (c.o.get 1 rfl))) (fun a0=>?_);clear hK;refine q08 ?_;simp only[k0o,k0w];go_wp2;obtain⟨d1,d2,d3⟩:=Blk.c3 (c.o.get 2 rfl);exact qh (v:=.tuple #[q0m b X n n Y m m,.int .i64 0]) (by simp [results,results19,go_sem,d1,d2,d3]) rfl ⟨b,X,n,Y,m,rfl,by rw[S.o];exact C.o,c.o.low⟩
end Dcm
namespace Sho
open Go Go.RowKit R5 Scn Sh Rtp
structure RV where
 b:Bool
 X:Option qk
 n:Nat
 c:Nat
 Y:Option qk
 m:Nat
 d:Nat
abbrev RV.v(r:RV):Value:=.agg #[.bool r.b,.slice r.X r.n r.c,.slice r.Y r.m r.d]
def RI(w:qf)(r:RV)(q:Rat):Prop:=RQ w r.b r.X r.n r.c r.Y r.m r.d q
theorem RI.below{r:RV}{q:Rat}(h:RI w r q)(hb:qg w.heap.size w w'):RI w' r q:=RQ.below h hb
theorem RI.apart_{r:RV}{q:Rat}(h:RI w r q)(hb:Blk w g t cs)(hcs:cs.all (fun v=>match v with|.int .u32 _=>qa|_=>qm)=qm)(hg:w.grownBy w' (qj g)):RI w' r q:=RQ.apart_ h hb hcs hg
def RvP(q:Rat)(w:qf)(e:Ending)(w':qf):Prop:=∃r:RV,e=.returned (.tuple #[r.v,.int .i64 0])/\RI w' r q/\qg w.heap.size w w'
theorem RvP.of{q:Rat}{e:Ending}(h:RqP q w e w'):RvP q w e w':=by obtain⟨b,X,n,Y,m,a,c,d⟩:=h;exact⟨⟨b,X,n,n,Y,m,m⟩,a,c,d⟩
theorem qbC(r:RV)(a:Rat)(s:RV)(b:Rat)(w:qf)(ha:RI w r a)(hb:RI w s b)(sa:Qb 200000 a)(sb:Qb 200000 b)(hst:Std w):qi qb 110 #[r.v,s.v] w fun e w'=>e=.returned (.tuple #[.int .i64 (q1s a b),.int .i64 0])/\qg w.heap.size w w':=qeM a _ _ _ _ _ _ _ b _ _ _ _ _ _ _ w ha hb (sa.mono (by decide)) (sb.mono (by decide)) hst
theorem qdd(r:RV)(a:Rat)(w:qf)(ha:RI w r a)(sa:Qb 200000 a)(hst:Std w):qi qb 61 #[r.v] w (RvP (-a) w):=(qee a _ _ _ _ _ _ _ w ha sa hst).mono fun _ _ h=>.of h
theorem qeP(r:RV)(a:Rat)(w:qf)(ha:RI w r a)(sa:Qb 200000 a)(hst:Std w):qi qb 235 #[r.v] w (RvP a.abs w):=(qeQ a _ _ _ _ _ _ _ w ha sa hst).mono fun _ _ h=>.of h
theorem qeF(r:RV)(a:Rat)(s:RV)(b:Rat)(w:qf)(ha:RI w r a)(hb:RI w s b)(sa:Qb 200000 a)(sb:Qb 200000 b)(hst:Std w):qi qb 234 #[r.v,s.v] w (RvP (a-b) w):=(qeG a _ _ _ _ _ _ _ b _ _ _ _ _ _ _ w ha hb sa sb hst).mono fun _ _ h=>.of h
theorem qal(r:RV)(q:Rat)(k:Int)(w:qf)(h:RI w r q)(hs:Qb 200000 q)(hq:0<q)(hk1:-20000<=k)(hk2:k<=20000)(hst:Std w):qi qb 141 #[r.v,.int .u32 10,.int .i64 k] w (RvP (q*tp k) w):=(qcX q _ _ _ _ _ _ _ k w h (hs.mono (by decide)) hq hk1 hk2 hst).mono fun _ _ h=>.of h
theorem qd2(r:RV)(q:Rat)(w:qf)(h:RI w r q)(hs:Qb 200000 q)(hq:0<=q)(hst:Std w):qi qb 142 #[r.v] w (qao q.floor.natAbs w):=qd3 q _ _ _ _ _ _ _ w h (hs.mono (by decide)) hq hst
theorem cmp3(a b:Rat):q1s a b = -1\/q1s a b=0\/q1s a b=1:=by
 unfold q1s;split
 ·exact .inl rfl
 ·split
  ·exact .inr (.inr rfl)
  ·exact .inr (.inl rfl)
theorem qdp(r:RV)(a:Rat)(s:RV)(b:Rat)(w:qf)(ha:RI w r a)(hb:RI w s b)(sa:Qb 200000 a)(sb:Qb 200000 b)(hst:Std w):qi qb 143 #[r.v,s.v] w fun e w'=>e=.returned (.bool (q1s a b==0))/\qg w.heap.size w w':=by
 obtain⟨i,h⟩:=yx ((w.alloc (.cells #[.bool r.b,.slice r.X r.n r.c,.slice r.Y r.m r.d] 39)).alloc (.cells #[.bool s.b,.slice s.X s.n s.c,.slice s.Y s.m s.d] 39));have f:Cx w [(w.heap.size+1,39,[.bool s.b,.slice s.X s.n s.c,.slice s.Y s.m s.d]),(w.heap.size,39,[.bool r.b,.slice r.X r.n r.c,.slice r.Y r.m r.d])] i:=by rw[h];exact((Cx.nil w).new _ [_,_,_] rfl).new _ [_,_,_] (by simp)
 have k:=vv (qbC r a s b i (ha.below f.low) (hb.below f.low) sa sb (f.std hst));have g:=vv f;have C:=vv h;clear h f ha hb sa sb hst;obtain⟨l,p,q,t⟩:=Blk.f3 (g.o.get 0 rfl);obtain⟨u,x,y,z⟩:=Blk.f3 (g.o.get 1 rfl);go_enter func143,ntmps143;go_wp2_with fail;rw[<- C.o];go_wp2_with fail;refine(k.o).mono ?_;rintro e D ⟨rfl,j⟩;replace g:=vv (g.o.step j);clear l p q t u x y z j;go_wp2;go_ret;exact⟨rfl,g.o.low⟩
theorem qdE(neg:Bool)(s:ByteArray)(x:Int)(w:qf)(h0:0<s.size)(h1:s.size<=65536):qi qb 146 #[q3J neg s x] w fun e w'=>e=.returned (.bool (s[s.size-1].toNat%2==0))/\qg w.heap.size w w':=by
 have g:s.size-1<s.size:=by omega
 obtain⟨d,a⟩:=yx (w.alloc (.cells #[.bool neg,.string s,.int .i64 x] 27));have b:Cx w [(w.heap.size,27,[.bool neg,.string s,.int .i64 x])] d:=by rw[a];exact(Cx.nil w).new _ [_,_,_] rfl
 have i:(bits .and .u8 (s[s.size-1].toNat:Int) 1==0)=(s[s.size-1].toNat%2==0):=by
  have:=UInt8.toNat_lt s[s.size-1];generalize s[s.size-1].toNat=k at *
  have e:bits .and .u8 (k:Int) 1=((k%2:Nat):Int):=by
   have:∀k:Fin 256,bits .and .u8 ((k.val:Nat):Int) 1=((k.val%2:Nat):Int):=by decide +kernel
   exact this ⟨k,by omega⟩
  rw[e];rcases k0U k with h|h<;>rw[h]<;>rfl
 have j:(s.size:Int)<=65536:=by omega
 have c:=vv b;have f:=vv a;clear a b;obtain⟨l,m,n,p⟩:=Blk.f3 (c.o.get 0 rfl);go_enter func146,ntmps146;go_wp2_with fail;rw[<- f.o];go_wp2;go_ret;exact⟨rfl,c.o.low⟩
structure SI(w:qf)(l h:RV)(s:Span):Prop where
 l:RI w l s.lo
 h:RI w h s.hi
theorem SI.below{l h:RV}{s:Span}(k:SI w l h s)(hb:qg w.heap.size w w'):SI w' l h s:=⟨k.l.below hb,k.h.below hb⟩
theorem SI.apart_{l h:RV}{s:Span}(k:SI w l h s)(hb:Blk w g t cs)(hcs:cs.all (fun v=>match v with|.int .u32 _=>qa|_=>qm)=qm)(hg:w.grownBy w' (qj g)):SI w' l h s:=⟨k.l.apart_ hb hcs hg,k.h.apart_ hb hcs hg⟩
def spV(l h:RV)(s:Span):Value:=.agg #[.bool l.b,.slice l.X l.n l.c,.slice l.Y l.m l.d,.bool h.b,.slice h.X h.n h.c,.slice h.Y h.m h.d,.bool s.li,.bool s.hn]
theorem in_(l h:RV)(s:Span)(r:RV)(q:Rat)(w:qf)(hs:SI w l h s)(hr:RI w r q)(s1:Qb 200000 s.lo)(s2:Qb 200000 s.hi)(s3:Qb 200000 q)(hst:Std w):qi qb 44 #[spV l h s,r.v] w fun e w'=>e=.returned (.bool (s.has q))/\qg w.heap.size w w':=by
 obtain⟨w0,x⟩:=yx ((w.alloc (.cells #[.bool l.b,.slice l.X l.n l.c,.slice l.Y l.m l.d,.bool h.b,.slice h.X h.n h.c,.slice h.Y h.m h.d,.bool s.li,.bool s.hn] 69)).alloc (.cells #[.bool r.b,.slice r.X r.n r.c,.slice r.Y r.m r.d] 39));have u:Cx w [(w.heap.size+1,39,[.bool r.b,.slice r.X r.n r.c,.slice r.Y r.m r.d]),(w.heap.size,69,[.bool l.b,.slice l.X l.n l.c,.slice l.Y l.m l.d,.bool h.b,.slice h.X h.n h.c,.slice h.Y h.m h.d,.bool s.li,.bool s.hn])] w0:=by rw[x];exact((Cx.nil w).new _ [_,_,_,_,_,_,_,_] rfl).new _ [_,_,_] (by simp)
 have J:=vv fun w' (k:SI w' l h s) (k2:RI w' r q) (hst:Std w')=>qbC l s.lo r q w' k.l k2 s1 s3 hst
 have K:=vv fun w' (k:SI w' l h s) (k2:RI w' r q) (hst:Std w')=>qbC r q h s.hi w' k2 k.h s3 s2 hst
 have j:=vv (hs.below u.low);have t:=vv (hr.below u.low);have D:=cmp3 s.lo q;have E:=cmp3 q s.hi;have y:s.has q=((qc (q1s s.lo q<0) || (q1s s.lo q==0 && s.li)) && (qc (q1s q s.hi<0) || (q1s q s.hi==0 && s.hn))):=rfl;obtain⟨a,F⟩:=yx (q1s s.lo q);obtain⟨b,G⟩:=yx (q1s q s.hi);obtain⟨p,H⟩:=yx (s.has q);rw[<- F] at J D;rw[<- G] at K E;rw[<- F,<- G,<- H] at y;rw[<- H];obtain⟨N,z⟩:=yx (s.li);obtain⟨I,C⟩:=yx (s.hn);rw[<- z,<- C] at u x y;have HV:qn (spV l h s=.agg #[.bool l.b,.slice l.X l.n l.c,.slice l.Y l.m l.d,.bool h.b,.slice h.X h.n h.c,.slice h.Y h.m h.d,.bool N,.bool I]):=vv (by rw[z,C];rfl);have L:=vv hst;have i:=vv y;have O:=vv D;have M:=vv E;have f:=vv u;have HW:=vv x;clear x u hs hr s1 s2 s3 hst y D E F G H z C;rw[HV.o];obtain⟨P,Q,R,S⟩:=Blk.f3 (f.o.get 0 rfl);obtain⟨T,U,V,W,Z,a0,a1,a2,a3⟩:=Blk.f8 (f.o.get 1 rfl);go_enter func44,ntmps44;go_wp2_with fail;rw[<- HW.o];go_wp2_with fail;refine(J.o _ j.o t.o (f.o.std L.o)).mono ?_;rintro e c6 ⟨rfl,g⟩;replace f:=vv (f.o.step g);replace j:=vv (j.o.below g);replace t:=vv (t.o.below g);clear P Q R S T U V W Z a0 a1 a2 a3 g;obtain⟨a4,a5,a6,a7⟩:=Blk.f3 (f.o.get 0 rfl);obtain⟨a8,a9,b0,b1,b2,b3,b4,b5,b6⟩:=Blk.f8 (f.o.get 1 rfl);go_wp2_with fail;refine(K.o _ j.o t.o (f.o.std L.o)).mono ?_;rintro e c7 ⟨rfl,g⟩;replace f:=vv (f.o.step g);replace j:=vv (j.o.below g);replace t:=vv (t.o.below g);clear a4 a5 a6 a7 a8 a9 b0 b1 b2 b3 b4 b5 b6 g;obtain⟨b7,b8,b9,c0,c1,c2,c3,c4,c5⟩:=Blk.f8 (f.o.get 1 rfl);rcases O.o with rfl|rfl|rfl
 ·rcases M.o with rfl|rfl|rfl
  ·go_wp2;go_ret;exact⟨by rw[i.o];rfl,f.o.low⟩
  ·cases I
   all_goals
    go_wp2;go_ret;exact⟨by rw[i.o];rfl,f.o.low⟩
  ·go_wp2;go_ret;exact⟨by rw[i.o];rfl,f.o.low⟩
 ·cases N
  ·go_wp2;go_ret;exact⟨by rw[i.o];rfl,f.o.low⟩
  ·rcases M.o with rfl|rfl|rfl
   ·go_wp2;go_ret;exact⟨by rw[i.o];rfl,f.o.low⟩
   ·cases I
    all_goals
     go_wp2;go_ret;exact⟨by rw[i.o];rfl,f.o.low⟩
   ·go_wp2;go_ret;exact⟨by rw[i.o];rfl,f.o.low⟩
 ·go_wp2;go_ret;exact⟨by rw[i.o];rfl,f.o.low⟩
theorem q9v(l h:RV)(s:Span)(w:qf)(hs:SI w l h s)(s1:Qb 200000 s.lo)(s2:Qb 200000 s.hi)(hst:Std w):qi qb 69 #[spV l h s] w fun e w'=>∃l' h',e=.returned (spV l' h' s.flip)/\SI w' l' h' s.flip/\qg w.heap.size w w':=by
 obtain⟨w0,C⟩:=yx ((w.alloc (.cells #[.bool l.b,.slice l.X l.n l.c,.slice l.Y l.m l.d,.bool h.b,.slice h.X h.n h.c,.slice h.Y h.m h.d,.bool s.li,.bool s.hn] 69)).alloc (.cells #[.bool qa,.slice qe 0 0,.slice qe 0 0,.bool qa,.slice qe 0 0,.slice qe 0 0,.bool qa,.bool qa] 69));have j:Cx w [(w.heap.size+1,69,[.bool qa,.slice qe 0 0,.slice qe 0 0,.bool qa,.slice qe 0 0,.slice qe 0 0,.bool qa,.bool qa]),(w.heap.size,69,[.bool l.b,.slice l.X l.n l.c,.slice l.Y l.m l.d,.bool h.b,.slice h.X h.n h.c,.slice h.Y h.m h.d,.bool s.li,.bool s.hn])] w0:=by rw[C];exact((Cx.nil w).new _ [_,_,_,_,_,_,_,_] rfl).new _ [_,_,_,_,_,_,_,_] (by simp)
 have L:=vv fun w' (k:SI w' l h s) (hst:Std w')=>qdd h s.hi w' k.h s2 hst
 have M:=vv fun w' (k:SI w' l h s) (hst:Std w')=>qdd l s.lo w' k.l s1 hst
 have r:=vv (hs.below j.low);have J:=vv hst;obtain⟨H,D⟩:=yx (s.li);obtain⟨I,E⟩:=yx (s.hn);rw[<- D,<- E] at j C;have HV:qn (spV l h s=.agg #[.bool l.b,.slice l.X l.n l.c,.slice l.Y l.m l.d,.bool h.b,.slice h.X h.n h.c,.slice h.Y h.m h.d,.bool H,.bool I]):=vv (by rw[D,E];rfl);have N:qn (∀l' h',spV l' h' s.flip=.agg #[.bool l'.b,.slice l'.X l'.n l'.c,.slice l'.Y l'.m l'.d,.bool h'.b,.slice h'.X h'.n h'.c,.slice h'.Y h'.m h'.d,.bool I,.bool H]):=vv (by intro l' h';rw[D,E];rfl);have g:=vv j;have HW:=vv C;clear C j hs s1 s2 hst D E;rw[HV.o];obtain⟨O,P,Q,R,S,T,U,V,W⟩:=Blk.f8 (g.o.get 1 rfl);go_enter func69,ntmps69;go_wp2_with fail;rw[<- HW.o];go_wp2_with fail;refine(L.o _ r.o (g.o.std J.o)).mono ?_;rintro e F ⟨a,rfl,x,i⟩;replace g:=vv (g.o.step i);replace r:=vv (r.o.below i);have q:=vv x;clear O P Q R S T U V W i x;obtain⟨Z,a0,a1,a2,a3,a4,a5,a6,a7⟩:=Blk.f8 (g.o.get 1 rfl);go_wp2_with fail;obtain⟨d2,t⟩:=yx (F.heap.size);obtain⟨d0,p⟩:=yx (F.alloc (.cells #[.bool a.b,.slice a.X a.n a.c,.slice a.Y a.m a.d] 39));have i:qg F.heap.size F d0:=by rw[p];exact(qd _ _).alloc lr _
 have j:=g.o.new 39 [.bool a.b,.slice a.X a.n a.c,.slice a.Y a.m a.d] t;rw[<- p] at j 
 try rw[<- p]
 try rw[<- t]
 replace g:=vv j;replace r:=vv (r.o.below i);replace q:=vv (q.o.below i);clear Z a0 a1 a2 a3 a4 a5 a6 a7 p i j t;refine(M.o _ r.o (g.o.std J.o)).mono ?_;rintro e G ⟨f,rfl,x,i⟩;replace g:=vv (g.o.step i);replace r:=vv (r.o.below i);replace q:=vv (q.o.below i);have y:=vv x;clear i x;obtain⟨a8,a9,b0,b1⟩:=Blk.f3 (g.o.get 0 rfl);obtain⟨b2,b3,b4,b5,b6,b7,b8,b9,c0⟩:=Blk.f8 (g.o.get 2 rfl);have u:=vv (g.o.get 1 rfl);go_wp2_with (with_reducible refine q00 rfl 69 (.tmp 2) (.tmp 25) rfl (w.heap.size+1) [.bool a.b,.slice a.X a.n a.c,.slice a.Y a.m a.d,.bool f.b,.slice f.X f.n f.c,.slice f.Y f.m f.d,.bool I,.bool H] rfl rfl 69 _ (u.o.alloc _) (by kernel_rfl) rfl rfl ?_);intro d3 K z;clear u;obtain⟨d4,t⟩:=yx (G.heap.size);obtain⟨d1,p⟩:=yx (G.alloc (.cells #[.bool f.b,.slice f.X f.n f.c,.slice f.Y f.m f.d] 39));have i:qg G.heap.size G d1:=by rw[p];exact(qd _ _).alloc lr _
 have j:=g.o.new 39 [.bool f.b,.slice f.X f.n f.c,.slice f.Y f.m f.d] t;rw[<- p] at j z
 try rw[<- p]
 try rw[<- t]
 replace g:=vv j;replace q:=vv (q.o.below i);replace y:=vv (y.o.below i);clear a8 a9 b0 b1 b2 b3 b4 b5 b6 b7 b8 b9 c0 p i j t;have u:=vv (g.o.get 2 rfl);replace g:=vv (g.o.put 2 rfl K z);replace q:=vv (q.o.apart_ u.o rfl z);replace y:=vv (y.o.apart_ u.o rfl z);clear u K z;go_wp2;obtain⟨c1,c2,c3,c4,c5,c6,c7,c9⟩:=Blk.c8 (g.o.get 2 rfl);exact qh (v:=.agg #[.bool a.b,.slice a.X a.n a.c,.slice a.Y a.m a.d,.bool f.b,.slice f.X f.n f.c,.slice f.Y f.m f.d,.bool I,.bool H]) (by simp [results,results69,go_sem,c1,c2,c3,c4,c5,c6,c7,c9]) rfl ⟨a,f,by rw[N.o],⟨q.o,y.o⟩,g.o.low⟩
theorem bl_len(N:Nat):bl N<=4*q0K N+1:=k07 (q1k (k1l (Lib.lt_pow_nDigits N))) (q2q _)
theorem wo_Qb{e:Int}(h:q0K N<=9000)(h1:-9000<=e)(h2:e<=9000):Qb 73000 (wo N e):=by have a:=bl_len N;have b:Qb 36001 ((N:Nat):Rat):=Qb.nat (by omega) (by decide) (by decide);have c:=b.mul (Qb.tp e);exact c.mono (by omega)
theorem qen(r:RV)(q:Rat)(w:qf)(hr:RI w r q)(hq:0<q)(hs:Qb 3000 q)(hst:Std w):qi qb 140 #[r.v] w fun e w'=>e=.returned (.int .i64 (top q))/\qg w.heap.size w w':=by
 obtain⟨w0,J⟩:=yx (w.alloc (.cells #[.bool r.b,.slice r.X r.n r.c,.slice r.Y r.m r.d] 39));have l:Cx w [(w.heap.size,39,[.bool r.b,.slice r.X r.n r.c,.slice r.Y r.m r.d])] w0:=by rw[J];exact(Cx.nil w).new _ [_,_,_] rfl
 have hn:=q18 hq;have l1:=q2o (n:=q.num.natAbs) (by omega);have l2:=q2o q.den_pos;have b1:=hs.1;have b2:=hs.2;have R:=vv fun w' (k:RI w' r q)=>Pnt.Text r.X r.n r.c _ w' k.x (RQ.n_le k (hs.mono (by decide))).1 (by omega)
 have S:=vv fun w' (k:RI w' r q)=>Pnt.Text r.Y r.m r.d _ w' k.y (RQ.n_le k (hs.mono (by decide))).2 (by omega)
 obtain⟨S1,T⟩:=yx (q0J q.num.natAbs);obtain⟨S2,U⟩:=yx (q0J q.den);have N:=q0z q.num.natAbs;have O:=q0z q.den;rw[<- T] at R N;rw[<- U] at S O;have a7:=vv fun w'=>q52 1 w' (by decide)
 have a8:=vv fun ro k w' (h:RI w' ro ((1:Int):Rat)) (h1:-3000<=k) (h2:k<=3000) (hst:Std w')=>qal ro 1 k w' h ⟨by decide,by decide⟩ (by decide) (by omega) (by omega) hst
 obtain⟨k,P⟩:∃k:Int,k=(S1.size:Int)-(S2.size:Int):=⟨_,rfl⟩;have V:-3000<=k:=by omega
 have W:k<=3000:=by omega
 have c3:(S1.size:Int)<=3000:=by omega
 have c4:(S2.size:Int)<=3000:=by omega
 have H:(1:Rat)*tp k=tp k:=k2x _;have C:=vv fun s w' (h1:RI w' r q) (h2:RI w' s (1*tp k)) (hst:Std w')=>qbC r q s _ w' h1 h2 (hs.mono (by decide)) (by rw[H];exact(Qb.tp k).mono (by omega)) hst
 have Z:top q=if q<tp k then k-1 else k:=by unfold top;rw[P,N,O]
 rw[H] at C;have a9:=vv H;rw[Z];obtain⟨t,Q⟩:=yx (tp k);obtain⟨u,D⟩:=yx (q1s q t);rw[<- Q] at C ⊢;rw[<- D] at C;have a4:(if q<t then k-1 else k)=if u<0 then k-1 else k:=by
  by_cases h:q<t
  ·rw[k0p h,k0p (by rw[D];exact q3y.2 h)]
  ·rw[k0r h,k0r (by rw[D];exact fun a=>h (q3y.1 a))]
 rw[a4];obtain⟨tq,K⟩:=yx (if u<0 then k-1 else k);rw[<- K];have a5:=vv K;have E:=vv (And.intro V W);have HK:=vv P;have b3:=vv Q;have i:=vv (hr.below l.low);have a6:=vv hst;have g:=vv l;have HW:=vv J;clear J l hr hq hs hst hn l1 l2 b1 b2 T U N O P V W H Z D a4 Q K;obtain⟨b4,b5,b6,b7⟩:=Blk.f3 (g.o.get 0 rfl);go_enter func140,ntmps140;go_wp2_with fail;rw[<- HW.o];go_wp2_with fail;refine(R.o _ i.o).mono ?_;rintro e w5 ⟨rfl,f⟩;replace g:=vv (g.o.step f);replace i:=vv (i.o.below f);clear b4 b5 b6 b7 f;obtain⟨b8,b9,c0,c1⟩:=Blk.f3 (g.o.get 0 rfl);go_wp2_with fail;refine(S.o _ i.o).mono ?_;rintro e c5 ⟨rfl,f⟩;replace g:=vv (g.o.step f);replace i:=vv (i.o.below f);clear b8 b9 c0 c1 f;go_wp2_with fail;refine(a7.o _).mono ?_;rintro e c6 ⟨b0,X1,n1,Y1,I,rfl,z,f⟩;replace g:=vv (g.o.step f);replace i:=vv (i.o.below f);clear f;have HO:qn (RI _ ⟨b0,X1,n1,n1,Y1,I,I⟩ ((1:Int):Rat)):=vv z;clear z;rw[<- HK.o];go_wp2_with fail;refine(a8.o ⟨b0,X1,n1,n1,Y1,I,I⟩ _ _ HO.o E.o.1 E.o.2 (g.o.std a6.o)).mono ?_;rintro e F ⟨j,rfl,z,f⟩;replace g:=vv (g.o.step f);replace i:=vv (i.o.below f);have p:=vv z;clear f z;rw[a9.o,<- b3.o] at p;obtain⟨a0,a1,a2,a3⟩:=Blk.f3 (g.o.get 0 rfl);go_wp2_with fail;obtain⟨c7,L⟩:=yx (F.heap.size);obtain⟨c2,G⟩:=yx (F.alloc (.cells #[.bool j.b,.slice j.X j.n j.c,.slice j.Y j.m j.d] 39));have f:qg F.heap.size F c2:=by rw[G];exact(qd _ _).alloc lr _
 have l:=g.o.new 39 [.bool j.b,.slice j.X j.n j.c,.slice j.Y j.m j.d] L;rw[<- G] at l 
 try rw[<- G]
 try rw[<- L]
 replace g:=vv l;replace i:=vv (i.o.below f);replace p:=vv (p.o.below f);clear a0 a1 a2 a3 G f l L;refine(C.o _ _ i.o p.o (g.o.std a6.o)).mono ?_;rintro e c8 ⟨rfl,f⟩;replace g:=vv (g.o.step f);replace i:=vv (i.o.below f);replace p:=vv (p.o.below f);clear f;have q1:=E.o.1;have q2:=E.o.2;by_cases hc:u<0
 ·have t0:qc (u<0)=qm:=k04 hc;have M:=vv hc;clear hc;go_wp2;go_ret;exact⟨by show Ending.returned (.int .i64 (k-1))=_;rw[a5.o,k0p (by have:=M.o;omega)],g.o.low⟩
 ·have t0:qc (u<0)=qa:=k02 hc;have M:=vv hc;clear hc;go_wp2;go_ret;exact⟨by show Ending.returned (.int .i64 k)=_;rw[a5.o,k0r (by have:=M.o;omega)],g.o.low⟩
def SdP(N:Nat)(x:Int)(v:Rat)(s:Span)(w:qf)(e:Ending)(w':qf):Prop:=
 ∃r:RV,e=.returned (.agg #[.bool qa,.string (q0J (q0E N)),.int .i64 (x+(Go.Proofs.YtabcgemembkkcaaGreatDoor.Sh.tz N:Int)),.bool r.b,.slice r.X r.n r.c,.slice r.Y r.m r.d,.bool (s.has (wo N x))])/\RI w' r (Sh.far v N x)/\qg w.heap.size w w'
theorem qbn(A:Option qk)(n c N:Nat)(x:Int)(r l h:RV)(v:Rat)(s:Span)(w:qf)(hA:Rd w A n c (toL N))(hr:RI w r v)(hs:SI w l h s)(hN:0<N)(hl:q0K N<=9000)(hx1:-9000<=x)(hx2:x<=9000)
  (s1:Qb 3000 s.lo) (s2:Qb 3000 s.hi) (s3:Qb 3000 v) (hst:Std w) :
  qi qb 145 #[q0x A n c,.int .i64 x,r.v,.func (.func 44) #[spV l h s] #[]] w (SdP N x v s w):=by
 obtain⟨w0,R⟩:=yx (((w.alloc (.cells #[.slice A n c] 37)).alloc (.cells #[.bool r.b,.slice r.X r.n r.c,.slice r.Y r.m r.d] 39)).alloc (.cells #[.bool qa,.string ⟨#[]⟩,.int .i64 0,.bool qa,.slice qe 0 0,.slice qe 0 0,.bool qa] 192));have p:Cx w [(w.heap.size+2,192,[.bool qa,.string ⟨#[]⟩,.int .i64 0,.bool qa,.slice qe 0 0,.slice qe 0 0,.bool qa]),(w.heap.size+1,39,[.bool r.b,.slice r.X r.n r.c,.slice r.Y r.m r.d]),(w.heap.size,37,[.slice A n c])] w0:=by rw[R];exact(((Cx.nil w).new _ [_] rfl).new _ [_,_,_] (by simp)).new _ [_,_,_,_,_,_,_] (by simp)
 have hb:=bl_len N;have hz:=q0z (q0E N);have b4:=q1w hN;have a0:=q8X (x:=x+(Go.Proofs.YtabcgemembkkcaaGreatDoor.Sh.tz N:Int)) hN (by omega) (by omega) (by omega);have J:=wo_Qb hl hx1 hx2;have c9:=vv fun w' (k:RN w' A n c N)=>Pnt.Text A n c N w' k.r (rd_le k.r (by omega)) (by omega)
 have d0:=vv fun w'=>Dcm.MakeT N x w' hN (by omega) (by omega) (by omega)
 have U:=vv fun w' (hst:Std w')=>Dcm.RatioE qa (q0J (q0E N)) (x+(Go.Proofs.YtabcgemembkkcaaGreatDoor.Sh.tz N:Int)) w' a0 (by omega) (by omega) (by omega) hst
 rw[q8Y,show Go.Proofs.YtabcgemembkkcaaGreatDoor.Exa.sq qa (wo (q0E N) (x+(Go.Proofs.YtabcgemembkkcaaGreatDoor.Sh.tz N:Int)))=wo (q0E N) (x+(Go.Proofs.YtabcgemembkkcaaGreatDoor.Sh.tz N:Int)) from rfl,qbD hN] at U;have d4:=vv fun r1 w' (k1:RI w' r1 (wo N x)) (k2:RI w' r v) (hst:Std w')=>qeF r1 (wo N x) r v w' k1 k2 (J.mono (by decide)) (s3.mono (by decide)) hst
 have d1:Qb 80000 (wo N x-v):=(Qb.sub J s3).mono (by decide);have d5:=vv fun r1 w' (k1:RI w' r1 (wo N x-v)) (hst:Std w')=>qeP r1 (wo N x-v) w' k1 (d1.mono (by decide)) hst
 have V:=vv fun r1 w' (k0:SI w' l h s) (k1:RI w' r1 (wo N x)) (hst:Std w')=>in_ l h s r1 (wo N x) w' k0 k1 (s1.mono (by decide)) (s2.mono (by decide)) (J.mono (by decide)) hst
 have HF:qn (Sh.far v N x=(wo N x-v).abs):=vv rfl;obtain⟨z,W⟩:∃z:Int,z=x+(Go.Proofs.YtabcgemembkkcaaGreatDoor.Sh.tz N:Int):=⟨_,rfl⟩;obtain⟨S,hS⟩:=yx (q0J (q0E N));obtain⟨T,hT⟩:=yx (q0J N);unfold SdP;rw[<- W,<- hS,<- hT] at d0;rw[<- W,<- hS] at U ⊢;rw[<- hT] at c9;obtain⟨d2,a1⟩:∃b,b=s.has (wo N x):=⟨_,rfl⟩;rw[<- a1] at V ⊢;have HN:=vv (RN.mk (hA.below p.low rfl));have y:=vv (hr.below p.low);have i:=vv (hs.below p.low);obtain⟨sp,d3⟩:=yx (spV l h s);rw[<- d3] at V ⊢;have L:=vv hst;have f:=vv p;have HW:=vv R;clear R p hA hr hs hN hl s1 s2 s3 hst hb hz b4 a0 J d1 W hS hT a1 d3;obtain⟨d6,d7⟩:=Blk.f1 (f.o.get 2 rfl);go_enter func145,ntmps145;go_wp2_with fail;rw[<- HW.o];go_wp2_with fail;refine(c9.o _ HN.o).mono ?_;rintro e w3 ⟨rfl,a⟩;replace f:=vv (f.o.step a);replace HN:=vv (HN.o.below a);replace y:=vv (y.o.below a);replace i:=vv (i.o.below a);clear d6 d7 a;go_wp2_with fail;refine(d0.o _).mono ?_;rintro e P ⟨rfl,a⟩;replace f:=vv (f.o.step a);replace y:=vv (y.o.below a);replace i:=vv (i.o.below a);clear a;go_wp2_with fail;obtain⟨g7,D⟩:=yx (P.heap.size);obtain⟨w6,t⟩:=yx (P.alloc (.cells #[.bool qa,.string S,.int .i64 z] 27));have a:qg P.heap.size P w6:=by rw[t];exact(qd _ _).alloc lr _
 have p:=f.o.new 27 [.bool qa,.string S,.int .i64 z] D;rw[<- t] at p 
 try rw[<- t]
 try rw[<- D]
 replace f:=vv p;replace y:=vv (y.o.below a);replace i:=vv (i.o.below a);clear t a p D;refine(U.o _ (f.o.std L.o)).mono ?_;rintro e Q ⟨b,X,n1,Y,C,rfl,hq,a⟩;replace f:=vv (f.o.step a);replace y:=vv (y.o.below a);replace i:=vv (i.o.below a);clear a;have j:qn (RI _ ⟨b,X,n1,n1,Y,C,C⟩ (wo N x)):=vv hq;clear hq;obtain⟨d8,d9,b5,b6⟩:=Blk.f3 (f.o.get 2 rfl);go_wp2_with fail;obtain⟨Z,D⟩:=yx (Q.heap.size);obtain⟨e0,t⟩:=yx (Q.alloc (.cells #[.bool b,.slice X n1 n1,.slice Y C C] 39));have a:qg Q.heap.size Q e0:=by rw[t];exact(qd _ _).alloc lr _
 have p:=f.o.new 39 [.bool b,.slice X n1 n1,.slice Y C C] D;rw[<- t] at p 
 try rw[<- t]
 try rw[<- D]
 replace f:=vv p;replace y:=vv (y.o.below a);replace i:=vv (i.o.below a);replace j:=vv (j.o.below a);clear d8 d9 b5 b6 t a p D;refine(d4.o ⟨b,X,n1,n1,Y,C,C⟩ _ j.o y.o (f.o.std L.o)).mono ?_;rintro e M ⟨q,rfl,H,a⟩;replace f:=vv (f.o.step a);replace y:=vv (y.o.below a);replace i:=vv (i.o.below a);replace j:=vv (j.o.below a);have I:=vv H;clear a H;go_wp2_with fail;obtain⟨O,D⟩:=yx (M.heap.size);obtain⟨e1,t⟩:=yx (M.alloc (.cells #[.bool q.b,.slice q.X q.n q.c,.slice q.Y q.m q.d] 39));have a:qg M.heap.size M e1:=by rw[t];exact(qd _ _).alloc lr _
 have p:=f.o.new 39 [.bool q.b,.slice q.X q.n q.c,.slice q.Y q.m q.d] D;rw[<- t] at p 
 try rw[<- t]
 try rw[<- D]
 replace f:=vv p;replace i:=vv (i.o.below a);replace j:=vv (j.o.below a);replace I:=vv (I.o.below a);clear t a p D;refine(d5.o q _ I.o (f.o.std L.o)).mono ?_;rintro e e4 ⟨g,rfl,H,a⟩;replace f:=vv (f.o.step a);replace i:=vv (i.o.below a);replace j:=vv (j.o.below a);replace I:=vv (I.o.below a);have F:=vv H;clear a H;rw[<- HF.o] at F;have u:=vv (f.o.get 0 rfl);go_wp2_with (with_reducible refine q00 rfl 39 (.tmp 15) (.tmp 42) rfl O [.bool g.b,.slice g.X g.n g.c,.slice g.Y g.m g.d] rfl rfl 39 _ u.o (by kernel_rfl) rfl rfl ?_);intro b2 G E;clear u;have u:=vv (f.o.get 0 rfl);replace f:=vv (f.o.put 0 rfl G E);replace i:=vv (i.o.apart_ u.o rfl E);replace j:=vv (j.o.apart_ u.o rfl E);replace F:=vv (F.o.apart_ u.o rfl E);clear u G E;go_wp2_with fail;obtain⟨a2,a3,a4⟩:=Blk.c3 (f.o.get 2 rfl);obtain⟨a5,a6,a7⟩:=Blk.c3 (f.o.get 0 rfl);obtain⟨a8,a9,b0⟩:=Blk.c3 (f.o.get 1 rfl);have b7:=(f.o.get 2 rfl).lt;have b8:=(f.o.get 0 rfl).lt;have b9:=(f.o.get 1 rfl).lt;refine q02 (fun w'=>w'.cell? ⟨g7,0,qe⟩=qj (.bool qa)/\w'.cell? ⟨g7,1,qe⟩=qj (.string S)/\w'.cell? ⟨g7,2,qe⟩=qj (.int .i64 z)/\w'.cell? ⟨O,0,qe⟩=qj (.bool g.b)/\w'.cell? ⟨O,1,qe⟩=qj (.slice g.X g.n g.c)/\w'.cell? ⟨O,2,qe⟩=qj (.slice g.Y g.m g.d)/\w'.cell? ⟨Z,0,qe⟩=qj (.bool b)/\w'.cell? ⟨Z,1,qe⟩=qj (.slice X n1 n1)/\w'.cell? ⟨Z,2,qe⟩=qj (.slice Y C C)) 7
  (.still 0 (.still 1 (.still 2 (.still 3 (.one 4 (.still 5 (.one 6 .done))))))) ⟨a2,a3,a4,a5,a6,a7,a8,a9,b0⟩ (fun e2=>?_)
 iterate 4
  refine q03 ?_
 clear b7 b8 b9 a2 a3 a4 a5 a6 a7 a8 a9 b0;obtain⟨e3,b3⟩:=yx (b2.drew);have a:qg b2.heap.size b2 e3:=by rw[b3];exact q05 (qd _ _)
 replace f:=vv (f.o.step a);replace i:=vv (i.o.below a);replace j:=vv (j.o.below a);replace F:=vv (F.o.below a);rw[<- b3] at e2 ⊢;clear b3 a;refine q01 rfl (by rfl) (fun K hK=>?_);go_simp;refine(V.o ⟨b,X,n1,n1,Y,C,C⟩ _ i.o j.o (f.o.std L.o)).mono ?_;rintro e e5 ⟨rfl,a⟩;replace f:=vv (f.o.step a);replace i:=vv (i.o.below a);replace j:=vv (j.o.below a);replace F:=vv (F.o.below a);clear a;go_wp2_with fail;refine hK.out _ _ (Blk.n3 (f.o.get 2 rfl) (Blk.n3 (f.o.get 0 rfl) (Blk.c3 (f.o.get 1 rfl)))) (fun b1=>?_);clear hK
 iterate 1
  refine q03 ?_
 refine q01 rfl (by rfl) (fun K hK=>?_);have u:=vv (f.o.get 3 rfl)
 with_reducible refine q0b 192 (.tmp 8) (.tmp 49) rfl (w.heap.size+2) [.bool qa,.string S,.int .i64 z,.bool g.b,.slice g.X g.n g.c,.slice g.Y g.m g.d,.bool d2] rfl rfl 192 _ u.o (by kernel_rfl) rfl rfl ?_
 intro e6 G E;replace f:=vv (f.o.put 3 rfl G E);replace i:=vv (i.o.apart_ u.o rfl E);replace j:=vv (j.o.apart_ u.o rfl E);replace F:=vv (F.o.apart_ u.o rfl E);clear u G E;refine hK.out _ _ (Blk.n3 (f.o.get 2 rfl) (Blk.n3 (f.o.get 0 rfl) (Blk.c3 (f.o.get 1 rfl)))) (fun b1=>?_);clear hK;refine q08 ?_;simp only[k0o,k0w];go_wp2;obtain⟨c0,c1,c2,c4,c5,c6,c8⟩:=Blk.c7 (f.o.get 3 rfl);exact qh (v:=.agg #[.bool qa,.string S,.int .i64 z,.bool g.b,.slice g.X g.n g.c,.slice g.Y g.m g.d,.bool d2]) (by simp [results,results145,go_sem,c0,c1,c2,c4,c5,c6,c8]) rfl ⟨g,rfl,F.o,f.o.low⟩
end Sho
namespace Exa
open Go Go.RowKit R5 Scn Sh Fms
theorem Rb.dq{K:Nat}{p:Int}(h:bl K<=80)(h1:-2900<=p)(h2:p<=2900):Rb (Sh.dq K p):=by
 rcases k01 K with k|k
 ·rw[k,q1n];exact .inl rfl
 ·exact .inr ⟨K,p,k,rfl,h,h1,h2⟩
theorem qak(E F m:Nat)(w:qf)(h1:2<=E)(h2:E<=11)(h3:1<=F)(h4:F<=52)(hb:m<2^(E+F))(hf:m/2^F≠2^E-1)(hst:Std w):qi qb 24 #[fm E F,.int .u64 (m:Int)] w (DQP (wv E F m) w):=by
 have hx:m/2^F<2^E:=k0s (by rw[<- k0e,k0Z];exact hb);have h:q0c E F m=m/2^F:=k0E hx;have l:q0M E F m=qa:=by unfold q0M;rw[k0K (by rw[k0Z];exact hb)];rfl
 have n:m<2^(1+E+F):=k03 hb (k00 (by decide) (by omega));refine(ValueF E F m w h1 h2 h3 h4 n (by rw[h];exact hf) hst).mono ?_;rw[l,h];show ∀e i,q9R qa (mgN F m) (mgX E F m) w e i->_;obtain⟨s,t⟩:=q2W h1 h2 h4 hb;have u:bl (mgN F m)<=60:=by have:=q0A (q3p F m);omega
 have o:Rb (wv E F m):=Rb.dq (by omega) (by omega) (by omega);intro e i c;unfold q9R at c;split at c
 ·rename_i h0;obtain⟨d,k,rfl,a,-,f⟩:=c;have p:k=0:=by have:=a.words;rw[q0h] at this;exact this.symm
  have q:wv E F m=0:=by unfold wv;rw[h0,q1n]
  rw[q];exact⟨d,k,k,0,0,rfl,DQ.of_zero a (fun _=>p),f⟩
 ·rename_i h0;obtain⟨d,k,rfl,a,-,f⟩:=c;have r:(mgN F m/2^Go.Proofs.YtabcgemembkkcaaGreatDoor.tz (mgN F m))%2=1:=by
   have:=Hx.oddN_odd (M:=mgN F m) (by omega);unfold Hx.oddN at this
   rwa [k0r h0] at this
  refine⟨d,k,k,_,_,rfl,DQ.of_odd a r (q65 (by omega) _).symm o (fun e=>?_),f⟩;rcases k01 k with g|g
  ·exact g
  ·obtain⟨b,off,j,-⟩:=a.cell g;rw[e] at j;cases j
theorem q5O(h:bl N<=32*k):words N<=k:=q15 (by rw[q1u];exact k03 (q0O N) (k00 (by decide) h))
theorem qel(A:Option qk)(n c N:Nat)(x:Int)(q1:Rat)(B:Option qk)(m d M:Nat)(y:Int)(q2:Rat)(w:qf)(ha:DQ w A n c N x q1)(hb:DQ w B m d M y q2)(hres:Rb (q1+q2))(hst:Std w):qi qb 127 #[q0q qa A n c x,q0q qa B m d y] w (DQP (q1+q2) w):=by
 obtain⟨w0,I⟩:=yx (((w.alloc (.cells #[.bool qa,.slice A n c,.int .i64 x] 62)).alloc (.cells #[.bool qa,.slice B m d,.int .i64 y] 62)).alloc (.cells #[.bool qa,.slice qe 0 0,.int .i64 0] 62));have h:Cx w [(w.heap.size+1+1,62,[.bool qa,.slice qe 0 0,.int .i64 0]),(w.heap.size+1,62,[.bool qa,.slice B m d,.int .i64 y]),(w.heap.size,62,[.bool qa,.slice A n c,.int .i64 x])] w0:=by rw[I];exact(((Cx.nil w).new _ [_,_,_] rfl).new _ [_,_,_] (by simp)).new _ [_,_,_] (by simp)
 have hn:=ha.n_le;have hm:=hb.n_le;have b5:=vv fun w' (k:DQ w' A n c N x q1) (k2:DQ w' B m d M y q2)=>qdJ qa A n c N x qa B m d M y w' k.r k2.r k.ok k2.ok
 have e6:=vv fun w' (k:DQ w' A n c N x q1) (k2:DQ w' B m d M y q2)=>qct qa A n c N x qa B m d M y w' k.r k2.r hn hm (by have:=k.bn;omega) (by have:=k2.bn;omega) (by have:=k.b1;omega) (by have:=k.b2;omega) (by have:=k2.b1;omega) (by have:=k2.b2;omega)
 have e7:=vv fun w' (k:DQ w' A n c N x q1)=>qbP A n c N x q1 w' k
 have e8:=vv fun w' (k:DQ w' B m d M y q2)=>qbP B m d M y q2 w' k
 have b:=vv h;have HW:=vv I;have f:=vv (ha.below h.low);have g:=vv (hb.below h.low);have b6:=vv hres;have f8:=vv hst;rcases k01 N with H|H
 ·have t:q1+q2=q2:=by rw[ha.e,H,q1n];grind
  have G:n=0:=by have:=ha.r.words;rw[H,q0h] at this;exact this.symm
  subst G;rw[t];have J:=vv fun w=>q2i A c w
  clear I h ha hb hres hst H t hn hm b6;obtain⟨K,L,O,P⟩:=Blk.f3 (b.o.get 1 rfl);obtain⟨Q,R,U,V⟩:=Blk.f3 (b.o.get 2 rfl);go_enter func127,ntmps127;go_wp2_with fail;rw[<- HW.o];go_wp2_with fail;refine(b5.o _ f.o g.o).mono ?_;rintro e w9 ⟨rfl,a⟩;replace b:=vv (b.o.step a);replace f:=vv (f.o.below a);replace g:=vv (g.o.below a);clear K L O P Q R U V a;obtain⟨W,X,Y,Z⟩:=Blk.f3 (b.o.get 2 rfl);go_wp2_with fail;refine(J.o _).mono ?_;rintro e e9 ⟨rfl,a⟩;replace b:=vv (b.o.step a);replace f:=vv (f.o.below a);replace g:=vv (g.o.below a);clear W X Y Z a;obtain⟨a0,a1,a2,a3⟩:=Blk.f3 (b.o.get 1 rfl);go_wp2_with fail;refine(e8.o _ g.o).mono ?_;rintro e f0 ⟨B',d',rfl,E,a⟩;replace b:=vv (b.o.step a);replace f:=vv (f.o.below a);replace g:=vv (g.o.below a);have l:=vv E;clear a0 a1 a2 a3 a E;have i:=vv (b.o.get 0 rfl);go_wp2_with (with_reducible refine q00 rfl 62 (.tmp 4) (.tmp 28) rfl (w.heap.size+1+1) [.bool qa,.slice B' m d',.int .i64 y] rfl rfl 62 _ i.o (by kernel_rfl) rfl rfl ?_);intro g5 C p;clear i;have i:=vv (b.o.get 0 rfl);replace b:=vv (b.o.put 0 rfl C p);replace l:=vv (l.o.apart_ i.o rfl p);clear i C p;go_wp2;obtain⟨b8,b9,c0⟩:=Blk.c3 (b.o.get 0 rfl);exact qh (v:=.tuple #[q0q qa B' m d' y,.int .i64 0]) (by simp [results,results127,go_sem,b8,b9,c0]) rfl ⟨B',m,d',M,y,rfl,l.o,b.o.low⟩
 rcases k01 M with k0|k0
 ·have t:q1+q2=q1:=by rw[hb.e,k0,q1n];grind
  have b0:m=0:=by have:=hb.r.words;rw[k0,q0h] at this;exact this.symm
  have G:0<n:=by
   rcases k01 n with k|k
   ·have:=ha.r.words;rw[k] at this;have:=q06.1 this;omega
   ·exact k
  subst b0;rw[t];have J:=vv fun w=>q11 A n c w G
  have b7:=vv fun w=>q2i B d w
  clear I h ha hb hres hst H k0 t hn hm b6 G;obtain⟨K,L,O,P⟩:=Blk.f3 (b.o.get 1 rfl);obtain⟨Q,R,U,V⟩:=Blk.f3 (b.o.get 2 rfl);go_enter func127,ntmps127;go_wp2_with fail;rw[<- HW.o];go_wp2_with fail;refine(b5.o _ f.o g.o).mono ?_;rintro e w9 ⟨rfl,a⟩;replace b:=vv (b.o.step a);replace f:=vv (f.o.below a);replace g:=vv (g.o.below a);clear K L O P Q R U V a;obtain⟨W,X,Y,Z⟩:=Blk.f3 (b.o.get 2 rfl);go_wp2_with fail;refine(J.o _).mono ?_;rintro e e9 ⟨rfl,a⟩;replace b:=vv (b.o.step a);replace f:=vv (f.o.below a);replace g:=vv (g.o.below a);clear W X Y Z a;obtain⟨a0,a1,a2,a3⟩:=Blk.f3 (b.o.get 1 rfl);go_wp2_with fail;refine(b7.o _).mono ?_;rintro e f0 ⟨rfl,a⟩;replace b:=vv (b.o.step a);replace f:=vv (f.o.below a);replace g:=vv (g.o.below a);clear a0 a1 a2 a3 a;obtain⟨a4,a5,a6,a7⟩:=Blk.f3 (b.o.get 2 rfl);go_wp2_with fail;refine(e7.o _ f.o).mono ?_;rintro e g6 ⟨A',c',rfl,E,a⟩;replace b:=vv (b.o.step a);replace f:=vv (f.o.below a);replace g:=vv (g.o.below a);have l:=vv E;clear a4 a5 a6 a7 a E;have i:=vv (b.o.get 0 rfl);go_wp2_with (with_reducible refine q00 rfl 62 (.tmp 4) (.tmp 34) rfl (w.heap.size+1+1) [.bool qa,.slice A' n c',.int .i64 x] rfl rfl 62 _ i.o (by kernel_rfl) rfl rfl ?_);intro g7 C p;clear i;have i:=vv (b.o.get 0 rfl);replace b:=vv (b.o.put 0 rfl C p);replace l:=vv (l.o.apart_ i.o rfl p);clear i C p;go_wp2;obtain⟨c1,c2,c4⟩:=Blk.c3 (b.o.get 0 rfl);exact qh (v:=.tuple #[q0q qa A' n c' x,.int .i64 0]) (by simp [results,results127,go_sem,c1,c2,c4]) rfl ⟨A',n,c',N,x,rfl,l.o,b.o.low⟩
 have G:0<n:=by
  rcases k01 n with k|k
  ·have:=ha.r.words;rw[k] at this;have:=q06.1 this;omega
  ·exact k
 have b0:0<m:=by
  rcases k01 m with k|k
  ·have:=hb.r.words;rw[k] at this;have:=q06.1 this;omega
  ·exact k
 have t:dq (N*p2 (x-y)+M*p2 (y-x)) (min x y)=q1+q2:=by rw[q6m,<- ha.e,<- hb.e]
 have s1:bl (N*p2 (x-y))<=32000:=q2a (by have:=ha.bn;omega) (by have:=ha.b2;have:=hb.b1;omega);have s2:bl (M*p2 (y-x))<=32000:=q2a (by have:=hb.bn;omega) (by have:=hb.b2;have:=ha.b1;omega);obtain⟨S,hS⟩:=yx (N*p2 (x-y));obtain⟨T,hT⟩:=yx (M*p2 (y-x));obtain⟨z,hz⟩:=yx (min x y);have z1:-3000<=z:=by have:=ha.b1;have:=hb.b1;omega
 have z2:z<=3000:=by have:=ha.b2;have:=hb.b2;omega
 rw[<- hS,<- hT,<- hz] at t e6;rw[<- hS] at s1;rw[<- hT] at s2;have c5:bl (S+T)<=32001:=q20 S T 32000 s1 s2;have J:=vv fun w=>q11 A n c w G
 have b7:=vv fun w=>q11 B m d w b0
 have f9:=vv fun F n1 B1 u w' (k:RN w' F n1 n1 S) (k2:RN w' B1 u u T) (l1:n1<=16384) (l2:u<=16384)=>Pnt.Add F n1 n1 S B1 u u T w' k.r k2.r l1 l2 (k07 (q5O (k:=1001) (by omega)) (by decide))
 have f1:=vv fun F n1 w' (k:RN w' F n1 n1 (S+T)) (hs:Std w')=>qbx F n1 n1 (S+T) z w' k.r (k07 (Rtp.rd_le (k:=1001) k.r (by omega)) (by decide)) (by rw[t];exact hres) (by omega) (by omega) hs
 rw[t] at f1;clear I h ha hb hres hst H k0 t hn hm b6 G b0 s1 s2 hS hT hz c5 e7 e8;obtain⟨K,L,O,P⟩:=Blk.f3 (b.o.get 1 rfl);obtain⟨Q,R,U,V⟩:=Blk.f3 (b.o.get 2 rfl);go_enter func127,ntmps127;go_wp2_with fail;rw[<- HW.o];go_wp2_with fail;refine(b5.o _ f.o g.o).mono ?_;rintro e w9 ⟨rfl,a⟩;replace b:=vv (b.o.step a);replace f:=vv (f.o.below a);replace g:=vv (g.o.below a);clear K L O P Q R U V a;obtain⟨W,X,Y,Z⟩:=Blk.f3 (b.o.get 2 rfl);go_wp2_with fail;refine(J.o _).mono ?_;rintro e e9 ⟨rfl,a⟩;replace b:=vv (b.o.step a);replace f:=vv (f.o.below a);replace g:=vv (g.o.below a);clear W X Y Z a;obtain⟨a0,a1,a2,a3⟩:=Blk.f3 (b.o.get 1 rfl);go_wp2_with fail;refine(b7.o _).mono ?_;rintro e f0 ⟨rfl,a⟩;replace b:=vv (b.o.step a);replace f:=vv (f.o.below a);replace g:=vv (g.o.below a);clear a0 a1 a2 a3 a;obtain⟨a4,a5,a6,a7⟩:=Blk.f3 (b.o.get 1 rfl);obtain⟨c6,c7,c8,d0⟩:=Blk.f3 (b.o.get 2 rfl);go_wp2_with fail;refine(e6.o _ f.o g.o).mono ?_;rintro e b3 ⟨F,n1,B1,u,rfl,f2,f4,f5,f6,a⟩;replace b:=vv (b.o.step a);replace f:=vv (f.o.below a);replace g:=vv (g.o.below a);have q:=vv (RN.mk f2);have s:=vv (RN.mk f4);clear a4 a5 a6 a7 c6 c7 c8 d0 a f2 f4;have g0:=vv f5;have g1:=vv f6;clear f5 f6;obtain⟨d1,d2,d3,d4⟩:=Blk.f3 (b.o.get 1 rfl);obtain⟨d5,d6,d7,d8⟩:=Blk.f3 (b.o.get 2 rfl);go_wp2_with fail;obtain⟨g2,D⟩:=yx (b3.heap.size);obtain⟨a8,j⟩:=yx (b3.alloc (.cells #[.slice F n1 n1] 37));have a:qg b3.heap.size b3 a8:=by rw[j];exact(qd _ _).alloc lr _
 have h:=b.o.new 37 [.slice F n1 n1] D;have a9:(g2+1:Nat)=a8.heap.size:=by rw[j,World.size_alloc,<- D]
 rw[<- j] at h 
 try rw[<- j]
 try rw[<- D]
 replace b:=vv h;replace f:=vv (f.o.below a);replace g:=vv (g.o.below a);replace q:=vv (q.o.below a);replace s:=vv (s.o.below a);clear d1 d2 d3 d4 d5 d6 d7 d8 j a h D;obtain⟨g3,j⟩:=yx (a8.alloc (.cells #[.slice B1 u u] 37));have a:qg a8.heap.size a8 g3:=by rw[j];exact(qd _ _).alloc lr _
 have h:=b.o.new 37 [.slice B1 u u] a9;rw[<- j] at h 
 try rw[<- j]
 replace b:=vv h;replace f:=vv (f.o.below a);replace g:=vv (g.o.below a);replace q:=vv (q.o.below a);replace s:=vv (s.o.below a);clear j a h a9;refine(f9.o _ _ _ _ _ q.o s.o g0.o g1.o).mono ?_;rintro e b4 ⟨A2,n2,rfl,f7,-,a⟩;replace b:=vv (b.o.step a);replace f:=vv (f.o.below a);replace g:=vv (g.o.below a);replace q:=vv (q.o.below a);replace s:=vv (s.o.below a);have H3:=vv (RN.mk f7);clear a f7;obtain⟨d9,e0,e1,e2⟩:=Blk.f3 (b.o.get 4 rfl);go_wp2_with fail;obtain⟨g8,D⟩:=yx (b4.heap.size);obtain⟨g4,j⟩:=yx (b4.alloc (.cells #[.slice A2 n2 n2] 37));have a:qg b4.heap.size b4 g4:=by rw[j];exact(qd _ _).alloc lr _
 have h:=b.o.new 37 [.slice A2 n2 n2] D;rw[<- j] at h 
 try rw[<- j]
 try rw[<- D]
 replace b:=vv h;replace f:=vv (f.o.below a);replace g:=vv (g.o.below a);replace q:=vv (q.o.below a);replace s:=vv (s.o.below a);replace H3:=vv (H3.o.below a);clear d9 e0 e1 e2 j a h D;refine(f1.o _ _ _ H3.o (b.o.std f8.o)).mono ?_;rintro e g9 ⟨A9,n9,c9,N9,x9,rfl,E,a⟩;replace b:=vv (b.o.step a);replace f:=vv (f.o.below a);replace g:=vv (g.o.below a);replace q:=vv (q.o.below a);replace s:=vv (s.o.below a);replace H3:=vv (H3.o.below a);have l:=vv E;clear a E;have i:=vv (b.o.get 3 rfl);go_wp2_with (with_reducible refine q00 rfl 62 (.tmp 4) (.tmp 67) rfl (w.heap.size+1+1) [.bool qa,.slice A9 n9 c9,.int .i64 x9] rfl rfl 62 _ i.o (by kernel_rfl) rfl rfl ?_);intro i0 C p;clear i;have i:=vv (b.o.get 3 rfl);replace b:=vv (b.o.put 3 rfl C p);replace l:=vv (l.o.apart_ i.o rfl p);clear i C p;go_wp2;obtain⟨e3,e4,e5⟩:=Blk.c3 (b.o.get 3 rfl);exact qh (v:=.tuple #[q0q qa A9 n9 c9 x9,.int .i64 0]) (by simp [results,results127,go_sem,e3,e4,e5]) rfl ⟨A9,n9,c9,N9,x9,rfl,l.o,b.o.low⟩
end Exa
namespace Nea
open Go Go.RowKit R5 Scn Sh Fms Exa
theorem qco(A:Option qk)(n c N:Nat)(x:Int)(q1:Rat)(B:Option qk)(m d M:Nat)(y:Int)(q2:Rat)(w:qf)(ha:DQ w A n c N x q1)(hb:DQ w B m d M y q2)(h1:Rb (q1+q2))(h2:Rb ((q1+q2)/2))(hst:Std w):qi qb 128 #[q0q qa A n c x,q0q qa B m d y] w (DQP ((q1+q2)/2) w):=by
 obtain⟨w0,z⟩:=yx (((w.alloc (.cells #[.bool qa,.slice A n c,.int .i64 x] 62)).alloc (.cells #[.bool qa,.slice B m d,.int .i64 y] 62)).alloc (.cells #[.bool qa,.slice qe 0 0,.int .i64 0] 62));have g:Cx w [(w.heap.size+1+1,62,[.bool qa,.slice qe 0 0,.int .i64 0]),(w.heap.size+1,62,[.bool qa,.slice B m d,.int .i64 y]),(w.heap.size,62,[.bool qa,.slice A n c,.int .i64 x])] w0:=by rw[z];exact(((Cx.nil w).new _ [_,_,_] rfl).new _ [_,_,_] (by simp)).new _ [_,_,_] (by simp)
 have a:=vv g;have HW:=vv z;have i:=vv (ha.below g.low);have j:=vv (hb.below g.low);have J:=vv hst;have L:=vv fun w' (k:DQ w' A n c N x q1) (k2:DQ w' B m d M y q2) (hs:Std w')=>qel A n c N x q1 B m d M y q2 w' k k2 h1 hs
 have O:qn (∀l n1 c1 h f w',DQ w' l n1 c1 h f (q1+q2)->Std w'->qi qb 65 #[.bool qa,q0x l n1 c1,.int .i64 (f-1)] w' (DQP ((q1+q2)/2) w')):=vv fun l n1 c1 h f w' k hs=>by
  have e:dq h (f-1)=(q1+q2)/2:=by
   have e1:=k.e;have e2:dq h f=dq h (f-1)+dq h (f-1):=by unfold dq;rw[q3d f];grind
   grind
  have:=qbx l n1 c1 h (f-1) w' k.r k.n_le (by rw[e];exact h2) (by have:=k.b1;omega) (by have:=k.b2;omega) hs
  rwa [e] at this
 clear z g ha hb h1 h2 hst;obtain⟨P,Q,R,S⟩:=Blk.f3 (a.o.get 1 rfl);obtain⟨T,U,V,W⟩:=Blk.f3 (a.o.get 2 rfl);go_enter func128,ntmps128;go_wp2_with fail;rw[<- HW.o];go_wp2_with fail;refine(L.o _ i.o j.o (a.o.std J.o)).mono ?_;rintro e u ⟨l,n1,c1,h,f,rfl,s,b⟩;replace a:=vv (a.o.step b);replace i:=vv (i.o.below b);replace j:=vv (j.o.below b);have p:=vv s;clear P Q R S T U V W b s;have a1:=p.o.b1;have a2:=p.o.b2;go_wp2_with fail;obtain⟨a3,C⟩:=yx (u.heap.size);obtain⟨X,t⟩:=yx (u.alloc (.cells #[.bool qa,.slice l n1 c1,.int .i64 f] 62));have b:qg u.heap.size u X:=by rw[t];exact(qd _ _).alloc lr _
 have g:=a.o.new 62 [.bool qa,.slice l n1 c1,.int .i64 f] C;rw[<- t] at g 
 try rw[<- t]
 try rw[<- C]
 replace a:=vv g;replace i:=vv (i.o.below b);replace j:=vv (j.o.below b);replace p:=vv (p.o.below b);clear t b g C;refine(O.o _ _ _ _ _ _ p.o (a.o.std J.o)).mono ?_;rintro e a4 ⟨D,E,F,N9,G,rfl,s,b⟩;replace a:=vv (a.o.step b);replace i:=vv (i.o.below b);replace j:=vv (j.o.below b);replace p:=vv (p.o.below b);have H:=vv s;clear b s;have q:=vv (a.o.get 1 rfl);go_wp2_with (with_reducible refine q00 rfl 62 (.tmp 4) (.tmp 26) rfl (w.heap.size+1+1) [.bool qa,.slice D E F,.int .i64 G] rfl rfl 62 _ q.o (by kernel_rfl) rfl rfl ?_);intro a5 K I;clear q;have q:=vv (a.o.get 1 rfl);replace a:=vv (a.o.put 1 rfl K I);replace H:=vv (H.o.apart_ q.o rfl I);clear q K I;go_wp2;obtain⟨Y,Z,a0⟩:=Blk.c3 (a.o.get 1 rfl);exact qh (v:=.tuple #[q0q qa D E F G,.int .i64 0]) (by simp [results,results128,go_sem,Y,Z,a0]) rfl ⟨D,E,F,N9,G,rfl,H.o,a.o.low⟩
end Nea
namespace R4
open Go Go.RowKit R5 Scn Sh Fms Exa
theorem none_(A:Option qk)(n c:Nat)(w:qf):qi qb 243 #[q0x A n c] w fun e w'=>e=.returned (.bool ((n:Int)==0))/\qg w.heap.size w w':=by go_enter func243,ntmps243;go_wp2;go_ret;exact⟨rfl,(qd _ _).alloc lr _⟩
theorem q2i(A:Option qk)(c:Nat)(w:qf):qi qb 243 #[q0x A 0 c] w fun e w'=>e=.returned (.bool qm)/\qg w.heap.size w w':=none_ A 0 c w
theorem q11(A:Option qk)(n c:Nat)(w:qf)(h:0<n):qi qb 243 #[q0x A n c] w fun e w'=>e=.returned (.bool qa)/\qg w.heap.size w w':=by
 have e:((n:Int)==0)=qa:=by rw[k05];omega
 have:=none_ A n c w;rw[e] at this;exact this
theorem qaa(x:Int)(w:qf)(h1:-1073741824<=x)(h2:x<=1073741824):qi qb 303 #[.int .i64 x] w fun e w'=>e=.returned (.bool qa)/\qg w.heap.size w w':=by have a:qc (x < -1073741824)=qa:=k02 (by omega);have b:qc (1073741824<x)=qa:=k02 (by omega);go_enter func303,ntmps303;go_wp2;go_ret;exact⟨rfl,qd _ _⟩
theorem qbL(h0:0<N)(hk:k<=Go.Proofs.YtabcgemembkkcaaGreatDoor.tz N):(N/2^k%2==1)=qc (k=Go.Proofs.YtabcgemembkkcaaGreatDoor.tz N):=by
 obtain⟨m,a⟩:=q22 h0;obtain⟨T,b⟩:=yx (Go.Proofs.YtabcgemembkkcaaGreatDoor.tz N);rw[<- b] at a hk ⊢;obtain⟨d,rfl⟩:∃d,T=k+d:=⟨T-k,by omega⟩;have e:N/2^k=2^d*(2*m+1):=by rw[a,k0e,k0j,k14 _ (k0a k)]
 rw[e];rcases k01 d with h|h
 ·subst h;rw[k0B,k0S,k04 (show k=k+0 by omega),show(2*m+1)%2=1 by omega];rfl
 ·obtain⟨j,rfl⟩:∃j,d=j+1:=⟨d-1,by omega⟩;rw[k02 (show ¬k=k+(j+1) by omega),k0d,k0g _ 2,k0j,Nat.mul_mod_right];rfl
theorem q2Y(A:Option qk)(n c N:Nat)(w:qf)(ha:Rd w A n c (toL N))(h0:0<N)(hn:n<=16384):qi qb 302 #[q0x A n c] w fun e w'=>e=.returned (.int .i64 ((Go.Proofs.YtabcgemembkkcaaGreatDoor.tz N:Nat):Int))/\qg w.heap.size w w':=by
 obtain⟨H,i⟩:=yx (w.alloc (.cells #[.slice A n c] 37));have d:Cx w [(w.heap.size,37,[.slice A n c])] H:=by rw[i];exact(Cx.nil w).new _ [_] rfl
 have E:bl N<=524288:=by have h:=ha.lt;rw[q04,q1u] at h;have:=q0A h;omega
 have p:=q1h h0;have q:=vv fun k w' (h:RN w' A n c N) (b:k<=Go.Proofs.YtabcgemembkkcaaGreatDoor.tz N)=>R1.Bit A n c N k w' h.r hn (by omega)
 have s:=vv fun k (b:k<=Go.Proofs.YtabcgemembkkcaaGreatDoor.tz N)=>qbL h0 b
 obtain⟨T,x⟩:=yx (Go.Proofs.YtabcgemembkkcaaGreatDoor.tz N);rw[<- x] at q s p ⊢;have L:(T:Int)<=524288:=by omega
 have a:=vv d;have I:=vv i;have f:=vv (RN.mk (ha.below d.low rfl));clear i d ha hn h0 E p x;go_enter func302,ntmps302;go_wp2_with fail;rw[<- I.o];go_loopw [3] (fun t wr=>∃k:Nat,t=.int .i64 (k:Int)/\k<=T/\Cx w [(w.heap.size,37,[.slice A n c])] wr/\RN wr A n c N) (fun t _=>T-(intOf t).toNat)
 case atStart=>exact⟨0,rfl,k0x _,a.o,f.o⟩
 case round =>
  clear a f;obtain⟨k,rfl,b,d,l⟩:=hrel;have a:=vv d;have f:=vv l;have F:=vv b;have j:=s.o k b;have g:=q.o k wr l b;obtain⟨v,y⟩:=yx ((N/2^k%2==1));rw[<- y] at j g;have g:=vv g;have z:=vv j;have M:(k:Int)<=524288:=by omega
  clear d l j y b;have C:=(a.o.get 0 rfl).cell 0;have J:=(a.o.get 0 rfl).lt;simp only[k06] at C;go_wp2_with fail;refine g.o.mono ?_;rintro e O ⟨rfl,m⟩;replace a:=vv (a.o.step m);replace f:=vv (f.o.below m);clear m C J;cases v
  ·have G:¬k=T:=k2W z.o.symm;have u:qn (k+1<=T):=vv (by have:=F.o;omega);clear G;go_wp2;go_roundw
   case rel=>exact⟨k+1,by go_num,u.o,a.o,f.o⟩
   case measure=>have:=u.o;simp [intOf];omega
  ·have D:k=T:=k1h z.o.symm;have K:=vv D;clear D;go_wp2;go_ret;exact⟨q0X (by rw[K.o]),a.o.low⟩
abbrev dyG(ng:Bool)(A:Option qk)(n c N:Nat)(x:Int):Go.Value:=q0q (ng && qc (0<N)) A n c x
def DGP(ng:Bool)(q:Rat)(w:qf)(e:Ending)(w':qf):Prop:=
 ∃A n c N x,e=.returned (.tuple #[dyG ng A n c N x,.int .i64 0])/\DQ w' A n c N x q/\qg w.heap.size w w'
def DG1(ng:Bool)(q:Rat)(w:qf)(e:Ending)(w':qf):Prop:=
 ∃A n c N x,e=.returned (dyG ng A n c N x)/\DQ w' A n c N x q/\qg w.heap.size w w'
theorem q9U(ng:Bool)(A:Option qk)(c:Nat)(x:Int)(w:qf)(ha:Rd w A 0 c (toL 0)):qi qb 239 #[.bool ng,q0x A 0 c,.int .i64 x] w (DGP ng 0 w):=by
 obtain⟨z,g⟩:=yx ((w.alloc (.cells #[.slice A 0 c] 37)).alloc (.cells #[.bool qa,.slice qe 0 0,.int .i64 0] 62));have h:Cx w [(w.heap.size+1,62,[.bool qa,.slice qe 0 0,.int .i64 0]),(w.heap.size,37,[.slice A 0 c])] z:=by rw[g];exact((Cx.nil w).new _ [_] rfl).new _ [_,_,_] (by simp)
 have a:=vv h;have C:=vv g;have b:=vv (RN.mk (ha.below h.low rfl));have l:=vv fun w' (k:RN w' A 0 c 0)=>R1.Check_ok A 0 c 0 w' k.r (k0x _)
 have m:=vv fun w=>q2i A c w
 clear g h ha;obtain⟨n,p⟩:=Blk.f1 (a.o.get 1 rfl);go_enter func239,ntmps239;go_wp2_with fail;rw[<- C.o];go_wp2_with fail;refine(l.o _ b.o).mono ?_;rintro e D ⟨rfl,d⟩;replace a:=vv (a.o.step d);replace b:=vv (b.o.below d);clear n p d;obtain⟨q,s⟩:=Blk.f1 (a.o.get 1 rfl);go_wp2_with fail;refine(m.o _).mono ?_;rintro e E ⟨rfl,d⟩;replace a:=vv (a.o.step d);replace b:=vv (b.o.below d);clear q s d;have f:=vv (a.o.get 0 rfl);go_wp2_with (with_reducible refine q00 rfl 62 (.tmp 6) (.tmp 20) rfl (w.heap.size+1) [.bool qa,.slice qe 0 0,.int .i64 0] rfl rfl 62 _ f.o (by kernel_rfl) rfl rfl ?_);intro F j i;clear f;have f:=vv (a.o.get 0 rfl);replace a:=vv (a.o.put 0 rfl j i);replace b:=vv (b.o.apart_ f.o rfl i);clear f j i;go_wp2;obtain⟨t,u,y⟩:=Blk.c3 (a.o.get 0 rfl);exact qh (v:=.tuple #[dyG ng qe 0 0 0 0,.int .i64 0]) (by simp [results,results239,go_sem,t,u,y]) rfl ⟨qe,0,0,0,0,rfl,DQ.of_zero (Rd.nil _) (fun _=>rfl),a.o.low⟩
theorem q9T(ng:Bool)(A:Option qk)(n c N:Nat)(x:Int)(w:qf)(ha:Rd w A n c (toL N))(hn:n<=16384)(hb:Rb (dq N x))(h1:-100000<=x)(h2:x<=100000):qi qb 239 #[.bool ng,q0x A n c,.int .i64 x] w (DGP ng (dq N x) w):=by
 rcases k01 N with f|f
 ·subst f;have P:n=0:=by have:=ha.words;rw[q0h] at this;exact this.symm
  subst P;rw[q1n];exact q9U ng A c x w ha
 have G:0<n:=by
  rcases k01 n with rfl|h
  ·have:=ha.lt;rw[q04,k0B] at this;omega
  ·exact h
 have Q:=Rtp.wds_bl ha hn;have H:=qbM f;obtain⟨w0,y⟩:=yx ((w.alloc (.cells #[.slice A n c] 37)).alloc (.cells #[.bool qa,.slice qe 0 0,.int .i64 0] 62));have g:Cx w [(w.heap.size+1,62,[.bool qa,.slice qe 0 0,.int .i64 0]),(w.heap.size,37,[.slice A n c])] w0:=by rw[y];exact((Cx.nil w).new _ [_] rfl).new _ [_,_,_] (by simp)
 have a:=vv g;have HW:=vv y;have d:=vv (RN.mk (ha.below g.low rfl));have R:=vv fun w' (k:RN w' A n c N)=>R1.Check_ok A n c N w' k.r hn
 have S:=vv fun w=>q11 A n c w G
 have I:=vv fun w' (k:RN w' A n c N)=>q2Y A n c N w' k.r f hn
 have C:=vv fun w' (k:RN w' A n c N)=>R1.Down A n c N (Go.Proofs.YtabcgemembkkcaaGreatDoor.tz N) w' k.r hn (by omega)
 have L:(N/2^Go.Proofs.YtabcgemembkkcaaGreatDoor.tz N)%2=1:=by
  have:=Hx.oddN_odd f;unfold Hx.oddN at this
  rwa [k0r (by omega)] at this
 have D:qn (∀A' m c' w',Rd w' A' m c' (toL (N/2^Go.Proofs.YtabcgemembkkcaaGreatDoor.tz N))->(A'=qe->c'=0)->DQ w' A' m c' (N/2^Go.Proofs.YtabcgemembkkcaaGreatDoor.tz N) (x+(Go.Proofs.YtabcgemembkkcaaGreatDoor.tz N:Int)) (dq N x)):=vv fun A' m c' w' hr i=>DQ.of_odd hr L (q65 f x).symm hb i
 obtain⟨M,F⟩:=yx (N/2^Go.Proofs.YtabcgemembkkcaaGreatDoor.tz N);have J:0<M:=by rw[F];omega
 rw[<- F] at C D;obtain⟨z,i⟩:=yx (Go.Proofs.YtabcgemembkkcaaGreatDoor.tz N);rw[<- i] at I C H D;have a9:(z:Int)<=524288:=by omega
 have T:=vv fun w=>qaa (x+(z:Int)) w (by omega) (by omega)
 have U:qn ((ng && qc (0<M))=ng):=vv (by rw[k04 J,k2L]);clear y g ha hn hb f G Q H L F J i;obtain⟨V,W⟩:=Blk.f1 (a.o.get 1 rfl);go_enter func239,ntmps239;go_wp2_with fail;rw[<- HW.o];go_wp2_with fail;refine(R.o _ d.o).mono ?_;rintro e w3 ⟨rfl,b⟩;replace a:=vv (a.o.step b);replace d:=vv (d.o.below b);clear V W b;obtain⟨X,Y⟩:=Blk.f1 (a.o.get 1 rfl);go_wp2_with fail;refine(S.o _).mono ?_;rintro e w6 ⟨rfl,b⟩;replace a:=vv (a.o.step b);replace d:=vv (d.o.below b);clear X Y b;obtain⟨Z,a7⟩:=Blk.f1 (a.o.get 1 rfl);go_wp2_with fail;refine(I.o _ d.o).mono ?_;rintro e w9 ⟨rfl,b⟩;replace a:=vv (a.o.step b);replace d:=vv (d.o.below b);clear Z a7 b;obtain⟨a0,a1⟩:=Blk.f1 (a.o.get 1 rfl);go_wp2_with fail;refine(T.o _).mono ?_;rintro e b0 ⟨rfl,b⟩;replace a:=vv (a.o.step b);replace d:=vv (d.o.below b);clear a0 a1 b;obtain⟨a2,a3⟩:=Blk.f1 (a.o.get 1 rfl);go_wp2_with fail;refine(C.o _ d.o).mono ?_;rintro e s ⟨l,p,c1,rfl,O,i,b⟩;replace a:=vv (a.o.step b);replace d:=vv (d.o.below b);have q:=vv (RN.mk O);clear a2 a3 b O;have HZ:=vv i;clear i;have j:=vv (a.o.get 0 rfl);go_wp2_with (with_reducible refine q00 rfl 62 (.tmp 6) (.tmp 48) rfl (w.heap.size+1) [.bool ng,.slice l p c1,.int .i64 (x+(z:Int))] rfl rfl 62 _ (j.o.alloc _) (by kernel_rfl) rfl rfl ?_);intro b1 K u;clear j;obtain⟨b2,E⟩:=yx (s.heap.size);obtain⟨a8,t⟩:=yx (s.alloc (.cells #[.slice l p c1] 37));have b:qg s.heap.size s a8:=by rw[t];exact(qd _ _).alloc lr _
 have g:=a.o.new 37 [.slice l p c1] E;rw[<- t] at g u
 try rw[<- t]
 try rw[<- E]
 replace a:=vv g;replace q:=vv (q.o.below b);clear t b g E;have j:=vv (a.o.get 1 rfl);replace a:=vv (a.o.put 1 rfl K u);replace q:=vv (q.o.apart_ j.o rfl u);clear j K u;go_wp2;obtain⟨a4,a5,a6⟩:=Blk.c3 (a.o.get 1 rfl);exact qh (v:=.tuple #[q0q ng l p c1 (x+(z:Int)),.int .i64 0]) (by simp [results,results239,go_sem,a4,a5,a6]) rfl ⟨l,p,c1,M,x+(z:Int),by unfold dyG;rw[U.o],D.o _ _ _ _ q.o.r HZ.o,a.o.low⟩
theorem Check_ok(ng:Bool)(A:Option qk)(n c N:Nat)(x:Int)(q:Rat)(w:qf)(h:DQ w A n c N x q):qi qb 251 #[dyG ng A n c N x] w fun e w'=>e=.returned (.int .i64 0)/\qg w.heap.size w w':=by
 obtain⟨b,m⟩:=yx ((ng && qc (0<N)));show qi qb 251 #[q0q (ng && qc (0<N)) A n c x] w _;rw[<- m];obtain⟨Y,i⟩:=yx (w.alloc (.cells #[.bool b,.slice A n c,.int .i64 x] 62));have s:Cx w [(w.heap.size,62,[.bool b,.slice A n c,.int .i64 x])] Y:=by rw[i];exact(Cx.nil w).new _ [_,_,_] rfl
 have I:=h.n_le;have L:=vv fun w' (k:DQ w' A n c N x q)=>R1.Check_ok A n c N w' k.r I
 have a:=vv s;have U:=vv i;have f:=vv (h.below s.low);rcases h.o with g|⟨g,hx⟩
 ·have Z:0<N:=by omega
  have j:0<n:=by
   rcases k01 n with k|k
   ·have:=h.r.words;rw[k] at this;have:=q06.1 this;omega
   ·exact k
  obtain⟨J,off,rfl,M,O⟩:=h.r.cell j;have l:=O 0 j;have t:nth (toL N) 0%2=1:=by rw[q2V];exact g
  have u:=vv fun w=>q11 (qj ⟨J,off,qe⟩) n c w j
  have V:=vv fun w=>qaa x w (by have:=h.b1;omega) (by have:=h.b2;omega)
  obtain⟨y,K⟩:=yx (nth (toL N) 0);rw[<- K] at l t;have a0:y<4294967296:=by rw[K];exact h.r.nth_lt 0
  have t1:((y:Int)%2==0)=qa:=by rw[k05];omega
  have t2:((y:Int).tmod 2==0)=qa:=by rw[k0Q (by omega)];exact t1
  have t3:(y%2==0)=qa:=by rw[t];rfl
  have a1:(1:Int)<=(n:Int):=by omega
  have a2:(n:Int)<=16384:=by omega
  have HX:=vv l;have HL:=vv M;clear i s h m g Z j O t K l M I;obtain⟨v,z,C,D⟩:=Blk.f3 (a.o.get 0 rfl);go_enter func251,ntmps251;go_wp2_with fail;rw[<- U.o];go_wp2_with fail;refine(L.o _ f.o).mono ?_;rintro e w5 ⟨rfl,d⟩;replace a:=vv (a.o.step d);replace f:=vv (f.o.below d);clear v z C D d;obtain⟨E,F,G,H⟩:=Blk.f3 (a.o.get 0 rfl);go_wp2_with fail;refine(u.o _).mono ?_;rintro e P ⟨rfl,d⟩;replace a:=vv (a.o.step d);replace f:=vv (f.o.below d);clear E F G H d;obtain⟨Q,R,S,T⟩:=Blk.f3 (a.o.get 0 rfl);have l:P.cell? ⟨J,off,qe⟩=qj (.int .u32 (y:Int)):=by
   have:=(a.o.low.cell (p:=⟨J,off+0,qe⟩) HL.o).trans HX.o
   simpa using this
  go_wp2_with fail;refine(V.o _).mono ?_;rintro e a3 ⟨rfl,d⟩;replace a:=vv (a.o.step d);replace f:=vv (f.o.below d);clear Q R S T d;go_wp2;go_ret;exact⟨rfl,a.o.low⟩
 ·have W:n=0:=by have:=h.r.words;rw[g,q0h] at this;exact this.symm
  have X:b=qa:=by rw[m,g];cases ng<;>rfl
  subst W hx X;have u:=vv fun w=>q2i A c w
  clear i s h m g I;obtain⟨v,z,C,D⟩:=Blk.f3 (a.o.get 0 rfl);go_enter func251,ntmps251;go_wp2_with fail;rw[<- U.o];go_wp2_with fail;refine(L.o _ f.o).mono ?_;rintro e w5 ⟨rfl,d⟩;replace a:=vv (a.o.step d);replace f:=vv (f.o.below d);clear v z C D d;obtain⟨E,F,G,H⟩:=Blk.f3 (a.o.get 0 rfl);go_wp2_with fail;refine(u.o _).mono ?_;rintro e P ⟨rfl,d⟩;replace a:=vv (a.o.step d);replace f:=vv (f.o.below d);clear E F G H d;obtain⟨Q,R,S,T⟩:=Blk.f3 (a.o.get 0 rfl);go_wp2;go_ret;exact⟨rfl,a.o.low⟩
theorem q4G(ng n2:Bool)(A:Option qk)(n c N:Nat)(x:Int)(q1:Rat)(B:Option qk)(m d M:Nat)(y:Int)(q2:Rat)(w:qf)(ha:DQ w A n c N x q1)(hb:DQ w B m d M y q2):qi qb 242 #[dyG ng A n c N x,dyG n2 B m d M y] w fun e w'=>e=.returned (.int .i64 0)/\qg w.heap.size w w':=by
 have i:=vv fun w' (k:DQ w' A n c N x q1)=>Check_ok ng A n c N x q1 w' k
 have j:=vv fun w' (k:DQ w' B m d M y q2)=>Check_ok n2 B m d M y q2 w' k
 unfold dyG at i j;obtain⟨r,l⟩:=yx ((ng && qc (0<N)));obtain⟨s,p⟩:=yx ((n2 && qc (0<M)));show qi qb 242 #[q0q (ng && qc (0<N)) A n c x,q0q (n2 && qc (0<M)) B m d y] w _;rw[<- l,<- p];rw[<- l] at i;rw[<- p] at j;obtain⟨K,q⟩:=yx ((w.alloc (.cells #[.bool r,.slice A n c,.int .i64 x] 62)).alloc (.cells #[.bool s,.slice B m d,.int .i64 y] 62));have h:Cx w [(w.heap.size+1,62,[.bool s,.slice B m d,.int .i64 y]),(w.heap.size,62,[.bool r,.slice A n c,.int .i64 x])] K:=by rw[q];exact((Cx.nil w).new _ [_,_,_] rfl).new _ [_,_,_] (by simp)
 have b:=vv h;have L:=vv q;have f:=vv (ha.below h.low);have g:=vv (hb.below h.low);clear q h ha hb l p;obtain⟨t,u,v,z⟩:=Blk.f3 (b.o.get 0 rfl);obtain⟨C,D,E,F⟩:=Blk.f3 (b.o.get 1 rfl);go_enter func242,ntmps242;go_wp2_with fail;rw[<- L.o];go_wp2_with fail;refine(i.o _ f.o).mono ?_;rintro e P ⟨rfl,a⟩;replace b:=vv (b.o.step a);replace f:=vv (f.o.below a);replace g:=vv (g.o.below a);clear t u v z C D E F a;obtain⟨G,H,I,J⟩:=Blk.f3 (b.o.get 0 rfl);go_wp2_with fail;refine(j.o _ g.o).mono ?_;rintro e O ⟨rfl,a⟩;replace b:=vv (b.o.step a);replace f:=vv (f.o.below a);replace g:=vv (g.o.below a);clear G H I J a;go_wp2;go_ret;exact⟨rfl,b.o.low⟩
theorem qcU(ng:Bool)(A:Option qk)(n c N:Nat)(x:Int)(q:Rat)(w:qf)(h:DQ w A n c N x q):qi qb 244 #[dyG ng A n c N x] w fun e w'=>∃A' n' c',e=.returned (dyG ng A' n' c' N x)/\DQ w' A' n' c' N x q/\qg w.heap.size w w':=by
 have E:=h.n_le;have I:=vv fun w' (k:DQ w' A n c N x q)=>R1.Twin A n c N w' k.r k.z E
 unfold dyG;obtain⟨b,F⟩:=yx ((ng && qc (0<N)));rw[<- F];obtain⟨w0,j⟩:=yx ((w.alloc (.cells #[.bool b,.slice A n c,.int .i64 x] 62)).alloc (.cells #[.bool qa,.slice qe 0 0,.int .i64 0] 62));have s:Cx w [(w.heap.size+1,62,[.bool qa,.slice qe 0 0,.int .i64 0]),(w.heap.size,62,[.bool b,.slice A n c,.int .i64 x])] w0:=by rw[j];exact((Cx.nil w).new _ [_,_,_] rfl).new _ [_,_,_] (by simp)
 have HD:qn (∀A' n' c' w',Rd w' A' n' c' (toL N)->(A'=qe->c'=0)->DQ w' A' n' c' N x q):=vv fun A' n' c' w' hr d=>⟨hr,h.e,h.o,h.bn,h.b1,h.b2,d⟩
 have a:=vv s;have HW:=vv j;have t:=vv (h.below s.low);clear j s h F E;obtain⟨J,L,M,O⟩:=Blk.f3 (a.o.get 1 rfl);have P:=(a.o.get 1 rfl).fz 0;have Q:=(a.o.get 1 rfl).fz 1;have R:=(a.o.get 1 rfl).fz 2;go_enter func244,ntmps244;go_wp2_with fail;rw[<- HW.o];go_wp2_with fail;refine(I.o _ t.o).mono ?_;rintro e G ⟨A',n',c',rfl,H,d,u⟩;replace a:=vv (a.o.step u);replace t:=vv (t.o.below u);have H1:=vv (RN.mk H);clear J L M O P Q R u H;have HZ:=vv d;clear d;obtain⟨S,T,U,V⟩:=Blk.f3 (a.o.get 1 rfl);have W:=(a.o.get 1 rfl).fz 0;have X:=(a.o.get 1 rfl).fz 1;have Y:=(a.o.get 1 rfl).fz 2;have l:=vv (a.o.get 0 rfl);have C:qn (RN (G.setCell ⟨w.heap.size,1,qe⟩ (.slice A' n' c')) A' n' c' N):=vv (H1.o.apart_ (a.o.get 1 rfl) rfl (Go.Proofs.YtabcgemembkkcaaGreatDoor.only_setCell (World.grownBy.refl _ _) (.inl rfl) _));have m:qn (qg w.heap.size w (G.setCell ⟨w.heap.size,1,qe⟩ (.slice A' n' c'))):=vv (a.o.low.setCell (p:=⟨w.heap.size,1,qe⟩) lr _);go_wp2_with (with_reducible refine q00 rfl 62 (.tmp 2) (.tmp 7) rfl (w.heap.size+1) [.bool b,.slice A' n' c',.int .i64 x] rfl rfl 62 _ (l.o.other (p:=⟨w.heap.size,1,qe⟩) (by show w.heap.size≠_;omega) _) (by kernel_rfl) rfl rfl ?_);intro w7 D y;have Z:=vv (C.o.apart_ (l.o.other (p:=⟨w.heap.size,1,qe⟩) (by show w.heap.size≠_;omega) _) rfl y);have a0:=vv (q0a m.o y m.o.size (k1z _));obtain⟨f,g,i⟩:=blk3 D;have K:=vv (And.intro f (And.intro g i));clear D y f g i C m l;clear S T U V W X Y;go_wp2;obtain⟨f,g,i⟩:=K.o;exact qh (v:=q0q b A' n' c' x) (by simp [results,results244,go_sem,f,g,i]) rfl ⟨A',n',c',rfl,HD.o _ _ _ _ Z.o.r HZ.o,a0.o⟩
end R4
end Go.Proofs.YtabcgemembkkcaaGreatDoor
