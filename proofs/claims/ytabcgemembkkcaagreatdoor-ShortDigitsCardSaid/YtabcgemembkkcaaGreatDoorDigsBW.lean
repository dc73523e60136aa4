/- Lemmas. -/
import Derived.Test.YtabcgemembkkcaaGreatDoorDigsBV
import Derived.Test.YtabcgemembkkcaaGreatDoorDigsBT
set_option linter.all false
set_option maxHeartbeats 8000000
set_option maxRecDepth 100000
open Go.Proofs.Tryz
open Decidable renaming decide->qa
open Bool renaming false->qb,true->ql
open Go.Proofs.Tryz renaming prog->qc
open Go renaming RowKit.Below.refl->qd,Calls->qg,World->qh,World.size_alloc->qi,bodyPost_ret->qj
open Option renaming none->qe,some->qk
open Go.RowKit renaming Below->qf
namespace Go.Proofs.YtabcgemembkkcaaGreatDoor
namespace Sho
open Go Go.RowKit R5 Scn Sh Rtp Fms Exa Nea
def q0P(E F b mode:Nat):Dcl:=if q0o E F b=0 then⟨q1v E F b,⟨#[]⟩,0⟩ else q1f (q0w E F b mode) (q2k E F b)
def qap(d:Dcl)(w:qh)(e:Ending)(w':qh):Prop:=e=.returned (.tuple #[d.v,.int .i64 0])/\qf w.heap.size w w'
theorem q3m{E F b:Nat}(hb:b<2^(1+E+F)):q0M E F b=q1v E F b:=by
 have a:=k0a (E+F);have c:(2:Nat)^(1+E+F)=2*2^(E+F):=by rw[show 1+E+F=(E+F)+1 by omega,k0d,k0g]
 unfold q0M q1v;rw[k0Z F E];by_cases h:2^(E+F)<=b
 ·rw[k1I (k:=1) (by omega) (by omega),k04 h];rfl
 ·rw[k0K (by omega),k02 h];rfl
theorem q4n(E F b:Nat):q0o E F b%2^F=q0r F b:=by unfold q0o q0r;exact k2R _ ⟨2^E,by rw[<- k0e,k0Z]⟩
theorem q9V(E F b:Nat):sq (q1v E F b) (wv E F (q0o E F b))=q2k E F b:=rfl
theorem qaj(E F b:Nat)(w:qh)(h1:2<=E)(h2:E<=11)(h3:1<=F)(h4:F<=52)(hb:b<2^(1+E+F))(hf:q0c E F b≠2^E-1)(hst:Std w):qg qc 24 #[fm E F,.int .u64 (b:Int)] w fun e w'=>∃ng A n N x,e=.returned (.tuple #[q0q ng A n n x,.int .i64 0])/\DQ w' A n n N x (wv E F (q0o E F b))/\(q0o E F b=0->n=0/\ng=qb)/\(0<q0o E F b->0<N/\0<n/\ng=q1v E F b)/\qf w.heap.size w w':=by
 have p:q0o E F b<2^(E+F):=k0i _ (k0a _);have q:=q1M E F b;have r:=q4n E F b;refine(Go.Proofs.YtabcgemembkkcaaGreatDoor.Exa.ValueF E F b w h1 h2 h3 h4 hb hf hst).mono ?_;rw[q3m hb,<- q,<- r];show ∀e w',q9R (q1v E F b) (mgN F (q0o E F b)) (mgX E F (q0o E F b)) w e w'->_;obtain⟨t,u⟩:=q2W h1 h2 h4 p;generalize q0o E F b=m at *
 have v:bl (mgN F m)<=60:=by have:=q0A (q3p F m);omega
 have o:Rb (wv E F m):=Rb.dq (by omega) (by omega) (by omega);intro e w' d;unfold q9R at d;split at d
 ·rename_i h0;obtain⟨f,k,rfl,a,-,g⟩:=d;have c:k=0:=by have:=a.words;rw[q0h] at this;exact this.symm
  have s:wv E F m=0:=by unfold wv;rw[h0,q1n]
  rw[s];refine⟨qb,f,k,0,0,rfl,DQ.of_zero a (fun _=>c),fun _=>⟨c,rfl⟩,fun h=>?_,g⟩;have:=q5t (F:=F) h;omega
 ·rename_i h0;obtain⟨f,k,rfl,a,-,g⟩:=d;have i:(mgN F m/2^Go.Proofs.YtabcgemembkkcaaGreatDoor.tz (mgN F m))%2=1:=by
   have:=Hx.oddN_odd (M:=mgN F m) (by omega);unfold Hx.oddN at this
   rwa [k0r h0] at this
  have c:0<k:=by
   rcases k01 k with j|j
   ·have:=a.words;rw[j,q06] at this;omega
   ·exact j
  refine⟨q1v E F b,f,k,_,_,rfl,DQ.of_odd a i (q65 (by omega) _).symm o (fun e=>?_),fun h=>?_,fun _=>⟨k0O fun e=>by rw[e] at i;exact absurd i (by decide),c,rfl⟩,g⟩
  ·obtain⟨b,off,l,-⟩:=a.cell c;rw[e] at l;cases l
  ·exfalso;apply h0;rw[h];unfold mgN mantOf;simp
theorem q70(E F b mode:Nat)(w:qh)(h1:2<=E)(h2:E<=11)(h3:1<=F)(h4:F<=52)(hb:b<2^(1+E+F))(hf:q0c E F b≠2^E-1)(hmo:mode<=4)(hm:0<q0o E F b)(hst:Std w):qg qc 8 #[fm E F,.int .u64 (b:Int),.int .u8 (mode:Int)] w (qap (q0P E F b mode) w):=by
 obtain⟨w0,M⟩:=yx ((w.alloc (.cells #[.int .i64 (E:Int),.int .i64 (F:Int)] 23)).alloc (.cells #[.bool qb,.string ⟨#[]⟩,.int .i64 0] 27));have i:Cx w [(w.heap.size+1,27,[.bool qb,.string ⟨#[]⟩,.int .i64 0]),(w.heap.size,23,[.int .i64 (E:Int),.int .i64 (F:Int)])] w0:=by rw[M];exact((Cx.nil w).new _ [_,_] rfl).new _ [_,_,_] (by simp)
 have R:=vv fun w' hs=>qam E F b mode w' h1 h2 h3 h4 hb hf hmo hs
 have C:=vv fun w'=>Split E F b w' h1 h2 h3 h4 hb
 rw[q3m hb] at C;have O:=vv fun w' hs=>qaj E F b w' h1 h2 h3 h4 hb hf hs
 obtain⟨xo,T⟩:=yx (q0c E F b);obtain⟨fo,U⟩:=yx (q0r F b);rw[<- T,<- U] at C;have D:Hid (∀A n c N x w',DQ w' A n c N x (wv E F (q0o E F b))->0<N->qg qc 25 #[q0q (q1v E F b) A n c x] w' (RvP (q2k E F b) w')):=vv fun A n c N x w' k k0=>by
  have:=(qan (q1v E F b) A n c N x _ w' k (fun _=>k0)).mono fun e w'' h=>RvP.of h
  rwa [q9V] at this
 obtain⟨q1,q2⟩:=q4g E F b mode hm;obtain⟨q3,q4,q5⟩:=q4h (E:=E) (F:=F) (b:=b) (mode:=mode) h1 h2 h4;have G:=vv fun r l h w' (hr:RI w' r (q2k E F b)) (hs:SI w' l h (q0w E F b mode)) (hst:Std w')=>q79 r l h _ _ w' hr hs q1 q2 q3 q4 q5 hst
 have V:q0P E F b mode=q1f (q0w E F b mode) (q2k E F b):=by unfold q0P;rw[k0r (by omega)]
 obtain⟨d,Q⟩:=yx (q1f (q0w E F b mode) (q2k E F b));rw[V,<- Q];rw[<- Q] at G;obtain⟨v,hv⟩:=yx (q2k E F b);rw[<- hv] at D G;obtain⟨mg,W⟩:=yx (wv E F (q0o E F b));rw[<- W] at D O;have Z:Hid (∀w',Std w'->qg qc 24 #[fm E F,.int .u64 (b:Int)] w' fun e w''=>∃A n N x,e=.returned (.tuple #[q0q (q1v E F b) A n n x,.int .i64 0])/\DQ w'' A n n N x mg/\0<N/\((n:Int)==0)=qb/\qf w'.heap.size w' w''):=vv fun w' hs=>(O.o w' hs).mono fun e w'' ⟨t,A,n,N,x,k1,k2,_,k3,k4⟩=>by obtain⟨j1,j2,j3⟩:=k3 hm;subst j3;exact⟨A,n,N,x,k1,k2,j1,k05.2 (by omega),k4⟩
 obtain⟨sp,b5⟩:=yx (q0w E F b mode);rw[<- b5] at R G;obtain⟨t,b6⟩:=yx (q1v E F b);rw[<- b6] at C Z D;have P:=vv hst;have f:=vv i;have HW:=vv M;clear M i hst T U V Q hv W b5 b6 O q1 q2 q3 q4 q5 hm hb hf hmo;obtain⟨b8,b9,c0⟩:=Blk.f2 (f.o.get 1 rfl);go_enter func8,ntmps8;go_wp2_with fail;rw[<- HW.o];go_wp2_with fail;refine(R.o _ (f.o.std P.o)).mono ?_;rintro e K ⟨l,h,rfl,hS,a⟩;replace f:=vv (f.o.step a);have j:=vv hS;clear b8 b9 c0 a hS;obtain⟨c1,c2,c4⟩:=Blk.f2 (f.o.get 1 rfl);go_wp2_with fail;obtain⟨c5,p⟩:=yx (K.heap.size);obtain⟨u,g⟩:=yx (K.alloc (.cells #[.bool l.b,.slice l.X l.n l.c,.slice l.Y l.m l.d] 39));have a:qf K.heap.size K u:=by rw[g];exact(qd _ _).alloc lr _
 have i:=f.o.new 39 [.bool l.b,.slice l.X l.n l.c,.slice l.Y l.m l.d] p;have a0:(c5+1:Nat)=u.heap.size:=by rw[g,qi,<- p]
 rw[<- g] at i 
 try rw[<- g]
 try rw[<- p]
 replace f:=vv i;replace j:=vv (j.o.below a);clear c1 c2 c4 g a i p;obtain⟨c6,g⟩:=yx (u.alloc (.cells #[.bool h.b,.slice h.X h.n h.c,.slice h.Y h.m h.d] 39));have a:qf u.heap.size u c6:=by rw[g];exact(qd _ _).alloc lr _
 have i:=f.o.new 39 [.bool h.b,.slice h.X h.n h.c,.slice h.Y h.m h.d] a0;rw[<- g] at i 
 try rw[<- g]
 replace f:=vv i;replace j:=vv (j.o.below a);clear g a i a0;refine(C.o _).mono ?_;rintro e L ⟨rfl,a⟩;replace f:=vv (f.o.step a);replace j:=vv (j.o.below a);clear a;obtain⟨a1,a2,a3⟩:=Blk.f2 (f.o.get 3 rfl);go_wp2_with fail;obtain⟨d1,p⟩:=yx (L.heap.size);obtain⟨c7,g⟩:=yx (L.alloc (.cells #[.bool t,.int .i64 (xo:Int),.int .u64 (fo:Int)] 58));have a:qf L.heap.size L c7:=by rw[g];exact(qd _ _).alloc lr _
 have i:=f.o.new 58 [.bool t,.int .i64 (xo:Int),.int .u64 (fo:Int)] p;rw[<- g] at i 
 try rw[<- g]
 try rw[<- p]
 replace f:=vv i;replace j:=vv (j.o.below a);clear a1 a2 a3 g a i p;refine(Z.o _ (f.o.std P.o)).mono ?_;rintro e H ⟨A,n,N,x,rfl,hD,hN,hn,a⟩;replace f:=vv (f.o.step a);replace j:=vv (j.o.below a);have y:=vv hD;have HN:=vv hN;clear a hD hN;go_wp2_with fail;obtain⟨d2,p⟩:=yx (H.heap.size);obtain⟨c8,g⟩:=yx (H.alloc (.cells #[.bool t,.slice A n n,.int .i64 x] 62));have a:qf H.heap.size H c8:=by rw[g];exact(qd _ _).alloc lr _
 have i:=f.o.new 62 [.bool t,.slice A n n,.int .i64 x] p;rw[<- g] at i 
 try rw[<- g]
 try rw[<- p]
 replace f:=vv i;replace j:=vv (j.o.below a);replace y:=vv (y.o.below a);clear g a i p;refine(D.o _ _ _ _ _ _ y.o HN.o).mono ?_;rintro e I ⟨r,rfl,hI,a⟩;replace f:=vv (f.o.step a);replace j:=vv (j.o.below a);replace y:=vv (y.o.below a);have q:=vv hI;clear a hI;obtain⟨a4,a5,a6,a7⟩:=Blk.f3 (f.o.get 2 rfl);obtain⟨a8,a9,b0,b1⟩:=Blk.f3 (f.o.get 3 rfl);go_wp2_with fail;obtain⟨d3,p⟩:=yx (I.heap.size);obtain⟨c9,g⟩:=yx (I.alloc (.cells #[.bool r.b,.slice r.X r.n r.c,.slice r.Y r.m r.d] 39));have a:qf I.heap.size I c9:=by rw[g];exact(qd _ _).alloc lr _
 have i:=f.o.new 39 [.bool r.b,.slice r.X r.n r.c,.slice r.Y r.m r.d] p;rw[<- g] at i 
 try rw[<- g]
 try rw[<- p]
 replace f:=vv i;replace j:=vv (j.o.below a);replace q:=vv (q.o.below a);clear a4 a5 a6 a7 a8 a9 b0 b1 g a i p;refine(G.o _ _ _ _ q.o j.o (f.o.std P.o)).mono ?_;rintro e J ⟨rfl,a⟩;replace f:=vv (f.o.step a);replace j:=vv (j.o.below a);replace q:=vv (q.o.below a);clear a;have s:=vv (f.o.get 5 rfl);go_wp2_with (with_reducible refine q00 rfl 27 (.tmp 6) (.tmp 76) rfl (w.heap.size+1) [.bool d.neg,.string d.S,.int .i64 d.x] rfl rfl 27 _ (s.o.alloc _) (by kernel_rfl) rfl rfl ?_);intro d4 b7 z;clear s;obtain⟨d5,p⟩:=yx (J.heap.size);obtain⟨d0,g⟩:=yx (J.alloc (.cells #[.bool d.neg,.string d.S,.int .i64 d.x] 27));have a:qf J.heap.size J d0:=by rw[g];exact(qd _ _).alloc lr _
 have i:=f.o.new 27 [.bool d.neg,.string d.S,.int .i64 d.x] p;rw[<- g] at i z
 try rw[<- g]
 try rw[<- p]
 replace f:=vv i;replace j:=vv (j.o.below a);replace q:=vv (q.o.below a);clear g a i p;have s:=vv (f.o.get 6 rfl);replace f:=vv (f.o.put 6 rfl b7 z);replace j:=vv (j.o.apart_ s.o rfl z);replace q:=vv (q.o.apart_ s.o rfl z);clear s b7 z;go_wp2;obtain⟨b2,b3,b4⟩:=Blk.c3 (f.o.get 6 rfl);exact qj (v:=.tuple #[d.v,.int .i64 0]) (by simp [results,results8,go_sem,b2,b3,b4]) rfl ⟨rfl,f.o.low⟩
theorem q5L(E F b mode:Nat)(w:qh)(h1:2<=E)(h2:E<=11)(h3:1<=F)(h4:F<=52)(hb:b<2^(1+E+F))(hf:q0c E F b≠2^E-1)(hmo:mode<=4)(hm:q0o E F b=0)(hst:Std w):qg qc 8 #[fm E F,.int .u64 (b:Int),.int .u8 (mode:Int)] w (qap (q0P E F b mode) w):=by
 obtain⟨w0,D⟩:=yx ((w.alloc (.cells #[.int .i64 (E:Int),.int .i64 (F:Int)] 23)).alloc (.cells #[.bool qb,.string ⟨#[]⟩,.int .i64 0] 27));have i:Cx w [(w.heap.size+1,27,[.bool qb,.string ⟨#[]⟩,.int .i64 0]),(w.heap.size,23,[.int .i64 (E:Int),.int .i64 (F:Int)])] w0:=by rw[D];exact((Cx.nil w).new _ [_,_] rfl).new _ [_,_,_] (by simp)
 have H:=vv fun w' hs=>qam E F b mode w' h1 h2 h3 h4 hb hf hmo hs
 have t:=vv fun w'=>Split E F b w' h1 h2 h3 h4 hb
 rw[q3m hb] at t;have G:=vv fun w' hs=>qaj E F b w' h1 h2 h3 h4 hb hf hs
 obtain⟨S,I⟩:=yx (q0c E F b);obtain⟨T,J⟩:=yx (q0r F b);rw[<- I,<- J] at t;have K:q0P E F b mode=⟨q1v E F b,⟨#[]⟩,0⟩:=by unfold q0P;rw[k0p hm]
 rw[K];obtain⟨mg,L⟩:=yx (wv E F (q0o E F b));rw[<- L] at G;have W:Hid (∀w',Std w'->qg qc 24 #[fm E F,.int .u64 (b:Int)] w' fun e w''=>∃A N x,e=.returned (.tuple #[q0q qb A 0 0 x,.int .i64 0])/\DQ w'' A 0 0 N x mg/\qf w'.heap.size w' w''):=vv fun w' hs=>(G.o w' hs).mono fun e w'' ⟨q,A,n,N,x,k1,k2,k3,_,k4⟩=>by obtain⟨j1,j2⟩:=k3 hm;subst j1 j2;exact⟨A,N,x,k1,k2,k4⟩
 obtain⟨sp,M⟩:=yx (q0w E F b mode);rw[<- M] at H;obtain⟨q,O⟩:=yx (q1v E F b);rw[<- O] at t ⊢;have P:=vv hst;have a:=vv i;have HW:=vv D;clear D i hst I J K L M O G hm hb hf hmo;obtain⟨Z,b0,b1⟩:=Blk.f2 (a.o.get 1 rfl);go_enter func8,ntmps8;go_wp2_with fail;rw[<- HW.o];go_wp2_with fail;refine(H.o _ (a.o.std P.o)).mono ?_;rintro e y ⟨l,h,rfl,U,f⟩;replace a:=vv (a.o.step f);have j:=vv U;clear Z b0 b1 f U;obtain⟨b2,b3,b4⟩:=Blk.f2 (a.o.get 1 rfl);go_wp2_with fail;obtain⟨b5,k⟩:=yx (y.heap.size);obtain⟨r,g⟩:=yx (y.alloc (.cells #[.bool l.b,.slice l.X l.n l.c,.slice l.Y l.m l.d] 39));have f:qf y.heap.size y r:=by rw[g];exact(qd _ _).alloc lr _
 have i:=a.o.new 39 [.bool l.b,.slice l.X l.n l.c,.slice l.Y l.m l.d] k;have Q:(b5+1:Nat)=r.heap.size:=by rw[g,qi,<- k]
 rw[<- g] at i 
 try rw[<- g]
 try rw[<- k]
 replace a:=vv i;replace j:=vv (j.o.below f);clear b2 b3 b4 g f i k;obtain⟨b6,g⟩:=yx (r.alloc (.cells #[.bool h.b,.slice h.X h.n h.c,.slice h.Y h.m h.d] 39));have f:qf r.heap.size r b6:=by rw[g];exact(qd _ _).alloc lr _
 have i:=a.o.new 39 [.bool h.b,.slice h.X h.n h.c,.slice h.Y h.m h.d] Q;rw[<- g] at i 
 try rw[<- g]
 replace a:=vv i;replace j:=vv (j.o.below f);clear g f i Q;refine(t.o _).mono ?_;rintro e z ⟨rfl,f⟩;replace a:=vv (a.o.step f);replace j:=vv (j.o.below f);clear f;obtain⟨a0,a1,a2⟩:=Blk.f2 (a.o.get 3 rfl);go_wp2_with fail;obtain⟨b9,k⟩:=yx (z.heap.size);obtain⟨b7,g⟩:=yx (z.alloc (.cells #[.bool q,.int .i64 (S:Int),.int .u64 (T:Int)] 58));have f:qf z.heap.size z b7:=by rw[g];exact(qd _ _).alloc lr _
 have i:=a.o.new 58 [.bool q,.int .i64 (S:Int),.int .u64 (T:Int)] k;rw[<- g] at i 
 try rw[<- g]
 try rw[<- k]
 replace a:=vv i;replace j:=vv (j.o.below f);clear a0 a1 a2 g f i k;refine(W.o _ (a.o.std P.o)).mono ?_;rintro e u ⟨A,N,x,rfl,V,f⟩;replace a:=vv (a.o.step f);replace j:=vv (j.o.below f);have C:=vv V;clear f V;obtain⟨a3,a4,a5,a6⟩:=Blk.f3 (a.o.get 0 rfl);have p:=vv (a.o.get 3 rfl);go_wp2_with (with_reducible refine q00 rfl 27 (.tmp 6) (.tmp 56) rfl (w.heap.size+1) [.bool q,.string ⟨#[]⟩,.int .i64 0] rfl rfl 27 _ (p.o.alloc _) (by kernel_rfl) rfl rfl ?_);intro c0 R s;clear p;obtain⟨c1,k⟩:=yx (u.heap.size);obtain⟨b8,g⟩:=yx (u.alloc (.cells #[.bool qb,.slice A 0 0,.int .i64 x] 62));have f:qf u.heap.size u b8:=by rw[g];exact(qd _ _).alloc lr _
 have i:=a.o.new 62 [.bool qb,.slice A 0 0,.int .i64 x] k;rw[<- g] at i s
 try rw[<- g]
 try rw[<- k]
 replace a:=vv i;replace j:=vv (j.o.below f);replace C:=vv (C.o.below f);clear a3 a4 a5 a6 g f i k;have p:=vv (a.o.get 4 rfl);replace a:=vv (a.o.put 4 rfl R s);replace j:=vv (j.o.apart_ p.o rfl s);replace C:=vv (C.o.apart_ p.o rfl s);clear p R s;go_wp2;obtain⟨a7,a8,a9⟩:=Blk.c3 (a.o.get 4 rfl);exact qj (v:=.tuple #[(⟨q,⟨#[]⟩,0⟩:Dcl).v,.int .i64 0]) (by simp [results,results8,go_sem,a7,a8,a9]) rfl ⟨rfl,a.o.low⟩
theorem q5M(E F b mode:Nat)(w:qh)(h1:2<=E)(h2:E<=11)(h3:1<=F)(h4:F<=52)(hb:b<2^(1+E+F))(hf:q0c E F b≠2^E-1)(hmo:mode<=4)(hst:Std w):qg qc 8 #[fm E F,.int .u64 (b:Int),.int .u8 (mode:Int)] w (qap (q0P E F b mode) w):=by
 rcases k01 (q0o E F b) with h|h
 ·exact q5L E F b mode w h1 h2 h3 h4 hb hf hmo h hst
 ·exact q70 E F b mode w h1 h2 h3 h4 hb hf hmo h hst
theorem aw1:(q0P 11 52 4591870180066957722 0).neg=qb/\(q0P 11 52 4591870180066957722 0).S=⟨#[49]⟩/\(q0P 11 52 4591870180066957722 0).x = -1:=by decide +kernel
theorem aw2:(q0P 5 10 15361 3).neg=qb/\(q0P 5 10 15361 3).S=⟨#[49,48,48,48,57]⟩/\(q0P 5 10 15361 3).x = -4:=by decide +kernel
theorem aw5:(q1f ⟨mkRat 1 3,1,ql,qb⟩ (mkRat 1 3)).neg=qb/\(q1f ⟨mkRat 1 3,1,ql,qb⟩ (mkRat 1 3)).S=⟨#[52]⟩/\(q1f ⟨mkRat 1 3,1,ql,qb⟩ (mkRat 1 3)).x = -1:=by decide +kernel
theorem aw3:q6W 5 10 qb ⟨#[54,53,53,51,53]⟩ 0 31743 2=ql:=by decide +kernel
theorem aw4:q6W 5 10 qb ⟨#[54,53,53,50]⟩ 1 31744 0=qb:=by decide +kernel
theorem qcQ(w:qh)(hst:Std w):qg qc 8 #[fm 11 52,.int .u64 4591870180066957722,.int .u8 0] w fun e w'=>e=.returned (.tuple #[.agg #[.bool qb,.string ⟨#[49]⟩,.int .i64 (-1)],.int .i64 0])/\qf w.heap.size w w':=by have h:=q5M 11 52 4591870180066957722 0 w (by decide) (by decide) (by decide) (by decide) (by decide) (by decide +kernel) (by decide) hst;unfold qap Dcl.v at h;rw[aw1.1,aw1.2.1,aw1.2.2] at h;exact h
theorem qcP(w:qh)(hst:Std w):qg qc 8 #[fm 5 10,.int .u64 15361,.int .u8 3] w fun e w'=>e=.returned (.tuple #[.agg #[.bool qb,.string ⟨#[49,48,48,48,57]⟩,.int .i64 (-4)],.int .i64 0])/\qf w.heap.size w w':=by have h:=q5M 5 10 15361 3 w (by decide) (by decide) (by decide) (by decide) (by decide) (by decide +kernel) (by decide) hst;unfold qap Dcl.v at h;rw[aw2.1,aw2.2.1,aw2.2.2] at h;exact h
theorem qdM(w:qh)(hst:Std w):qg qc 10 #[fm 5 10,.agg #[.bool qb,.string ⟨#[54,53,53,51,53]⟩,.int .i64 0],.int .u64 31743,.int .u8 2] w fun e w'=>e=.returned (.tuple #[.bool ql,.int .i64 0])/\qf w.heap.size w w':=by have h:=q8I 4 10 qb ⟨#[54,53,53,51,53]⟩ 0 31743 2 w (by decide) (by decide) (by decide) (by decide) (by decide) (by decide) (by decide +kernel) (by decide +kernel) (by decide) hst;unfold BkP at h;rw[show q6W (4+1) 10 qb ⟨#[54,53,53,51,53]⟩ 0 31743 2=ql from aw3] at h;exact h
theorem qdL(w:qh)(hst:Std w):qg qc 10 #[fm 5 10,.agg #[.bool qb,.string ⟨#[54,53,53,50]⟩,.int .i64 1],.int .u64 31744,.int .u8 0] w fun e w'=>e=.returned (.tuple #[.bool qb,.int .i64 0])/\qf w.heap.size w w':=by have h:=q8I 4 10 qb ⟨#[54,53,53,50]⟩ 1 31744 0 w (by decide) (by decide) (by decide) (by decide) (by decide) (by decide) (by decide +kernel) (by decide +kernel) (by decide) hst;unfold BkP at h;rw[show q6W (4+1) 10 qb ⟨#[54,53,53,50]⟩ 1 31744 0=qb from aw4] at h;exact h
theorem q4o(k:Nat)(hk:k<4294967296)(w:qh):Rd (w.alloc (.cells #[.int .u32 (k:Int)] 54)) (qk ⟨w.heap.size,0,qe⟩) 1 1 [k]:=(Own.lit (t:=54) [k] (q0y.2 ⟨hk,q0L⟩) rfl).rd rfl lr (by decide)
abbrev awR(g:Nat):List Go.Value:=[.bool qb,.slice (qk ⟨g,0,qe⟩) 1 1,.slice (qk ⟨g+1,0,qe⟩) 1 1]
abbrev awW(w:qh):qh:=((((((w.alloc (.cells #[.int .u32 1] 54)).alloc (.cells #[.int .u32 1] 54)).alloc (.cells #[.bool qb,.slice (qk ⟨w.heap.size,0,qe⟩) 1 1,.slice (qk ⟨w.heap.size+1,0,qe⟩) 1 1] 39)).alloc (.cells #[.int .u32 1] 54)).alloc (.cells #[.int .u32 3] 54)).alloc (.cells #[.bool qb,.slice (qk ⟨w.heap.size+1+1+1,0,qe⟩) 1 1,.slice (qk ⟨w.heap.size+1+1+1+1,0,qe⟩) 1 1] 39))
theorem al(w:qh)(o:Obj):qf w.heap.size w (w.alloc o):=(qd _ _).alloc lr _
theorem qbp(w:qh):∃o t:RV,o.v=.agg #[.bool qb,.slice (qk ⟨w.heap.size,0,qe⟩) 1 1,.slice (qk ⟨w.heap.size+1,0,qe⟩) 1 1]/\t.v=.agg #[.bool qb,.slice (qk ⟨w.heap.size+1+1+1,0,qe⟩) 1 1,.slice (qk ⟨w.heap.size+1+1+1+1,0,qe⟩) 1 1]/\RI (awW w) o 1/\RI (awW w) t (mkRat 1 3)/\max o.n o.m<=256/\max t.n t.m<=256/\qf w.heap.size w (awW w):=by
 refine⟨⟨qb,qk ⟨w.heap.size,0,qe⟩,1,1,qk ⟨w.heap.size+1,0,qe⟩,1,1⟩,⟨qb,qk ⟨w.heap.size+1+1+1,0,qe⟩,1,1,qk ⟨w.heap.size+1+1+1+1,0,qe⟩,1,1⟩,rfl,rfl,?_,?_,(show max 1 1<=256 by decide),(show max 1 1<=256 by decide),?_⟩
 ·have b:=q4o 1 (by decide) w;have a:=q4o 1 (by decide) (w.alloc (.cells #[.int .u32 1] 54));rw[qi] at a;have e:toL 1=[1]:=by decide +kernel
  refine⟨(show qb=qa ((1:Rat).num<0) by decide +kernel),?_,?_⟩
  ·show Rd _ _ _ _ (toL ((1:Rat).num.natAbs));rw[show(1:Rat).num.natAbs=1 by decide +kernel,e];exact((((b.below (al _ _) rfl).below (al _ _) rfl).below (al _ _) rfl).below (al _ _) rfl).below (al _ _) rfl
  ·show Rd _ _ _ _ (toL ((1:Rat).den));rw[show(1:Rat).den=1 by decide +kernel,e];exact(((a.below (al _ _) rfl).below (al _ _) rfl).below (al _ _) rfl).below (al _ _) rfl
 ·have b:=q4o 1 (by decide) (((w.alloc (.cells #[.int .u32 1] 54)).alloc (.cells #[.int .u32 1] 54)).alloc (.cells #[.bool qb,.slice (qk ⟨w.heap.size,0,qe⟩) 1 1,.slice (qk ⟨w.heap.size+1,0,qe⟩) 1 1] 39));have a:=q4o 3 (by decide) ((((w.alloc (.cells #[.int .u32 1] 54)).alloc (.cells #[.int .u32 1] 54)).alloc (.cells #[.bool qb,.slice (qk ⟨w.heap.size,0,qe⟩) 1 1,.slice (qk ⟨w.heap.size+1,0,qe⟩) 1 1] 39)).alloc (.cells #[.int .u32 1] 54));simp only[qi] at b a;have e:toL 1=[1]:=by decide +kernel
  have c:toL 3=[3]:=by decide +kernel
  refine⟨(show qb=qa ((mkRat 1 3).num<0) by decide +kernel),?_,?_⟩
  ·show Rd _ _ _ _ (toL ((mkRat 1 3).num.natAbs));rw[show(mkRat 1 3).num.natAbs=1 by decide +kernel,e];exact(b.below (al _ _) rfl).below (al _ _) rfl
  ·show Rd _ _ _ _ (toL ((mkRat 1 3).den));rw[show(mkRat 1 3).den=3 by decide +kernel,c];exact a.below (al _ _) rfl
 ·exact((((((qd _ _).alloc lr _).alloc (by simp) _).alloc (by simp;omega) _).alloc (by simp;omega) _).alloc (by simp;omega) _).alloc (by simp;omega) _
theorem q8v(w:qh)(hst:Std w):qg qc 13 #[.agg #[.bool qb,.slice (qk ⟨w.heap.size+1+1+1,0,qe⟩) 1 1,.slice (qk ⟨w.heap.size+1+1+1+1,0,qe⟩) 1 1],.agg #[.bool qb,.slice (qk ⟨w.heap.size,0,qe⟩) 1 1,.slice (qk ⟨w.heap.size+1,0,qe⟩) 1 1],.bool ql,.bool qb,.agg #[.bool qb,.slice (qk ⟨w.heap.size+1+1+1,0,qe⟩) 1 1,.slice (qk ⟨w.heap.size+1+1+1+1,0,qe⟩) 1 1]] (awW w) fun e w'=>e=.returned (.tuple #[.agg #[.bool qb,.string ⟨#[52]⟩,.int .i64 (-1)],.bool ql,.int .i64 0])/\qf w.heap.size w w':=by obtain⟨o,t,f,g,i,b,j,c,a⟩:=qbp w;have h:=q8y t o t (mkRat 1 3) ⟨mkRat 1 3,1,ql,qb⟩ (awW w) b ⟨b,i⟩ (by decide +kernel) (by decide +kernel) ⟨by decide +kernel,by decide +kernel⟩ ⟨by decide +kernel,by decide +kernel⟩ ⟨by decide +kernel,by decide +kernel⟩ c j c (hst.fs (Fs.of_nil a));rw[g,f] at h;refine h.mono ?_;rintro e w' ⟨rfl,d⟩;unfold Dcl.v;rw[aw5.1,aw5.2.1,aw5.2.2];exact⟨rfl,a.trans (d.mono a.size)⟩
theorem qcA(w:qh):qg qc 21 #[] w fun e w'=>e=.returned (fm 5 10)/\qf w.heap.size w w':=by have a:qf w.heap.size w (w.alloc (.cells #[.int .i64 5,.int .i64 10] 23)):=(qd _ _).alloc lr _;have b:=vv a;clear a;go_enter func21,ntmps21;go_wp2;exact qj (v:=fm 5 10) (by simp [results,results21,go_sem]) rfl ⟨rfl,b.o⟩
theorem qbo(w:qh)(hst:Std w):qg qc 7 #[] w fun e w'=>e=.returned (.bool ql)/\qf w.heap.size w w':=by
 have a:=vv (Cx.nil w);have g:=vv hst;have k:=vv qcQ;have l:=vv qcP;have m:=vv qdM;have n:=vv qdL;have p:=vv q8v;have j:=vv qcA;clear hst;go_enter func7,ntmps7;go_wp2_with fail;refine(k.o _ (a.o.std g.o)).mono ?_;rintro e h ⟨rfl,b⟩;replace a:=vv (a.o.step b);clear b;go_wp2_with fail;obtain⟨G,d⟩:=yx (h.heap.size);obtain⟨q,c⟩:=yx (h.alloc (.cells #[.bool qb,.string ⟨#[49]⟩,.int .i64 (-1)] 27));have b:qf h.heap.size h q:=by rw[c];exact(qd _ _).alloc lr _
 have f:=a.o.new 27 [.bool qb,.string ⟨#[49]⟩,.int .i64 (-1)] d;rw[<- c] at f 
 try rw[<- c]
 try rw[<- d]
 replace a:=vv f;clear c b f d;refine(j.o _).mono ?_;rintro e H ⟨rfl,b⟩;replace a:=vv (a.o.step b);clear b;go_wp2_with fail;refine(l.o _ (a.o.std g.o)).mono ?_;rintro e i ⟨rfl,b⟩;replace a:=vv (a.o.step b);clear b;go_wp2_with fail;obtain⟨I,d⟩:=yx (i.heap.size);obtain⟨r,c⟩:=yx (i.alloc (.cells #[.bool qb,.string ⟨#[49,48,48,48,57]⟩,.int .i64 (-4)] 27));have b:qf i.heap.size i r:=by rw[c];exact(qd _ _).alloc lr _
 have f:=a.o.new 27 [.bool qb,.string ⟨#[49,48,48,48,57]⟩,.int .i64 (-4)] d;rw[<- c] at f 
 try rw[<- c]
 try rw[<- d]
 replace a:=vv f;clear c b f d;refine(j.o _).mono ?_;rintro e J ⟨rfl,b⟩;replace a:=vv (a.o.step b);clear b;go_wp2_with fail;refine(m.o _ (a.o.std g.o)).mono ?_;rintro e K ⟨rfl,b⟩;replace a:=vv (a.o.step b);clear b;go_wp2_with fail;refine(j.o _).mono ?_;rintro e s ⟨rfl,b⟩;replace a:=vv (a.o.step b);clear b;go_wp2_with fail;refine(n.o _ (a.o.std g.o)).mono ?_;rintro e t ⟨rfl,b⟩;replace a:=vv (a.o.step b);clear b;go_wp2_with fail;refine(p.o _ (a.o.std g.o)).mono ?_;rintro e u ⟨rfl,b⟩;replace a:=vv (a.o.step b);clear b;obtain⟨v,x,y,z⟩:=Blk.f3 (a.o.get 0 rfl);obtain⟨C,D,E,F⟩:=Blk.f3 (a.o.get 1 rfl);go_wp2;go_ret;exact⟨rfl,a.o.low.alloc a.o.low.size _⟩
end Sho
namespace Nea
open Go Go.RowKit R5 Scn Sh Fms Exa Sho Rtp
abbrev q2y:Go.Value:=.agg #[.bool qb,.slice qe 0 0,.slice qe 0 0]
def q3L(er:Int)(w:qh)(e:Ending)(w':qh):Prop:=e=.returned (.tuple #[q2y,q2y,.bool qb,.bool qb,.int .i64 er])/\qf w.heap.size w w'
theorem q3F(E F:Int)(b mode:Nat)(q:Int)(w:qh)(hn:∀g w',One w' g b->qg qc 56 #[fm E F,.slice (qk ⟨g,0,qe⟩) 1 1] w' fun e w''=>(∃is,e=.returned (.tuple #[.int .i64 q,.bool is]))/\qf w'.heap.size w' w'')(h0:(q==0)=qb):qg qc 22 #[fm E F,.int .u64 (b:Int),.int .u8 (mode:Int)] w (q3L q w):=by
 obtain⟨d,j⟩:=yx (((w.alloc (.cells #[.int .i64 E,.int .i64 F] 23)).alloc (.cells #[.bool qb,.slice qe 0 0,.slice qe 0 0] 39)).alloc (.cells #[.bool qb,.slice qe 0 0,.slice qe 0 0] 39));have f:Cx w [(w.heap.size+1+1,39,[.bool qb,.slice qe 0 0,.slice qe 0 0]),(w.heap.size+1,39,[.bool qb,.slice qe 0 0,.slice qe 0 0]),(w.heap.size,23,[.int .i64 E,.int .i64 F])] d:=by rw[j];exact(((Cx.nil w).new _ [_,_] rfl).new _ [_,_,_] (by simp)).new _ [_,_,_] (by simp)
 have n:=vv hn;have p:Hid (w.heap.size+1+1+1=d.heap.size):=vv (by rw[j];simp);have a:=vv f;have G:=vv j;clear j f hn;obtain⟨r,s,t⟩:=Blk.f2 (a.o.get 2 rfl);go_enter func22,ntmps22;go_wp2_with fail;rw[<- G.o,p.o];obtain⟨I,m⟩:=yx (d.heap.size);obtain⟨H,k⟩:=yx (d.alloc (.cells #[.int .u64 (b:Int)] 24));have l:qf d.heap.size d H:=by rw[k];exact(qd _ _).alloc lr _
 have f:=a.o.new 24 [.int .u64 (b:Int)] m;rw[<- k] at f 
 try rw[<- k]
 try rw[<- m]
 replace a:=vv f;clear r s t k l f m;refine(n.o _ _ ⟨(a.o.get 0 rfl).cell 0,(a.o.get 0 rfl).lt⟩).mono ?_;rintro e J ⟨⟨is,rfl⟩,l⟩;replace a:=vv (a.o.step l);clear l;have c:=vv (a.o.get 2 rfl);go_wp2_with (with_reducible refine q00 rfl 39 (.tmp 6) (.tmp 35) rfl (w.heap.size+1) [.bool qb,.slice qe 0 0,.slice qe 0 0] rfl rfl 39 _ c.o (by kernel_rfl) rfl rfl ?_);intro K h i;clear c;have c:=vv (a.o.get 2 rfl);replace a:=vv (a.o.put 2 rfl h i);clear c h i;have c:=vv (a.o.get 1 rfl);go_wp2_with (with_reducible refine q00 rfl 39 (.tmp 7) (.tmp 36) rfl (w.heap.size+1+1) [.bool qb,.slice qe 0 0,.slice qe 0 0] rfl rfl 39 _ c.o (by kernel_rfl) rfl rfl ?_);intro L h i;clear c;have c:=vv (a.o.get 1 rfl);replace a:=vv (a.o.put 1 rfl h i);clear c h i;go_wp2;obtain⟨u,x,y⟩:=Blk.c3 (a.o.get 2 rfl);obtain⟨z,C,D⟩:=Blk.c3 (a.o.get 1 rfl);exact qj (v:=.tuple #[q2y,q2y,.bool qb,.bool qb,.int .i64 q]) (by simp [results,results22,go_sem,u,x,y,z,C,D]) rfl ⟨rfl,a.o.low⟩
theorem q3E(E F:Int)(b mode:Nat)(w:qh)(hn:∀g w',One w' g b->qg qc 56 #[fm E F,.slice (qk ⟨g,0,qe⟩) 1 1] w' fun e w''=>(∃is,e=.returned (.tuple #[.int .i64 0,.bool is]))/\qf w'.heap.size w' w'')(hm:qa ((4:Int)<(mode:Int))=ql):qg qc 22 #[fm E F,.int .u64 (b:Int),.int .u8 (mode:Int)] w (q3L 7 w):=by
 obtain⟨d,j⟩:=yx (((w.alloc (.cells #[.int .i64 E,.int .i64 F] 23)).alloc (.cells #[.bool qb,.slice qe 0 0,.slice qe 0 0] 39)).alloc (.cells #[.bool qb,.slice qe 0 0,.slice qe 0 0] 39));have f:Cx w [(w.heap.size+1+1,39,[.bool qb,.slice qe 0 0,.slice qe 0 0]),(w.heap.size+1,39,[.bool qb,.slice qe 0 0,.slice qe 0 0]),(w.heap.size,23,[.int .i64 E,.int .i64 F])] d:=by rw[j];exact(((Cx.nil w).new _ [_,_] rfl).new _ [_,_,_] (by simp)).new _ [_,_,_] (by simp)
 have n:=vv hn;have p:Hid (w.heap.size+1+1+1=d.heap.size):=vv (by rw[j];simp);have a:=vv f;have D:=vv j;clear j f hn;obtain⟨q,r,s⟩:=Blk.f2 (a.o.get 2 rfl);go_enter func22,ntmps22;go_wp2_with fail;rw[<- D.o,p.o];obtain⟨H,m⟩:=yx (d.heap.size);obtain⟨G,k⟩:=yx (d.alloc (.cells #[.int .u64 (b:Int)] 24));have l:qf d.heap.size d G:=by rw[k];exact(qd _ _).alloc lr _
 have f:=a.o.new 24 [.int .u64 (b:Int)] m;rw[<- k] at f 
 try rw[<- k]
 try rw[<- m]
 replace a:=vv f;clear q r s k l f m;refine(n.o _ _ ⟨(a.o.get 0 rfl).cell 0,(a.o.get 0 rfl).lt⟩).mono ?_;rintro e I ⟨⟨is,rfl⟩,l⟩;replace a:=vv (a.o.step l);clear l;have c:=vv (a.o.get 2 rfl);go_wp2_with (with_reducible refine q00 rfl 39 (.tmp 6) (.tmp 35) rfl (w.heap.size+1) [.bool qb,.slice qe 0 0,.slice qe 0 0] rfl rfl 39 _ c.o (by kernel_rfl) rfl rfl ?_);intro J h i;clear c;have c:=vv (a.o.get 2 rfl);replace a:=vv (a.o.put 2 rfl h i);clear c h i;have c:=vv (a.o.get 1 rfl);go_wp2_with (with_reducible refine q00 rfl 39 (.tmp 7) (.tmp 36) rfl (w.heap.size+1+1) [.bool qb,.slice qe 0 0,.slice qe 0 0] rfl rfl 39 _ c.o (by kernel_rfl) rfl rfl ?_);intro K h i;clear c;have c:=vv (a.o.get 1 rfl);replace a:=vv (a.o.put 1 rfl h i);clear c h i;go_wp2;obtain⟨t,u,x⟩:=Blk.c3 (a.o.get 2 rfl);obtain⟨y,z,C⟩:=Blk.c3 (a.o.get 1 rfl);exact qj (v:=.tuple #[q2y,q2y,.bool qb,.bool qb,.int .i64 7]) (by simp [results,results22,go_sem,t,u,x,y,z,C]) rfl ⟨rfl,a.o.low⟩
theorem q3D(E F:Int)(b mode:Nat)(w:qh)(hn:∀g w',One w' g b->qg qc 56 #[fm E F,.slice (qk ⟨g,0,qe⟩) 1 1] w' fun e w''=>(∃is,e=.returned (.tuple #[.int .i64 0,.bool is]))/\qf w'.heap.size w' w'')(hm:qa ((4:Int)<(mode:Int))=qb)(hf:∀g w',One w' g b->qg qc 57 #[fm E F,.slice (qk ⟨g,0,qe⟩) 1 1] w' fun e w''=>e=.returned (.int .i64 8)/\qf w'.heap.size w' w''):qg qc 22 #[fm E F,.int .u64 (b:Int),.int .u8 (mode:Int)] w (q3L 8 w):=by
 obtain⟨j,m⟩:=yx (((w.alloc (.cells #[.int .i64 E,.int .i64 F] 23)).alloc (.cells #[.bool qb,.slice qe 0 0,.slice qe 0 0] 39)).alloc (.cells #[.bool qb,.slice qe 0 0,.slice qe 0 0] 39));have c:Cx w [(w.heap.size+1+1,39,[.bool qb,.slice qe 0 0,.slice qe 0 0]),(w.heap.size+1,39,[.bool qb,.slice qe 0 0,.slice qe 0 0]),(w.heap.size,23,[.int .i64 E,.int .i64 F])] j:=by rw[m];exact(((Cx.nil w).new _ [_,_] rfl).new _ [_,_,_] (by simp)).new _ [_,_,_] (by simp)
 have p:=vv hn;have q:Hid (w.heap.size+1+1+1=j.heap.size):=vv (by rw[m];simp);have a:=vv c;have L:=vv m;clear m c hn;have r:=vv hf;clear hf;obtain⟨s,t,u⟩:=Blk.f2 (a.o.get 2 rfl);go_enter func22,ntmps22;go_wp2_with fail;rw[<- L.o,q.o];obtain⟨R,i⟩:=yx (j.heap.size);obtain⟨M,d⟩:=yx (j.alloc (.cells #[.int .u64 (b:Int)] 24));have h:qf j.heap.size j M:=by rw[d];exact(qd _ _).alloc lr _
 have c:=a.o.new 24 [.int .u64 (b:Int)] i;rw[<- d] at c 
 try rw[<- d]
 try rw[<- i]
 replace a:=vv c;clear s t u d h c i;refine(p.o _ _ ⟨(a.o.get 0 rfl).cell 0,(a.o.get 0 rfl).lt⟩).mono ?_;rintro e n ⟨⟨is,rfl⟩,h⟩;replace a:=vv (a.o.step h);clear h;obtain⟨x,y,z⟩:=Blk.f2 (a.o.get 3 rfl);go_wp2_with fail;obtain⟨N,i⟩:=yx (n.heap.size);obtain⟨C,d⟩:=yx (n.alloc (.cells #[.int .u64 (b:Int)] 24));have h:qf n.heap.size n C:=by rw[d];exact(qd _ _).alloc lr _
 have c:=a.o.new 24 [.int .u64 (b:Int)] i;rw[<- d] at c 
 try rw[<- d]
 try rw[<- i]
 replace a:=vv c;clear x y z d h c i;refine(r.o _ _ ⟨(a.o.get 0 rfl).cell 0,(a.o.get 0 rfl).lt⟩).mono ?_;rintro e O ⟨rfl,h⟩;replace a:=vv (a.o.step h);clear h;have f:=vv (a.o.get 3 rfl);go_wp2_with (with_reducible refine q00 rfl 39 (.tmp 6) (.tmp 35) rfl (w.heap.size+1) [.bool qb,.slice qe 0 0,.slice qe 0 0] rfl rfl 39 _ f.o (by kernel_rfl) rfl rfl ?_);intro P k l;clear f;have f:=vv (a.o.get 3 rfl);replace a:=vv (a.o.put 3 rfl k l);clear f k l;have f:=vv (a.o.get 2 rfl);go_wp2_with (with_reducible refine q00 rfl 39 (.tmp 7) (.tmp 36) rfl (w.heap.size+1+1) [.bool qb,.slice qe 0 0,.slice qe 0 0] rfl rfl 39 _ f.o (by kernel_rfl) rfl rfl ?_);intro Q k l;clear f;have f:=vv (a.o.get 2 rfl);replace a:=vv (a.o.put 2 rfl k l);clear f k l;go_wp2;obtain⟨D,G,H⟩:=Blk.c3 (a.o.get 3 rfl);obtain⟨I,J,K⟩:=Blk.c3 (a.o.get 2 rfl);exact qj (v:=.tuple #[q2y,q2y,.bool qb,.bool qb,.int .i64 8]) (by simp [results,results22,go_sem,D,G,H,I,J,K]) rfl ⟨rfl,a.o.low⟩
def q3T(E F:Int)(b mode:Nat):Int:=if q09 E F b≠0 then q09 E F b else if 4<mode then 7 else 8
theorem Reach_no(E F:Int)(b mode:Nat)(w:qh)(hb:b<18446744073709551616)(h:q09 E F b≠0\/4<mode\/∃e f:Nat,E=e/\F=f/\q0c e f b=2^e-1):qg qc 22 #[fm E F,.int .u64 (b:Int),.int .u8 (mode:Int)] w (q3L (q3T E F b mode) w):=by
 unfold q3T;by_cases h0:q09 E F b=0
 ·rw[k0r (by omega)];have l:R3.formOk E F=ql:=by
   cases hf:R3.formOk E F
   ·unfold q09 at h0;rw[hf,k0r (by decide)] at h0;exact absurd h0 (by decide)
   ·rfl
  obtain⟨e,f,rfl,rfl,m,q,r,s⟩:=R3.formOk_nat l;have p:b<2^(1+e+f):=by
   unfold q09 at h0;rw[l,k0p rfl] at h0;have:¬(1+(e:Int)+f<bl b):=fun k=>by rw[k0p k] at h0;exact absurd h0 (by decide)
   exact k03 (q0O b) (k00 (by decide) (by omega))
  have i:∀w,qg qc 64 #[fm e f,.int .u64 (b:Int)] w fun a w'=>a=.returned (.tuple #[.int .u8 ((q1a e (q0c e f b) (q0r f b):Nat):Int),.int .i64 0])/\qf w.heap.size w w':=fun w=>q8G e f b w m q r s p
  have j:q1a e (q0c e f b) (q0r f b)<=5:=by
   unfold q1a
   repeat' split
   all_goals exact(by decide)
  have o:∀g w',One w' g b->qg qc 56 #[fm e f,.slice (qk ⟨g,0,qe⟩) 1 1] w' fun a w''=>(∃is,a=.returned (.tuple #[.int .i64 0,.bool is]))/\qf w'.heap.size w' w'':=fun g w' k=>by
   cases c5:(q1a e (q0c e f b) (q0r f b)==5)
   ·exact(q2d e f b g w' k h0 _ c5 j i hb).mono fun a w'' ⟨c,d⟩=>⟨⟨_,c⟩,d⟩
   ·exact(q2L e f b g w' k h0 _ c5 j i hb).mono fun a w'' ⟨c,d⟩=>⟨⟨_,c⟩,d⟩
  by_cases hm:4<mode
  ·rw[k0p hm];exact q3E e f b mode w o (k04 (by omega))
  ·rw[k0r hm];have hx:q0c e f b=2^e-1:=by
    rcases h with k|k|⟨a,v,c,d,t⟩
    ·exact absurd h0 k
    ·exact absurd k hm
    ·rw[k2y c,k2y d];exact t
   have x:0<2^e-1:=by have:=k00 (n:=2) (by decide) m;omega
   have u:3<q1a e (q0c e f b) (q0r f b):=by unfold q1a;rw[hx,k0r (by omega),k0p (show 2^e-1=R3.tw e-1 from rfl)];split<;>exact(by decide)
   exact q3D e f b mode w o (k02 (by omega)) fun g w' k=>q6O e f b g w' k h0 _ (k04 (by omega)) j i hb
 ·rw[k0p h0];exact q3F E F b mode _ w (fun g w' k=>(q7J E F b g w' k hb h0).mono fun a w'' ⟨c,d⟩=>⟨⟨_,c⟩,d⟩) (k05.2 h0)
end Nea
namespace Sho
open Go Go.RowKit R5 Scn Sh Rtp Fms Exa Nea
theorem Digits_no(E F:Int)(b mode:Nat)(er:Int)(w:qh)(h0:(er==0)=qb)(hr:∀w',qg qc 22 #[fm E F,.int .u64 (b:Int),.int .u8 (mode:Int)] w' (q3L er w')):qg qc 8 #[fm E F,.int .u64 (b:Int),.int .u8 (mode:Int)] w fun e w'=>e=.returned (.tuple #[(⟨qb,⟨#[]⟩,0⟩:Dcl).v,.int .i64 er])/\qf w.heap.size w w':=by
 obtain⟨y,l⟩:=yx ((w.alloc (.cells #[.int .i64 E,.int .i64 F] 23)).alloc (.cells #[.bool qb,.string ⟨#[]⟩,.int .i64 0] 27));have d:Cx w [(w.heap.size+1,27,[.bool qb,.string ⟨#[]⟩,.int .i64 0]),(w.heap.size,23,[.int .i64 E,.int .i64 F])] y:=by rw[l];exact((Cx.nil w).new _ [_,_] rfl).new _ [_,_,_] (by simp)
 have p:=vv hr;have a:=vv d;have z:=vv l;clear l d hr;obtain⟨q,r,s⟩:=Blk.f2 (a.o.get 1 rfl);go_enter func8,ntmps8;go_wp2_with fail;rw[<- z.o];go_wp2_with fail;refine(p.o _).mono ?_;rintro e j ⟨rfl,f⟩;replace a:=vv (a.o.step f);clear q r s f;have h:=vv (a.o.get 0 rfl);go_wp2_with (with_reducible refine q00 rfl 27 (.tmp 6) (.tmp 31) rfl (w.heap.size+1) [.bool qb,.string ⟨#[]⟩,.int .i64 0] rfl rfl 27 _ ((h.o.alloc _).alloc _) (by kernel_rfl) rfl rfl ?_);intro G m k;clear h;obtain⟨C,i⟩:=yx (j.heap.size);obtain⟨g,c⟩:=yx (j.alloc (.cells #[.bool qb,.slice qe 0 0,.slice qe 0 0] 39));have f:qf j.heap.size j g:=by rw[c];exact(qd _ _).alloc lr _
 have d:=a.o.new 39 [.bool qb,.slice qe 0 0,.slice qe 0 0] i;have n:(C+1:Nat)=g.heap.size:=by rw[c,qi,<- i]
 rw[<- c] at d 
 try rw[<- c]
 try rw[<- i]
 rw[<- c] at k;replace a:=vv d;clear c f d i;obtain⟨D,c⟩:=yx (g.alloc (.cells #[.bool qb,.slice qe 0 0,.slice qe 0 0] 39));have f:qf g.heap.size g D:=by rw[c];exact(qd _ _).alloc lr _
 have d:=a.o.new 39 [.bool qb,.slice qe 0 0,.slice qe 0 0] n;rw[<- c] at d k
 try rw[<- c]
 replace a:=vv d;clear c f d n;have h:=vv (a.o.get 2 rfl);replace a:=vv (a.o.put 2 rfl m k);clear h m k;go_wp2;obtain⟨t,u,x⟩:=Blk.c3 (a.o.get 2 rfl);exact qj (v:=.tuple #[(⟨qb,⟨#[]⟩,0⟩:Dcl).v,.int .i64 er]) (by simp [results,results8,go_sem,t,u,x]) rfl ⟨rfl,a.o.low⟩
end Sho
end Go.Proofs.YtabcgemembkkcaaGreatDoor
