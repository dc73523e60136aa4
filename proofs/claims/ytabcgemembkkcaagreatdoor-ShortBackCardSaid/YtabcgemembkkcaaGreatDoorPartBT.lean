/- Lemmas. -/
import Derived.Test.YtabcgemembkkcaaGreatDoorPartBS
set_option linter.all false
set_option maxRecDepth 100000
open Go.Proofs.Tryz
open Option renaming none->qa,some->qb
open Bool renaming false->qc
open Go renaming RowKit.Below.refl->qd,Calls->qg
open Decidable renaming decide->qe
open Go.RowKit renaming Below->qf
namespace Go.Proofs.YtabcgemembkkcaaGreatDoor
namespace Nea
open Go Go.RowKit R5 Scn Sh Fms Exa Sho Rtp
def qdL(s:Span)(w:World)(e:Ending)(w':World):Prop:=∃l h:RV,e=.returned (.tuple #[l.v,h.v,.bool s.li,.bool s.hn,.int .i64 0])/\SI w' l h s/\qf w.heap.size w w'
theorem qa6{mode:Nat}(neg:Bool)(h:mode<=4):Go.Proofs.YtabcgemembkkcaaGreatDoor.Sh.seen mode neg<=3:=by unfold Go.Proofs.YtabcgemembkkcaaGreatDoor.Sh.seen;rcases(by omega:mode=0\/mode=1\/mode=2\/mode=3\/mode=4) with rfl|rfl|rfl|rfl|rfl<;>cases neg<;>decide
theorem q9v(E F b:Nat):q2v E F b/2^F=q1m E F b:=by unfold q2v q1m;rw[k0V,k0i,k2m]
theorem q7N{E F b:Nat}(h1:2<=E)(h2:E<=11)(h3:1<=F)(h4:F<=52)(hb:b<2^(1+E+F)):q0a (E:Int) (F:Int) b=0:=by
 have:=q0B hb;have e:R3.formOk (E:Int) (F:Int)=true:=by unfold R3.formOk;simp only[k0U,k0T];omega
 unfold q0a;rw[e,k0q rfl,k0t (by omega)]
theorem qaI{E x f:Nat}(h:x≠2^E-1):q2O E x f<=3:=by
 unfold q2O;rw[k0t (c:=x=R3.tw E-1) h];split
 ·split<;>decide
 ·decide
theorem Qb.dq{K B:Nat}{p:Int}(h1:bl K+p.toNat+1<=B)(h2:(-p).toNat+1<=B):Qb B (Sh.dq K p):=by rw[qbW];refine Qb.mk (Nat.ne_of_gt (q0l _)) ?_ (k06 (Hx.bl_p2 _) h2);rw[k05];exact k06 (k06 (q27 _ _) (Nat.add_le_add_left (Hx.bl_p2 _) _)) (by omega)
theorem q63{E F m:Nat}(mode:Nat)(h1:2<=E)(h2:E<=11)(h4:F<=52)(hm:m<2^(E+F)):Qb 2200 (q1j E F m mode).inner/\Qb 2200 (q1j E F m mode).outer/\Qb 2200 (wv E F m):=by
 obtain⟨l,n⟩:=q4W h1 h2 h4 hm;have g:=q8P (F:=F) (m:=m) h4;have k:bl (mgN F m+1)<=55:=q2Q (mgN F m) 1 54 g (by decide);have a:Qb 2200 (wv E F m):=Qb.dq (by omega) (by omega);have i:Qb 2200 (after E F m):=by rw[q4y];exact Qb.dq (by omega) (by omega)
 have o:bl (2*mgN F m+1)<=60:=by have h1:=q27 2 (mgN F m);have h2:bl 2=2:=rfl;have:=q2Q (2*mgN F m) 1 57 (by omega) (by decide);omega
 have d:Qb 2200 ((wv E F m+after E F m)/2):=by rw[q2S,q4r];exact Qb.dq (by omega) (by omega)
 have b:Qb 2200 (before E F m)/\Qb 2200 ((before E F m+wv E F m)/2):=by
  rcases k01 m with h|h
  ·have e:before E F m=wv E F m:=by unfold before;rw[k0q h]
   have c:(wv E F m+wv E F m)/2=wv E F m:=by grind
   rw[e,c];exact⟨a,a⟩
  ·obtain⟨K,p,f,c,q,j⟩:=q2z E F m h;have r:bl K<=54:=by have:=q0B c;omega
   refine⟨by rw[f];exact Qb.dq (by omega) (by omega),?_⟩;have:before E F m+wv E F m=dq (2*K+1) p:=by rw[j,f,q8r,<- q2L,<- q2L];congr 1;omega
   rw[this,q4r];refine Qb.dq ?_ (by omega);have h1:=q27 2 K;have h2:bl 2=2:=rfl;have:=q2Q (2*K) 1 57 (by omega) (by decide);omega
 unfold q1j;split
 ·exact⟨a,i,a⟩
 ·split
  ·exact⟨b.1,a,a⟩
  ·split
   ·exact⟨b.2,d,a⟩
   ·exact⟨b.2,d,a⟩
theorem q8E{E F b mode:Nat}(h1:2<=E)(h2:E<=11)(h4:F<=52):Qb 2200 (q1g E F b mode).lo/\Qb 2200 (q1g E F b mode).hi/\Qb 2200 (q6M E F b):=by
 obtain⟨a,d,c⟩:=q63 (E:=E) (F:=F) (m:=q2v E F b) (Go.Proofs.YtabcgemembkkcaaGreatDoor.Sh.seen mode (q2R E F b)) h1 h2 h4 (k0l _ (k0c _));unfold q1g q6M;cases h:q2R E F b<;>rw[h] at a d
 ·exact⟨a,d,c⟩
 ·exact⟨d.neg,a.neg,c.neg⟩
set_option maxHeartbeats 8000000 in
theorem q9M(E F b mode:Nat)(w:World)(h1:2<=E)(h2:E<=11)(h3:1<=F)(h4:F<=52)(hb:b<2^(1+E+F))(hf:q1m E F b≠2^E-1)(hmo:mode<=4)(hst:Std w):qg Tryz.prog 22 #[fm E F,.int .u64 (b:Int),.int .u8 (mode:Int)] w (qdL (q1g E F b mode) w):=by
 obtain⟨w0,f1⟩:=yx (((w.alloc (.cells #[.int .i64 (E:Int),.int .i64 (F:Int)] 23)).alloc (.cells #[.bool qc,.slice qa 0 0,.slice qa 0 0] 39)).alloc (.cells #[.bool qc,.slice qa 0 0,.slice qa 0 0] 39));have z:Cx w [(w.heap.size+1+1,39,[.bool qc,.slice qa 0 0,.slice qa 0 0]),(w.heap.size+1,39,[.bool qc,.slice qa 0 0,.slice qa 0 0]),(w.heap.size,23,[.int .i64 (E:Int),.int .i64 (F:Int)])] w0:=by rw[f1];exact(((Cx.nil w).new _ [_,_] rfl).new _ [_,_,_] (by simp)).new _ [_,_,_] (by simp)
 have b9:b<18446744073709551616:=k02 hb (k04 (by decide) (show 1+E+F<=64 by omega));have f5:q0a (E:Int) (F:Int) b=0:=q7N h1 h2 h3 h4 hb;have m6:q2O E (q1m E F b) (q1x F b)<=3:=qaI hf;have f6:∀w,qg Tryz.prog 64 #[fm E F,.int .u64 (b:Int)] w fun e w'=>e=.returned (.tuple #[.int .u8 ((q2O E (q1m E F b) (q1x F b):Nat):Int),.int .i64 0])/\qf w.heap.size w w':=fun w=>qce E F b w h1 h2 h3 h4 hb
 have m7:=vv fun g w' (k:One w' g b)=>q3V E F b g w' k f5 _ (k08.2 (by omega)) (by omega) f6 b9
 have m8:=vv fun g w' (k:One w' g b)=>q7O E F b g w' k f5 _ (k00 (by omega)) (by omega) f6 b9
 have f2:=vv fun w'=>qcz E F w' h2 h4
 have hm:q2v E F b<2^(E+F):=k0l _ (k0c _);have f7:b<2^(E+F+1):=by rw[show E+F+1=1+E+F by omega];exact hb
 have ha:=qaP (b:=b) (k:=E+F) (by omega) f7;have hn:=q6B (b:=b) (k:=E+F) (by omega) f7;have c7:Hid (∀w',qg Tryz.prog 60 #[.int .u8 (mode:Int),.bool (q2R E F b)] w' fun e w''=>e=.returned (.int .u8 ((Go.Proofs.YtabcgemembkkcaaGreatDoor.Sh.seen mode (q2R E F b):Nat):Int))/\qf w'.heap.size w' w''):=vv fun w'=>(qcA mode (q2R E F b) w' hmo).mono fun e w'' ⟨k1,k2⟩=>⟨k1,k2 ▸ qd _ _⟩
 have c0:=vv fun w' (hst:Std w')=>qbv E F (q2v E F b) (Go.Proofs.YtabcgemembkkcaaGreatDoor.Sh.seen mode (q2R E F b)) w' h1 h2 h3 h4 hm (by rw[q9v];exact hf) (qa6 _ hmo) hst
 have l4:Hid (∀A n c N x q w',DQ w' A n c N x q->qg Tryz.prog 25 #[q17 qc A n c x] w' (RvP q w')):=vv fun A n c N x q w' k=>(q9N qc A n c N x q w' k (fun e=>absurd e (by decide))).mono fun e w'' h=>RvP.of h
 have hq:=q63 (E:=E) (F:=F) (m:=q2v E F b) (Go.Proofs.YtabcgemembkkcaaGreatDoor.Sh.seen mode (q2R E F b)) h1 h2 h4 hm;obtain⟨ng,c8⟩:=yx (q2R E F b);have d2:qe (2^(E+F)<=b)=ng:=c8.symm;rw[d2] at ha;obtain⟨m,f8⟩:∃y,y=q2v E F b:=⟨_,rfl⟩;have l5:b%2^(E+F)=m:=f8.symm;rw[l5] at hn;obtain⟨PW,l6⟩:=yx (2^(E+F));rw[<- l6] at ha hn f2;have l7:(bits .and .u64 (b:Int) (PW:Int) != 0)=ng:=by unfold bne;rw[ha,Bool.not_not]
 obtain⟨p,f3⟩:=yx (q1j E F (q2v E F b) (Go.Proofs.YtabcgemembkkcaaGreatDoor.Sh.seen mode (q2R E F b)));have f9:q1g E F b mode=if ng then⟨-p.outer,-p.inner,p.oi,p.ii⟩ else⟨p.inner,p.outer,p.ii,p.oi⟩:=by unfold q1g;rw[c8,f3]
 rw[<- f3,<- f8,<- c8] at c0;rw[<- f3] at hq;rw[<- c8] at c7;obtain⟨sm,l8⟩:=yx (Go.Proofs.YtabcgemembkkcaaGreatDoor.Sh.seen mode ng);rw[<- l8] at c0 c7;have l9:Hid (∀r q w',q=p.inner\/q=p.outer->RI w' r q->Std w'->qg Tryz.prog 61 #[r.v] w' (RvP (-q) w')):=vv fun r q w' h k hs=>qcj r q w' k (h.elim (fun e=>by rw[e];exact hq.1.mono (by decide)) (fun e=>by rw[e];exact hq.2.1.mono (by decide))) hs
 obtain⟨sp,m0⟩:=yx (q1g E F b mode);rw[<- m0] at f9 ⊢;have b8:=vv f9;have o8:qe ((4:Int)<(mode:Int))=qc:=k00 (by omega);have c3:=vv hst;have a:=vv z;have HW:=vv f1;have m9:Hid (w.heap.size+1+1+1=w0.heap.size):=vv (by rw[f1];simp);clear f1 z hst f5 m6 f6 hm f7 c8 d2 f8 l5 l6 f3 f9 l8 hb hf hmo b9 hq m0;have n0:w0.cell? ⟨w.heap.size,0,qa⟩=qb (.int .i64 (E:Int)):=(a.o.get 2 rfl).cell 0;have n3:w0.cell? ⟨w.heap.size,1,qa⟩=qb (.int .i64 (F:Int)):=(a.o.get 2 rfl).cell 1;have n4:=(a.o.get 2 rfl).lt;go_enter func22,ntmps22;go_wp2_with fail;rw[<- HW.o,m9.o];obtain⟨g6,a3⟩:=yx (w0.heap.size);obtain⟨w5,W⟩:=yx (w0.alloc (.cells #[.int .u64 (b:Int)] 24));have f:qf w0.heap.size w0 w5:=by rw[W];exact(qd _ _).alloc lr _
 have z:=a.o.new 24 [.int .u64 (b:Int)] a3;rw[<- W] at z 
 try rw[<- W]
 try rw[<- a3]
 replace a:=vv z;clear n0 n3 n4 W f z a3;refine(m7.o _ _ ⟨(a.o.get 0 rfl).cell 0,(a.o.get 0 rfl).lt⟩).mono ?_;rintro e w4 ⟨rfl,f⟩;replace a:=vv (a.o.step f);clear f;have n5:w4.cell? ⟨w.heap.size,0,qa⟩=qb (.int .i64 (E:Int)):=(a.o.get 3 rfl).cell 0;have n6:w4.cell? ⟨w.heap.size,1,qa⟩=qb (.int .i64 (F:Int)):=(a.o.get 3 rfl).cell 1;have n7:=(a.o.get 3 rfl).lt;go_wp2_with fail;obtain⟨n8,a3⟩:=yx (w4.heap.size);obtain⟨n9,W⟩:=yx (w4.alloc (.cells #[.int .u64 (b:Int)] 24));have f:qf w4.heap.size w4 n9:=by rw[W];exact(qd _ _).alloc lr _
 have z:=a.o.new 24 [.int .u64 (b:Int)] a3;rw[<- W] at z 
 try rw[<- W]
 try rw[<- a3]
 replace a:=vv z;clear n5 n6 n7 W f z a3;refine(m8.o _ _ ⟨(a.o.get 0 rfl).cell 0,(a.o.get 0 rfl).lt⟩).mono ?_;rintro e m1 ⟨rfl,f⟩;replace a:=vv (a.o.step f);clear f;have g1:m1.cell? ⟨w.heap.size,0,qa⟩=qb (.int .i64 (E:Int)):=(a.o.get 4 rfl).cell 0;have g2:m1.cell? ⟨w.heap.size,1,qa⟩=qb (.int .i64 (F:Int)):=(a.o.get 4 rfl).cell 1;have g3:=(a.o.get 4 rfl).lt;go_wp2_with fail;refine(f2.o _).mono ?_;rintro e c9 ⟨rfl,f⟩;replace a:=vv (a.o.step f);clear g1 g2 g3 f;go_upto_region 9 with fail
 try rw[l7]
 clear ha l7;go_cut [10,12] (fun s10 s12 wx=>∃(i:Nat) (O:Option Addr) (P Q N1:Nat) (R:Int) (S:Option Addr) (T U N2:Nat) (V:Int),s10=.int .i64 0/\s12=.pointer (qb ⟨i,0,qa⟩)/\Cx w [(i,106,[.bool qc,.slice O P Q,.int .i64 R,.bool qc,.slice S T U,.int .i64 V,.bool p.ii,.bool p.oi]),(n8,24,[.int .u64 (b:Int)]),(g6,24,[.int .u64 (b:Int)]),(w.heap.size+1+1,39,[.bool qc,.slice qa 0 0,.slice qa 0 0]),(w.heap.size+1,39,[.bool qc,.slice qa 0 0,.slice qa 0 0]),(w.heap.size,23,[.int .i64 (E:Int),.int .i64 (F:Int)])] wx/\DQ wx O P Q N1 R p.inner/\DQ wx S T U N2 V p.outer)
 case first =>
  go_wp2_with fail;have b0:c9.cell? ⟨w.heap.size,0,qa⟩=qb (.int .i64 (E:Int)):=(a.o.get 4 rfl).cell 0;have b1:c9.cell? ⟨w.heap.size,1,qa⟩=qb (.int .i64 (F:Int)):=(a.o.get 4 rfl).cell 1;have g4:=(a.o.get 4 rfl).lt;refine q02 (fun w'=>w'.cell? ⟨w.heap.size,0,qa⟩=qb (.int .i64 (E:Int))/\w'.cell? ⟨w.heap.size,1,qa⟩=qb (.int .i64 (F:Int))) 14
   (.still 0 (.still 1 (.still 2 (.still 5 (.still 6 (.two 3 (.still 4 (.two 7 (.two 8 (.still 9 (.still 10 (.still 11 (.one 12 (.one 13 .done))))) 12 (.one 8 (.still 9 (.still 10 (.still 11 (.one 13 .done)))))) 12 (.one 7 (.one 8 (.still 9 (.still 10 (.still 11 (.one 13 .done)))))))) 12 (.one 3 (.still 4 (.one 7 (.one 8 (.still 9 (.still 10 (.still 11 (.one 13 .done)))))))))))))) (by kernel_rfl) (by kernel_rfl) (fun _ _ d _ _ h=>by cases d<;>exact h) ⟨b0,b1⟩ (fun hS0=>?_)
  iterate 5
   refine q00 (v:=?_) rfl (by rfl) ?_ ?_;rotate_left
   ·intro w a7;go_simp;with_reducible rfl
   simp only[Act.put,sa,sb,sc]
  clear g4 b0 b1;obtain⟨c4,a4⟩:=yx (c9.drew);have f:qf c9.heap.size c9 c4:=by rw[a4];exact q05 (qd _ _)
  replace a:=vv (a.o.step f);rw[<- a4] at hS0 ⊢;clear a4 f;refine q0A rfl (by rfl) rfl (by rfl) (fun K hK=>?_) (fun K hK=>?_)
  focus
   go_simp;refine(f2.o c4).mono ?_;rintro e d0 ⟨rfl,f⟩;replace a:=vv (a.o.step f);clear f;go_wp2_with fail;refine hK.out _ _ ⟨(a.o.get 4 rfl).cell 0,(a.o.get 4 rfl).cell 1⟩ (fun I=>?_);clear hK
   iterate 1
    refine q00 (v:=?_) rfl (by rfl) ?_ ?_;rotate_left
    ·intro w a7;go_simp;with_reducible rfl
    simp only[Act.put,sa,sb,sc]
   refine q0A rfl (by rfl) rfl (by rfl) (fun K hK=>?_) (fun K hK=>?_)
   focus
    go_simp;refine(c7.o d0).mono ?_;rintro e d1 ⟨rfl,f⟩;replace a:=vv (a.o.step f);clear f;go_wp2_with fail;refine hK.out _ _ ⟨(a.o.get 4 rfl).cell 0,(a.o.get 4 rfl).cell 1⟩ (fun I=>?_);clear hK;refine q0A rfl (by rfl) rfl (by rfl) (fun K hK=>?_) (fun K hK=>?_)
    focus
     go_simp;refine(c0.o d1 (a.o.std c3.o)).mono ?_;rintro e f4 ⟨O,P,Q,N1,R,S,T,U,N2,V,rfl,Z,a0,f⟩;replace a:=vv (a.o.step f);have H1:=vv Z;have L:=vv a0;clear f Z a0;go_wp2_with fail;refine hK.out _ _ ⟨(a.o.get 4 rfl).cell 0,(a.o.get 4 rfl).cell 1⟩ (fun I=>?_);clear hK
     iterate 3
      refine q00 (v:=?_) rfl (by rfl) ?_ ?_;rotate_left
      ·intro w a7;go_simp;with_reducible rfl
      simp only[Act.put,sa,sb,sc]
     refine q03 rfl (by rfl) (fun K hK=>?_);go_simp;obtain⟨i,M⟩:=yx (f4.heap.size);obtain⟨m2,H⟩:=yx (f4.alloc (.cells #[.bool qc,.slice qa 0 0,.int .i64 0,.bool qc,.slice qa 0 0,.int .i64 0,.bool qc,.bool qc] 106));have f:qf f4.heap.size f4 m2:=by rw[H];exact(qd _ _).alloc lr _
     have z:=a.o.new 106 [.bool qc,.slice qa 0 0,.int .i64 0,.bool qc,.slice qa 0 0,.int .i64 0,.bool qc,.bool qc] M;rw[<- H] at z
     try rw[<- H]
     try rw[<- M]
     replace a:=vv z;replace H1:=vv (H1.o.below f);replace L:=vv (L.o.below f);clear f z H M;refine hK.out _ _ ⟨(a.o.get 5 rfl).cell 0,(a.o.get 5 rfl).cell 1⟩ (fun I=>?_);clear hK;obtain⟨wz,hz⟩:=yx (m2);subst hz
    rotate_left 1
    focus
     go_simp;obtain⟨i,M⟩:=yx (d1.heap.size);obtain⟨m3,H⟩:=yx (d1.alloc (.cells #[.bool qc,.slice qa 0 0,.int .i64 0,.bool qc,.slice qa 0 0,.int .i64 0,.bool qc,.bool qc] 106));have f:qf d1.heap.size d1 m3:=by rw[H];exact(qd _ _).alloc lr _
     have z:=a.o.new 106 [.bool qc,.slice qa 0 0,.int .i64 0,.bool qc,.slice qa 0 0,.int .i64 0,.bool qc,.bool qc] M;rw[<- H] at z
     try rw[<- H]
     try rw[<- M]
     replace a:=vv z;clear f z H M;refine hK.out _ _ ⟨(a.o.get 5 rfl).cell 0,(a.o.get 5 rfl).cell 1⟩ (fun I=>?_);clear hK;refine q03 rfl (by rfl) (fun K hK=>?_);go_simp;refine(c0.o m3 (a.o.std c3.o)).mono ?_;rintro e a1 ⟨O,P,Q,N1,R,S,T,U,N2,V,rfl,Z,a0,f⟩;replace a:=vv (a.o.step f);have H1:=vv Z;have L:=vv a0;clear f Z a0;go_wp2_with fail;refine hK.out _ _ ⟨(a.o.get 5 rfl).cell 0,(a.o.get 5 rfl).cell 1⟩ (fun I=>?_);clear hK
     iterate 3
      refine q00 (v:=?_) rfl (by rfl) ?_ ?_;rotate_left
      ·intro w a7;go_simp;with_reducible rfl
      simp only[Act.put,sa,sb,sc]
     obtain⟨wz,hz⟩:=yx (a1);subst hz
   rotate_left 2
   focus
    go_simp;obtain⟨i,M⟩:=yx (d0.heap.size);obtain⟨m4,H⟩:=yx (d0.alloc (.cells #[.bool qc,.slice qa 0 0,.int .i64 0,.bool qc,.slice qa 0 0,.int .i64 0,.bool qc,.bool qc] 106));have f:qf d0.heap.size d0 m4:=by rw[H];exact(qd _ _).alloc lr _
    have z:=a.o.new 106 [.bool qc,.slice qa 0 0,.int .i64 0,.bool qc,.slice qa 0 0,.int .i64 0,.bool qc,.bool qc] M;rw[<- H] at z
    try rw[<- H]
    try rw[<- M]
    replace a:=vv z;clear f z H M;refine hK.out _ _ ⟨(a.o.get 5 rfl).cell 0,(a.o.get 5 rfl).cell 1⟩ (fun I=>?_);clear hK;refine q03 rfl (by rfl) (fun K hK=>?_);go_simp;refine(c7.o m4).mono ?_;rintro e o0 ⟨rfl,f⟩;replace a:=vv (a.o.step f);clear f;go_wp2_with fail;refine hK.out _ _ ⟨(a.o.get 5 rfl).cell 0,(a.o.get 5 rfl).cell 1⟩ (fun I=>?_);clear hK;refine q03 rfl (by rfl) (fun K hK=>?_);go_simp;refine(c0.o o0 (a.o.std c3.o)).mono ?_;rintro e o1 ⟨O,P,Q,N1,R,S,T,U,N2,V,rfl,Z,a0,f⟩;replace a:=vv (a.o.step f);have H1:=vv Z;have L:=vv a0;clear f Z a0;go_wp2_with fail;refine hK.out _ _ ⟨(a.o.get 5 rfl).cell 0,(a.o.get 5 rfl).cell 1⟩ (fun I=>?_);clear hK
    iterate 3
     refine q00 (v:=?_) rfl (by rfl) ?_ ?_;rotate_left
     ·intro w a7;go_simp;with_reducible rfl
     simp only[Act.put,sa,sb,sc]
    obtain⟨wz,hz⟩:=yx (o1);subst hz
  rotate_left 3
  focus
   go_simp;obtain⟨i,M⟩:=yx (c4.heap.size);obtain⟨m5,H⟩:=yx (c4.alloc (.cells #[.bool qc,.slice qa 0 0,.int .i64 0,.bool qc,.slice qa 0 0,.int .i64 0,.bool qc,.bool qc] 106));have f:qf c4.heap.size c4 m5:=by rw[H];exact(qd _ _).alloc lr _
   have z:=a.o.new 106 [.bool qc,.slice qa 0 0,.int .i64 0,.bool qc,.slice qa 0 0,.int .i64 0,.bool qc,.bool qc] M;rw[<- H] at z
   try rw[<- H]
   try rw[<- M]
   replace a:=vv z;clear f z H M;refine hK.out _ _ ⟨(a.o.get 5 rfl).cell 0,(a.o.get 5 rfl).cell 1⟩ (fun I=>?_);clear hK;refine q03 rfl (by rfl) (fun K hK=>?_);go_simp;refine(f2.o m5).mono ?_;rintro e o2 ⟨rfl,f⟩;replace a:=vv (a.o.step f);clear f;go_wp2_with fail;refine hK.out _ _ ⟨(a.o.get 5 rfl).cell 0,(a.o.get 5 rfl).cell 1⟩ (fun I=>?_);clear hK
   iterate 1
    refine q00 (v:=?_) rfl (by rfl) ?_ ?_;rotate_left
    ·intro w a7;go_simp;with_reducible rfl
    simp only[Act.put,sa,sb,sc]
   refine q03 rfl (by rfl) (fun K hK=>?_);go_simp;refine(c7.o o2).mono ?_;rintro e o3 ⟨rfl,f⟩;replace a:=vv (a.o.step f);clear f;go_wp2_with fail;refine hK.out _ _ ⟨(a.o.get 5 rfl).cell 0,(a.o.get 5 rfl).cell 1⟩ (fun I=>?_);clear hK;refine q03 rfl (by rfl) (fun K hK=>?_);go_simp;refine(c0.o o3 (a.o.std c3.o)).mono ?_;rintro e o4 ⟨O,P,Q,N1,R,S,T,U,N2,V,rfl,Z,a0,f⟩;replace a:=vv (a.o.step f);have H1:=vv Z;have L:=vv a0;clear f Z a0;go_wp2_with fail;refine hK.out _ _ ⟨(a.o.get 5 rfl).cell 0,(a.o.get 5 rfl).cell 1⟩ (fun I=>?_);clear hK
   iterate 3
    refine q00 (v:=?_) rfl (by rfl) ?_ ?_;rotate_left
    ·intro w a7;go_simp;with_reducible rfl
    simp only[Act.put,sa,sb,sc]
   obtain⟨wz,hz⟩:=yx (o4);subst hz
  all_goals
   refine q03 rfl (by rfl) (fun K hK=>?_);have j:=vv (a.o.get 0 rfl)
   with_reducible refine q0H 106 (.tmp 12) (.tmp 53) rfl i [.bool qc,.slice O P Q,.int .i64 R,.bool qc,.slice S T U,.int .i64 V,.bool p.ii,.bool p.oi] rfl rfl 106 _ j.o (by kernel_rfl) rfl rfl ?_
   intro o9 C s;replace a:=vv (a.o.put 0 rfl C s);replace H1:=vv (H1.o.apart_ j.o rfl s);replace L:=vv (L.o.apart_ j.o rfl s);clear j C s;refine hK.out _ _ ⟨(a.o.get 5 rfl).cell 0,(a.o.get 5 rfl).cell 1⟩ (fun I=>?_);clear hK;refine q07 ?_;simp only[k0O,k0I];go_wp2_with fail;go_meet;exact⟨i,O,P,Q,N1,R,S,T,U,N2,V,rfl,rfl,a.o,H1.o,L.o⟩
 case rest =>
  obtain⟨i,O,P,Q,N1,R,S,T,U,N2,V,rfl,rfl,z,Z,a0⟩:=hcut;replace a:=vv z;have H1:=vv Z;have L:=vv a0;clear z Z a0;have b0:wc.cell? ⟨i,0,qa⟩=qb (.bool qc):=(a.o.get 0 rfl).cell 0;have b1:wc.cell? ⟨i,1,qa⟩=qb (.slice O P Q):=(a.o.get 0 rfl).cell 1;have g5:wc.cell? ⟨i,2,qa⟩=qb (.int .i64 R):=(a.o.get 0 rfl).cell 2;have g7:wc.cell? ⟨i,3,qa⟩=qb (.bool qc):=(a.o.get 0 rfl).cell 3;have g8:wc.cell? ⟨i,4,qa⟩=qb (.slice S T U):=(a.o.get 0 rfl).cell 4;have g9:wc.cell? ⟨i,5,qa⟩=qb (.int .i64 V):=(a.o.get 0 rfl).cell 5;have i0:wc.cell? ⟨i,6,qa⟩=qb (.bool p.ii):=(a.o.get 0 rfl).cell 6;have i1:wc.cell? ⟨i,7,qa⟩=qb (.bool p.oi):=(a.o.get 0 rfl).cell 7;have i2:=(a.o.get 0 rfl).lt;go_wp2_with fail;refine(l4.o _ _ _ _ _ _ _ H1.o).mono ?_;rintro e a1 ⟨l,rfl,hI,f⟩;replace a:=vv (a.o.step f);replace H1:=vv (H1.o.below f);replace L:=vv (L.o.below f);have G:=vv hI;clear b0 b1 g5 g7 g8 g9 i0 i1 i2 f hI;have i3:a1.cell? ⟨i,0,qa⟩=qb (.bool qc):=(a.o.get 0 rfl).cell 0;have i4:a1.cell? ⟨i,1,qa⟩=qb (.slice O P Q):=(a.o.get 0 rfl).cell 1;have i5:a1.cell? ⟨i,2,qa⟩=qb (.int .i64 R):=(a.o.get 0 rfl).cell 2;have i6:a1.cell? ⟨i,3,qa⟩=qb (.bool qc):=(a.o.get 0 rfl).cell 3;have i7:a1.cell? ⟨i,4,qa⟩=qb (.slice S T U):=(a.o.get 0 rfl).cell 4;have i8:a1.cell? ⟨i,5,qa⟩=qb (.int .i64 V):=(a.o.get 0 rfl).cell 5;have i9:a1.cell? ⟨i,6,qa⟩=qb (.bool p.ii):=(a.o.get 0 rfl).cell 6;have j0:a1.cell? ⟨i,7,qa⟩=qb (.bool p.oi):=(a.o.get 0 rfl).cell 7;have j1:=(a.o.get 0 rfl).lt;go_wp2_with fail;obtain⟨a8,a3⟩:=yx (a1.heap.size);obtain⟨o5,W⟩:=yx (a1.alloc (.cells #[.bool l.b,.slice l.X l.n l.c,.slice l.Y l.m l.d] 39));have f:qf a1.heap.size a1 o5:=by rw[W];exact(qd _ _).alloc lr _
  have z:=a.o.new 39 [.bool l.b,.slice l.X l.n l.c,.slice l.Y l.m l.d] a3;rw[<- W] at z 
  try rw[<- W]
  try rw[<- a3]
  replace a:=vv z;replace L:=vv (L.o.below f);replace G:=vv (G.o.below f);clear i3 i4 i5 i6 i7 i8 i9 j0 j1 W f z a3;refine(l4.o _ _ _ _ _ _ _ L.o).mono ?_;rintro e p0 ⟨h,rfl,hI,f⟩;replace a:=vv (a.o.step f);replace L:=vv (L.o.below f);replace G:=vv (G.o.below f);have HH:=vv hI;clear f hI;have j:=vv (a.o.get 4 rfl);go_wp2_with (with_reducible refine q01 rfl 39 (.tmp 7) (.tmp 72) rfl (w.heap.size+1+1) [.bool h.b,.slice h.X h.n h.c,.slice h.Y h.m h.d] rfl rfl 39 _ j.o (by kernel_rfl) rfl rfl ?_);intro D C s;clear j;have j:=vv (a.o.get 4 rfl);replace a:=vv (a.o.put 4 rfl C s);replace G:=vv (G.o.apart_ j.o rfl s);replace HH:=vv (HH.o.apart_ j.o rfl s);clear j C s;go_upto_if 80 with fail;cases ng
  case false =>
   replace b8:Hid (sp=⟨p.inner,p.outer,p.ii,p.oi⟩):=b8;go_wp2_with fail;have b2:D.cell? ⟨a8,0,qa⟩=qb (.bool l.b):=(a.o.get 0 rfl).cell 0;have b3:D.cell? ⟨a8,1,qa⟩=qb (.slice l.X l.n l.c):=(a.o.get 0 rfl).cell 1;have b4:D.cell? ⟨a8,2,qa⟩=qb (.slice l.Y l.m l.d):=(a.o.get 0 rfl).cell 2;have d3:D.cell? ⟨(w.heap.size+1+1),0,qa⟩=qb (.bool h.b):=(a.o.get 4 rfl).cell 0;have d4:D.cell? ⟨(w.heap.size+1+1),1,qa⟩=qb (.slice h.X h.n h.c):=(a.o.get 4 rfl).cell 1;have d5:D.cell? ⟨(w.heap.size+1+1),2,qa⟩=qb (.slice h.Y h.m h.d):=(a.o.get 4 rfl).cell 2;have b5:D.cell? ⟨i,0,qa⟩=qb (.bool qc):=(a.o.get 1 rfl).cell 0;have b6:D.cell? ⟨i,1,qa⟩=qb (.slice O P Q):=(a.o.get 1 rfl).cell 1;have b7:D.cell? ⟨i,2,qa⟩=qb (.int .i64 R):=(a.o.get 1 rfl).cell 2;have d6:D.cell? ⟨i,3,qa⟩=qb (.bool qc):=(a.o.get 1 rfl).cell 3;have d7:D.cell? ⟨i,4,qa⟩=qb (.slice S T U):=(a.o.get 1 rfl).cell 4;have d8:D.cell? ⟨i,5,qa⟩=qb (.int .i64 V):=(a.o.get 1 rfl).cell 5;have a5:D.cell? ⟨i,6,qa⟩=qb (.bool p.ii):=(a.o.get 1 rfl).cell 6;have a6:D.cell? ⟨i,7,qa⟩=qb (.bool p.oi):=(a.o.get 1 rfl).cell 7;have j2:=(a.o.get 0 rfl).lt;have j3:=(a.o.get 4 rfl).lt;have j4:=(a.o.get 1 rfl).lt;refine q02 (fun w'=>w'.cell? ⟨a8,0,qa⟩=qb (.bool l.b)/\w'.cell? ⟨a8,1,qa⟩=qb (.slice l.X l.n l.c)/\w'.cell? ⟨a8,2,qa⟩=qb (.slice l.Y l.m l.d)/\w'.cell? ⟨(w.heap.size+1+1),0,qa⟩=qb (.bool h.b)/\w'.cell? ⟨(w.heap.size+1+1),1,qa⟩=qb (.slice h.X h.n h.c)/\w'.cell? ⟨(w.heap.size+1+1),2,qa⟩=qb (.slice h.Y h.m h.d)/\w'.cell? ⟨i,0,qa⟩=qb (.bool qc)/\w'.cell? ⟨i,1,qa⟩=qb (.slice O P Q)/\w'.cell? ⟨i,2,qa⟩=qb (.int .i64 R)/\w'.cell? ⟨i,3,qa⟩=qb (.bool qc)/\w'.cell? ⟨i,4,qa⟩=qb (.slice S T U)/\w'.cell? ⟨i,5,qa⟩=qb (.int .i64 V)/\w'.cell? ⟨i,6,qa⟩=qb (.bool p.ii)/\w'.cell? ⟨i,7,qa⟩=qb (.bool p.oi)) 11
    (.still 0 (.still 1 (.still 2 (.still 3 (.still 4 (.still 5 (.one 6 (.one 7 (.still 8 (.still 9 (.still 10 .done))))))))))) (by kernel_rfl) (by kernel_rfl) (fun _ _ d _ _ h=>by cases d<;>exact h) ⟨b2,b3,b4,d3,d4,d5,b5,b6,b7,d6,d7,d8,a5,a6⟩ (fun hS0=>?_)
   iterate 6
    refine q00 (v:=?_) rfl (by rfl) ?_ ?_;rotate_left
    ·intro w a7;go_simp;with_reducible rfl
    simp only[Act.put,sa,sb,sc]
   clear j2 j3 j4 b2 b3 b4 d3 d4 d5 b5 b6 b7 d6 d7 d8 a5 a6;obtain⟨o6,a4⟩:=yx (D.drew);have f:qf D.heap.size D o6:=by rw[a4];exact q05 (qd _ _)
   replace a:=vv (a.o.step f);replace G:=vv (G.o.below f);replace HH:=vv (HH.o.below f);rw[<- a4] at hS0 ⊢;clear a4 f;refine q03 rfl (by rfl) (fun K hK=>?_);have j:=vv (a.o.get 5 rfl)
   with_reducible refine q0H 39 (.tmp 6) (.tmp 81) rfl (w.heap.size+1) [.bool l.b,.slice l.X l.n l.c,.slice l.Y l.m l.d] rfl rfl 39 _ j.o (by kernel_rfl) rfl rfl ?_
   intro p1 C s;replace a:=vv (a.o.put 5 rfl C s);replace G:=vv (G.o.apart_ j.o rfl s);replace HH:=vv (HH.o.apart_ j.o rfl s);clear j C s;refine hK.out _ _ ⟨(a.o.get 0 rfl).cell 0,(a.o.get 0 rfl).cell 1,(a.o.get 0 rfl).cell 2,(a.o.get 4 rfl).cell 0,(a.o.get 4 rfl).cell 1,(a.o.get 4 rfl).cell 2,(a.o.get 1 rfl).cell 0,(a.o.get 1 rfl).cell 1,(a.o.get 1 rfl).cell 2,(a.o.get 1 rfl).cell 3,(a.o.get 1 rfl).cell 4,(a.o.get 1 rfl).cell 5,(a.o.get 1 rfl).cell 6,(a.o.get 1 rfl).cell 7⟩ (fun I=>?_);clear hK;refine q03 rfl (by rfl) (fun K hK=>?_);have j:=vv (a.o.get 4 rfl)
   with_reducible refine q0H 39 (.tmp 7) (.tmp 82) rfl (w.heap.size+1+1) [.bool h.b,.slice h.X h.n h.c,.slice h.Y h.m h.d] rfl rfl 39 _ j.o (by kernel_rfl) rfl rfl ?_
   intro c5 C s;replace a:=vv (a.o.put 4 rfl C s);replace G:=vv (G.o.apart_ j.o rfl s);replace HH:=vv (HH.o.apart_ j.o rfl s);clear j C s;refine hK.out _ _ ⟨(a.o.get 0 rfl).cell 0,(a.o.get 0 rfl).cell 1,(a.o.get 0 rfl).cell 2,(a.o.get 4 rfl).cell 0,(a.o.get 4 rfl).cell 1,(a.o.get 4 rfl).cell 2,(a.o.get 1 rfl).cell 0,(a.o.get 1 rfl).cell 1,(a.o.get 1 rfl).cell 2,(a.o.get 1 rfl).cell 3,(a.o.get 1 rfl).cell 4,(a.o.get 1 rfl).cell 5,(a.o.get 1 rfl).cell 6,(a.o.get 1 rfl).cell 7⟩ (fun I=>?_);clear hK
   iterate 3
    refine q00 (v:=?_) rfl (by rfl) ?_ ?_;rotate_left
    ·intro w a7;go_simp;with_reducible rfl
    simp only[Act.put,sa,sb,sc]
   refine q0Q rfl ?_;go_wp2;have j5:c5.cell? ⟨(w.heap.size+1),0,qa⟩=qb (.bool l.b):=(a.o.get 5 rfl).cell 0;have j6:c5.cell? ⟨(w.heap.size+1),1,qa⟩=qb (.slice l.X l.n l.c):=(a.o.get 5 rfl).cell 1;have j7:c5.cell? ⟨(w.heap.size+1),2,qa⟩=qb (.slice l.Y l.m l.d):=(a.o.get 5 rfl).cell 2;have j8:c5.cell? ⟨(w.heap.size+1+1),0,qa⟩=qb (.bool h.b):=(a.o.get 4 rfl).cell 0;have j9:c5.cell? ⟨(w.heap.size+1+1),1,qa⟩=qb (.slice h.X h.n h.c):=(a.o.get 4 rfl).cell 1;have k0:c5.cell? ⟨(w.heap.size+1+1),2,qa⟩=qb (.slice h.Y h.m h.d):=(a.o.get 4 rfl).cell 2;exact bodyPost_ret (v:=.tuple #[l.v,h.v,.bool p.ii,.bool p.oi,.int .i64 0]) (by simp [results,results22,go_sem,j5,j6,j7,j8,j9,k0]) rfl ⟨l,h,by rw[b8.o],by rw[b8.o];exact⟨G.o,HH.o⟩,a.o.low⟩
  case true =>
   replace b8:Hid (sp=⟨-p.outer,-p.inner,p.oi,p.ii⟩):=b8;have b2:D.cell? ⟨(w.heap.size+1+1),0,qa⟩=qb (.bool h.b):=(a.o.get 4 rfl).cell 0;have b3:D.cell? ⟨(w.heap.size+1+1),1,qa⟩=qb (.slice h.X h.n h.c):=(a.o.get 4 rfl).cell 1;have b4:D.cell? ⟨(w.heap.size+1+1),2,qa⟩=qb (.slice h.Y h.m h.d):=(a.o.get 4 rfl).cell 2;have k3:=(a.o.get 4 rfl).lt;go_wp2_with fail;refine(l9.o _ _ _ (.inr rfl) HH.o (a.o.std c3.o)).mono ?_;rintro e p2 ⟨t,rfl,hI,f⟩;replace a:=vv (a.o.step f);replace G:=vv (G.o.below f);replace HH:=vv (HH.o.below f);have a2:=vv hI;clear b2 b3 b4 k3 f hI;have j:=vv (a.o.get 5 rfl);go_wp2_with (with_reducible refine q01 rfl 39 (.tmp 6) (.tmp 90) rfl (w.heap.size+1) [.bool t.b,.slice t.X t.n t.c,.slice t.Y t.m t.d] rfl rfl 39 _ j.o (by kernel_rfl) rfl rfl ?_);intro g0 C s;clear j;have j:=vv (a.o.get 5 rfl);replace a:=vv (a.o.put 5 rfl C s);replace G:=vv (G.o.apart_ j.o rfl s);replace a2:=vv (a2.o.apart_ j.o rfl s);clear j C s;have b5:g0.cell? ⟨a8,0,qa⟩=qb (.bool l.b):=(a.o.get 0 rfl).cell 0;have b6:g0.cell? ⟨a8,1,qa⟩=qb (.slice l.X l.n l.c):=(a.o.get 0 rfl).cell 1;have b7:g0.cell? ⟨a8,2,qa⟩=qb (.slice l.Y l.m l.d):=(a.o.get 0 rfl).cell 2;have k4:=(a.o.get 0 rfl).lt;go_wp2_with fail;refine(l9.o _ _ _ (.inl rfl) G.o (a.o.std c3.o)).mono ?_;rintro e p3 ⟨u,rfl,hI,f⟩;replace a:=vv (a.o.step f);replace G:=vv (G.o.below f);replace a2:=vv (a2.o.below f);have a9:=vv hI;clear b5 b6 b7 k4 f hI;have j:=vv (a.o.get 4 rfl);go_wp2_with (with_reducible refine q01 rfl 39 (.tmp 7) (.tmp 95) rfl (w.heap.size+1+1) [.bool u.b,.slice u.X u.n u.c,.slice u.Y u.m u.d] rfl rfl 39 _ j.o (by kernel_rfl) rfl rfl ?_);intro J C s;clear j;have j:=vv (a.o.get 4 rfl);replace a:=vv (a.o.put 4 rfl C s);replace a2:=vv (a2.o.apart_ j.o rfl s);replace a9:=vv (a9.o.apart_ j.o rfl s);clear j C s;go_wp2_with fail;have a5:J.cell? ⟨(w.heap.size+1),0,qa⟩=qb (.bool t.b):=(a.o.get 5 rfl).cell 0;have a6:J.cell? ⟨(w.heap.size+1),1,qa⟩=qb (.slice t.X t.n t.c):=(a.o.get 5 rfl).cell 1;have d9:J.cell? ⟨(w.heap.size+1),2,qa⟩=qb (.slice t.Y t.m t.d):=(a.o.get 5 rfl).cell 2;have e0:J.cell? ⟨(w.heap.size+1+1),0,qa⟩=qb (.bool u.b):=(a.o.get 4 rfl).cell 0;have e1:J.cell? ⟨(w.heap.size+1+1),1,qa⟩=qb (.slice u.X u.n u.c):=(a.o.get 4 rfl).cell 1;have e2:J.cell? ⟨(w.heap.size+1+1),2,qa⟩=qb (.slice u.Y u.m u.d):=(a.o.get 4 rfl).cell 2;have e3:J.cell? ⟨i,0,qa⟩=qb (.bool qc):=(a.o.get 1 rfl).cell 0;have e4:J.cell? ⟨i,1,qa⟩=qb (.slice O P Q):=(a.o.get 1 rfl).cell 1;have e5:J.cell? ⟨i,2,qa⟩=qb (.int .i64 R):=(a.o.get 1 rfl).cell 2;have e6:J.cell? ⟨i,3,qa⟩=qb (.bool qc):=(a.o.get 1 rfl).cell 3;have e7:J.cell? ⟨i,4,qa⟩=qb (.slice S T U):=(a.o.get 1 rfl).cell 4;have e8:J.cell? ⟨i,5,qa⟩=qb (.int .i64 V):=(a.o.get 1 rfl).cell 5;have e9:J.cell? ⟨i,6,qa⟩=qb (.bool p.ii):=(a.o.get 1 rfl).cell 6;have f0:J.cell? ⟨i,7,qa⟩=qb (.bool p.oi):=(a.o.get 1 rfl).cell 7;have k5:=(a.o.get 5 rfl).lt;have k6:=(a.o.get 4 rfl).lt;have k7:=(a.o.get 1 rfl).lt;refine q02 (fun w'=>w'.cell? ⟨(w.heap.size+1),0,qa⟩=qb (.bool t.b)/\w'.cell? ⟨(w.heap.size+1),1,qa⟩=qb (.slice t.X t.n t.c)/\w'.cell? ⟨(w.heap.size+1),2,qa⟩=qb (.slice t.Y t.m t.d)/\w'.cell? ⟨(w.heap.size+1+1),0,qa⟩=qb (.bool u.b)/\w'.cell? ⟨(w.heap.size+1+1),1,qa⟩=qb (.slice u.X u.n u.c)/\w'.cell? ⟨(w.heap.size+1+1),2,qa⟩=qb (.slice u.Y u.m u.d)/\w'.cell? ⟨i,0,qa⟩=qb (.bool qc)/\w'.cell? ⟨i,1,qa⟩=qb (.slice O P Q)/\w'.cell? ⟨i,2,qa⟩=qb (.int .i64 R)/\w'.cell? ⟨i,3,qa⟩=qb (.bool qc)/\w'.cell? ⟨i,4,qa⟩=qb (.slice S T U)/\w'.cell? ⟨i,5,qa⟩=qb (.int .i64 V)/\w'.cell? ⟨i,6,qa⟩=qb (.bool p.ii)/\w'.cell? ⟨i,7,qa⟩=qb (.bool p.oi)) 11
    (.still 0 (.still 1 (.still 2 (.still 3 (.still 4 (.still 5 (.one 6 (.one 7 (.still 8 (.still 9 (.still 10 .done))))))))))) (by kernel_rfl) (by kernel_rfl) (fun _ _ d _ _ h=>by cases d<;>exact h) ⟨a5,a6,d9,e0,e1,e2,e3,e4,e5,e6,e7,e8,e9,f0⟩ (fun hS0=>?_)
   iterate 6
    refine q00 (v:=?_) rfl (by rfl) ?_ ?_;rotate_left
    ·intro w a7;go_simp;with_reducible rfl
    simp only[Act.put,sa,sb,sc]
   clear k5 k6 k7 a5 a6 d9 e0 e1 e2 e3 e4 e5 e6 e7 e8 e9 f0;obtain⟨o7,a4⟩:=yx (J.drew);have f:qf J.heap.size J o7:=by rw[a4];exact q05 (qd _ _)
   replace a:=vv (a.o.step f);replace a2:=vv (a2.o.below f);replace a9:=vv (a9.o.below f);rw[<- a4] at hS0 ⊢;clear a4 f;refine q03 rfl (by rfl) (fun K hK=>?_);have j:=vv (a.o.get 5 rfl)
   with_reducible refine q0H 39 (.tmp 6) (.tmp 97) rfl (w.heap.size+1) [.bool t.b,.slice t.X t.n t.c,.slice t.Y t.m t.d] rfl rfl 39 _ j.o (by kernel_rfl) rfl rfl ?_
   intro p4 C s;replace a:=vv (a.o.put 5 rfl C s);replace a2:=vv (a2.o.apart_ j.o rfl s);replace a9:=vv (a9.o.apart_ j.o rfl s);clear j C s;refine hK.out _ _ ⟨(a.o.get 5 rfl).cell 0,(a.o.get 5 rfl).cell 1,(a.o.get 5 rfl).cell 2,(a.o.get 4 rfl).cell 0,(a.o.get 4 rfl).cell 1,(a.o.get 4 rfl).cell 2,(a.o.get 1 rfl).cell 0,(a.o.get 1 rfl).cell 1,(a.o.get 1 rfl).cell 2,(a.o.get 1 rfl).cell 3,(a.o.get 1 rfl).cell 4,(a.o.get 1 rfl).cell 5,(a.o.get 1 rfl).cell 6,(a.o.get 1 rfl).cell 7⟩ (fun I=>?_);clear hK;refine q03 rfl (by rfl) (fun K hK=>?_);have j:=vv (a.o.get 4 rfl)
   with_reducible refine q0H 39 (.tmp 7) (.tmp 98) rfl (w.heap.size+1+1) [.bool u.b,.slice u.X u.n u.c,.slice u.Y u.m u.d] rfl rfl 39 _ j.o (by kernel_rfl) rfl rfl ?_
   intro c6 C s;replace a:=vv (a.o.put 4 rfl C s);replace a2:=vv (a2.o.apart_ j.o rfl s);replace a9:=vv (a9.o.apart_ j.o rfl s);clear j C s;refine hK.out _ _ ⟨(a.o.get 5 rfl).cell 0,(a.o.get 5 rfl).cell 1,(a.o.get 5 rfl).cell 2,(a.o.get 4 rfl).cell 0,(a.o.get 4 rfl).cell 1,(a.o.get 4 rfl).cell 2,(a.o.get 1 rfl).cell 0,(a.o.get 1 rfl).cell 1,(a.o.get 1 rfl).cell 2,(a.o.get 1 rfl).cell 3,(a.o.get 1 rfl).cell 4,(a.o.get 1 rfl).cell 5,(a.o.get 1 rfl).cell 6,(a.o.get 1 rfl).cell 7⟩ (fun I=>?_);clear hK
   iterate 3
    refine q00 (v:=?_) rfl (by rfl) ?_ ?_;rotate_left
    ·intro w a7;go_simp;with_reducible rfl
    simp only[Act.put,sa,sb,sc]
   refine q0Q rfl ?_;go_wp2;have k8:c6.cell? ⟨(w.heap.size+1),0,qa⟩=qb (.bool t.b):=(a.o.get 5 rfl).cell 0;have k9:c6.cell? ⟨(w.heap.size+1),1,qa⟩=qb (.slice t.X t.n t.c):=(a.o.get 5 rfl).cell 1;have l0:c6.cell? ⟨(w.heap.size+1),2,qa⟩=qb (.slice t.Y t.m t.d):=(a.o.get 5 rfl).cell 2;have l1:c6.cell? ⟨(w.heap.size+1+1),0,qa⟩=qb (.bool u.b):=(a.o.get 4 rfl).cell 0;have l2:c6.cell? ⟨(w.heap.size+1+1),1,qa⟩=qb (.slice u.X u.n u.c):=(a.o.get 4 rfl).cell 1;have l3:c6.cell? ⟨(w.heap.size+1+1),2,qa⟩=qb (.slice u.Y u.m u.d):=(a.o.get 4 rfl).cell 2;exact bodyPost_ret (v:=.tuple #[t.v,u.v,.bool p.oi,.bool p.ii,.int .i64 0]) (by simp [results,results22,go_sem,k8,k9,l0,l1,l2,l3]) rfl ⟨t,u,by rw[b8.o],by rw[b8.o];exact⟨a2.o,a9.o⟩,a.o.low⟩
end Nea
end Go.Proofs.YtabcgemembkkcaaGreatDoor
