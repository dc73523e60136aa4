/- Lemmas. -/
import Derived.Test.YtabcgemembkkcaaGreatDoorMirrBR
set_option linter.all false
set_option maxHeartbeats 8000000
set_option maxRecDepth 100000
open Go.Proofs.Tryz
open Option renaming none->qa,some->qc
open Bool renaming false->qb,true->qi
open Go renaming RowKit.Below.refl->qd,bodyPost_ret->qg,Calls->qj,World->qk
open Decidable renaming decide->qe
open Go.RowKit renaming Below->qf
open Go.Proofs.Tryz renaming prog->qh
namespace Go.Proofs.YtabcgemembkkcaaGreatDoor
variable{F m b k mode E B a X Y Z:Nat}{neg:Bool}
namespace Nea
open Go Go.RowKit R5 Scn Sh Fms Exa
theorem q8I(h4:F<=52):bl (mgN F m)<=54:=by have:=q0A (q5A F m);omega
theorem q8m(p:Int):tw p=dq 1 p:=by unfold dq;rw[show((1:Nat):Rat)=1 from rfl,k1E]
theorem q4a(E F m:Nat):after E F m=dq (mgN F m+1) (mgX E F m):=by unfold after wv;rw[q26,q8m]
theorem q42(K:Nat)(p:Int):dq K p/2=dq K (p-1):=by
 have:dq K p=dq K (p-1)+dq K (p-1):=by unfold dq;rw[q6E p];grind
 grind
theorem q2H(E F m:Nat):wv E F m+after E F m=dq (2*mgN F m+1) (mgX E F m):=by rw[q4a];unfold wv;rw[<- q26];congr 1;omega
theorem q5d(E F m:Nat)(h1:2<=E)(h2:E<=11)(h4:F<=52)(hm:m<2^(E+F)):∃(K:Nat) (p:Int),before E F m+wv E F m=dq K p/\bl K<=60 /\ -2000<=p/\p<=2500/\Rb (before E F m):=by
 obtain⟨d,e⟩:=q4y h1 h2 h4 hm;rcases k01 m with h|h
 ·refine⟨2*mgN F m,mgX E F m,?_,?_,by omega,by omega,?_⟩
  ·unfold before;rw[k0n h];unfold wv;rw[<- q26];congr 1;omega
  ·have:=q1W 2 (mgN F m);have:=q8I (F:=F) (m:=m) h4;have:bl 2=2:=rfl;omega
  ·unfold before;rw[k0n h];exact Rb.dq (by have:=q8I (F:=F) (m:=m) h4;omega) (by omega) (by omega)
 ·obtain⟨K,p,a,b,f,c⟩:=q1S E F m h;have g:bl K<=54:=by have:=q0A b;omega
  refine⟨2*K+1,p,?_,?_,by omega,by omega,by rw[a];exact Rb.dq (by omega) (by omega) (by omega)⟩
  ·rw[c,a,q8m,<- q26,<- q26];congr 1;omega
  ·have h1:=q1W 2 K;have h2:bl 2=2:=rfl;have:=q2E (2*K) 1 57 (by omega) (by decide);omega
def EdP(ed:Edges)(w:qk)(e:Ending)(w':qk):Prop:=
 ∃A1 n1 c1 N1 x1 A2 n2 c2 N2 x2,e=.returned (.tuple #[.agg #[.bool qb,.slice A1 n1 c1,.int .i64 x1,.bool qb,.slice A2 n2 c2,.int .i64 x2,.bool ed.ii,.bool ed.oi],.int .i64 0])/\DQ w' A1 n1 c1 N1 x1 ed.inner/\DQ w' A2 n2 c2 N2 x2 ed.outer/\qf w.heap.size w w'
theorem qbg(E F m mode:Nat)(w:qk)(h1:2<=E)(h2:E<=11)(h3:1<=F)(h4:F<=52)(hb:m<2^(E+F))(hf:m/2^F≠2^E-1)(hmo:mode<=3)(hst:Std w):qj qh 59 #[fm E F,.int .u64 (m:Int),.int .u8 (mode:Int)] w (EdP (q0T E F m mode) w):=by
 obtain⟨b1,b2⟩:=q4y h1 h2 h4 hb;have k7:=q8I (F:=F) (m:=m) h4;have i3:m<2^63:=k02 hb (k04 (by decide) (by omega));obtain⟨K,p,k1,k2,k3,k4,k5⟩:=q5d E F m h1 h2 h4 hb;obtain⟨w0,g5⟩:=yx ((w.alloc (.cells #[.int .i64 (E:Int),.int .i64 (F:Int)] 23)).alloc (.cells #[.bool qb,.slice qa 0 0,.int .i64 0,.bool qb,.slice qa 0 0,.int .i64 0,.bool qb,.bool qb] 106));have g:Cx w [(w.heap.size+1,106,[.bool qb,.slice qa 0 0,.int .i64 0,.bool qb,.slice qa 0 0,.int .i64 0,.bool qb,.bool qb]),(w.heap.size,23,[.int .i64 (E:Int),.int .i64 (F:Int)])] w0:=by rw[g5];exact((Cx.nil w).new _ [_,_] rfl).new _ [_,_,_,_,_,_,_,_] (by simp)
 have a8:=vv hst;have k8:=vv fun w' (hs:Std w')=>q9z E F m w' h1 h2 h3 h4 hb hf hs
 have f8:=vv fun w'=>qce E F m w' h1 h2 h3 h4 hb
 have f2:=vv fun z w' (k:RN w' z 1 1 1) (hs:Std w')=>qaH z 1 1 1 (mgX E F m) w' k.r (by decide) (Rb.dq (by decide) (by omega) (by omega)) (by omega) (by omega) hs
 rw[<- q8m] at f2;have r1:Rb (wv E F m+tw (mgX E F m)):=by show Rb (after E F m);rw[q4a];exact Rb.dq (by have:=q2E (mgN F m) 1 60 (by omega) (by decide);omega) (by omega) (by omega)
 have g7:=vv fun A n c N x B m' d M y w' (k:DQ w' A n c N x (wv E F m)) (k':DQ w' B m' d M y (tw (mgX E F m))) (hs:Std w')=>qd4 A n c N x (wv E F m) B m' d M y (tw (mgX E F m)) w' k k' r1 hs
 have e1:wv E F m+tw (mgX E F m)=after E F m:=rfl;rw[e1] at g7;have j4:=vv fun A n c N x B m' d M y w' (k:DQ w' A n c N x (before E F m)) (k':DQ w' B m' d M y (wv E F m)) (hs:Std w')=>qbt A n c N x (before E F m) B m' d M y (wv E F m) w' k k' (by rw[k1];exact Rb.dq (by omega) (by omega) (by omega)) (by rw[k1,q42];exact Rb.dq (by omega) (by omega) (by omega)) hs
 have hh:bl (2*mgN F m+1)<=60:=by have h1:=q1W 2 (mgN F m);have h2:bl 2=2:=rfl;have:=q2E (2*mgN F m) 1 57 (by omega) (by decide);omega
 have j5:=vv fun A n c N x B m' d M y w' (k:DQ w' A n c N x (wv E F m)) (k':DQ w' B m' d M y (after E F m)) (hs:Std w')=>qbt A n c N x (wv E F m) B m' d M y (after E F m) w' k k' (by rw[q2H];exact Rb.dq (by omega) (by omega) (by omega)) (by rw[q2H,q42];exact Rb.dq (by omega) (by omega) (by omega)) hs
 have k9:Hid (0<m->∀w',Std w'->qj qh 24 #[fm E F,.int .u64 ((m-1:Nat):Int)] w' (DQP (before E F m) w')):=vv fun h0 w' hs=>by
  have m6:(m-1)/2^F<=m/2^F:=Nat.div_le_div_right (by omega);have m7:m/2^F<2^E:=k0s (by rw[<- k0h,k11];exact hb);have:=q9z E F (m-1) w' h1 h2 h3 h4 (by omega) (by omega) hs;unfold before
  rwa [k0o (by omega)]
 have l0:(bits .and .u64 (m:Int) 1==0)=(m%2==0):=by have:=Go.Proofs.YtabcgemembkkcaaGreatDoor.Fms.and_mask m 1 (by decide) (by omega);rw[show((R3.tw 1-1:Nat):Int)=1 from rfl,k23] at this;rw[this];rcases k0Z m with h|h<;>rw[h]<;>rfl
 obtain⟨ev,b6⟩:=yx ((m%2==0));rw[<- b6] at l0;obtain⟨X,hX⟩:=yx (mgX E F m);rw[<- hX] at f8 f2 g7 b1 b2;have l1:=vv b6;have a:=vv g;have HW:=vv g5;have hE:(E:Int)<=11:=by omega
 have hF:(F:Int)<=52:=by omega
 have m8:(m:Int)<9223372036854775808:=by omega
 obtain⟨ed,a9⟩:=yx (q0T E F m mode);rw[<- a9];have f9:=vv a9;clear g5 g hst k7 i3 k1 k2 k3 k4 k5 r1 e1 hh b6 hX hb hf a9;have l2:w0.cell? ⟨w.heap.size,0,qa⟩=qc (.int .i64 (E:Int)):=(a.o.get 1 rfl).cell 0;have l3:w0.cell? ⟨w.heap.size,1,qa⟩=qc (.int .i64 (F:Int)):=(a.o.get 1 rfl).cell 1;have l4:=(a.o.get 1 rfl).lt;go_enter func59,ntmps59;go_wp2_with fail;rw[<- HW.o];go_wp2_with fail;refine(k8.o _ (a.o.std a8.o)).mono ?_;rintro e w4 ⟨z,D,G,N1,H,rfl,t,b⟩;replace a:=vv (a.o.step b);have f:=vv t;clear l2 l3 l4 b t;go_upto_region 4 with fail;obtain⟨I,L⟩:=yx (w4.heap.size);obtain⟨w5,q⟩:=yx (w4.alloc (.cells #[.bool qb,.slice z D G,.int .i64 H] 62));have b:qf w4.heap.size w4 w5:=by rw[q];exact(qd _ _).alloc lr _
 have g:=a.o.new 62 [.bool qb,.slice z D G,.int .i64 H] L;rw[<- q] at g 
 try rw[<- q]
 try rw[<- L]
 replace a:=vv g;replace f:=vv (f.o.below b);clear q b g L;go_cut [9,10] (fun s9 s10 wx=>∃(ga:Nat) (A2:Option Addr) (n2 c2 N2:Nat) (x2:Int),s9=.int .i64 0/\s10=.pointer (qc ⟨ga,0,qa⟩)/\Cx w [(ga,62,[.bool qb,.slice A2 n2 c2,.int .i64 x2]),(I,62,[.bool qb,.slice z D G,.int .i64 H]),(w.heap.size+1,106,[.bool qb,.slice qa 0 0,.int .i64 0,.bool qb,.slice qa 0 0,.int .i64 0,.bool qb,.bool qb]),(w.heap.size,23,[.int .i64 (E:Int),.int .i64 (F:Int)])] wx/\DQ wx z D G N1 H (wv E F m)/\DQ wx A2 n2 c2 N2 x2 (tw X))
 case first =>
  go_wp2_with fail;have g0:w5.cell? ⟨w.heap.size,0,qa⟩=qc (.int .i64 (E:Int)):=(a.o.get 2 rfl).cell 0;have g1:w5.cell? ⟨w.heap.size,1,qa⟩=qc (.int .i64 (F:Int)):=(a.o.get 2 rfl).cell 1;have l5:=(a.o.get 2 rfl).lt;refine q02 (fun w'=>w'.cell? ⟨w.heap.size,0,qa⟩=qc (.int .i64 (E:Int))/\w'.cell? ⟨w.heap.size,1,qa⟩=qc (.int .i64 (F:Int))) 10
   (.still 1 (.still 2 (.two 0 (.two 3 (.two 4 (.still 5 (.still 6 (.still 7 (.one 8 (.one 9 .done))))) 8 (.one 4 (.still 5 (.still 6 (.still 7 (.one 9 .done)))))) 8 (.one 3 (.one 4 (.still 5 (.still 6 (.still 7 (.one 9 .done))))))) 8 (.one 0 (.one 3 (.one 4 (.still 5 (.still 6 (.still 7 (.one 9 .done)))))))))) (by kernel_rfl) (by kernel_rfl) (fun _ _ d _ _ h=>by cases d<;>exact h) ⟨g0,g1⟩ (fun hS0=>?_)
  iterate 2
   refine q01 (v:=?_) rfl (by rfl) ?_ ?_;rotate_left
   ·intro w g2;go_simp;with_reducible rfl
   simp only[Act.put,sa,sb,sc]
  clear l5 g0 g1;obtain⟨f3,g8⟩:=yx (w5.drew);have b:qf w5.heap.size w5 f3:=by rw[g8];exact q05 (qd _ _)
  replace a:=vv (a.o.step b);replace f:=vv (f.o.below b);rw[<- g8] at hS0 ⊢;clear g8 b;refine q0C rfl (by rfl) rfl (by rfl) (fun K hK=>?_) (fun K hK=>?_)
  focus
   go_simp;refine(Nat_.Of1 f3).mono ?_;rintro e f4 ⟨A7,rfl,hR,b⟩;replace a:=vv (a.o.step b);replace f:=vv (f.o.below b);have C:=vv (RN.mk hR);clear b hR;go_wp2_with fail;refine hK.out _ _ ⟨(a.o.get 2 rfl).cell 0,(a.o.get 2 rfl).cell 1⟩ (fun Z=>?_);clear hK;refine q0C rfl (by rfl) rfl (by rfl) (fun K hK=>?_) (fun K hK=>?_)
   focus
    go_simp;refine(f8.o f4).mono ?_;rintro e g3 ⟨rfl,b⟩;replace a:=vv (a.o.step b);replace f:=vv (f.o.below b);replace C:=vv (C.o.below b);clear b;go_wp2_with fail;refine hK.out _ _ ⟨(a.o.get 2 rfl).cell 0,(a.o.get 2 rfl).cell 1⟩ (fun Z=>?_);clear hK;refine q0C rfl (by rfl) rfl (by rfl) (fun K hK=>?_) (fun K hK=>?_)
    focus
     go_simp;refine(f2.o _ _ C.o (a.o.std a8.o)).mono ?_;rintro e g4 ⟨A2,n2,c2,N2,x2,rfl,t,b⟩;replace a:=vv (a.o.step b);replace f:=vv (f.o.below b);replace C:=vv (C.o.below b);have H2:=vv t;clear b t;go_wp2_with fail;refine hK.out _ _ ⟨(a.o.get 2 rfl).cell 0,(a.o.get 2 rfl).cell 1⟩ (fun Z=>?_);clear hK
     iterate 3
      refine q01 (v:=?_) rfl (by rfl) ?_ ?_;rotate_left
      ·intro w g2;go_simp;with_reducible rfl
      simp only[Act.put,sa,sb,sc]
     refine q03 rfl (by rfl) (fun K hK=>?_);go_simp;obtain⟨ga,T⟩:=yx (g4.heap.size);obtain⟨j6,P⟩:=yx (g4.alloc (.cells #[.bool qb,.slice qa 0 0,.int .i64 0] 62));have b:qf g4.heap.size g4 j6:=by rw[P];exact(qd _ _).alloc lr _
     have g:=a.o.new 62 [.bool qb,.slice qa 0 0,.int .i64 0] T;rw[<- P] at g
     try rw[<- P]
     try rw[<- T]
     replace a:=vv g;replace f:=vv (f.o.below b);replace C:=vv (C.o.below b);replace H2:=vv (H2.o.below b);clear b g P T;refine hK.out _ _ ⟨(a.o.get 3 rfl).cell 0,(a.o.get 3 rfl).cell 1⟩ (fun Z=>?_);clear hK;obtain⟨wz,hz⟩:=yx (j6);subst hz
    rotate_left 1
    focus
     go_simp;obtain⟨ga,T⟩:=yx (g3.heap.size);obtain⟨b0,P⟩:=yx (g3.alloc (.cells #[.bool qb,.slice qa 0 0,.int .i64 0] 62));have b:qf g3.heap.size g3 b0:=by rw[P];exact(qd _ _).alloc lr _
     have g:=a.o.new 62 [.bool qb,.slice qa 0 0,.int .i64 0] T;rw[<- P] at g
     try rw[<- P]
     try rw[<- T]
     replace a:=vv g;replace f:=vv (f.o.below b);replace C:=vv (C.o.below b);clear b g P T;refine hK.out _ _ ⟨(a.o.get 3 rfl).cell 0,(a.o.get 3 rfl).cell 1⟩ (fun Z=>?_);clear hK;refine q03 rfl (by rfl) (fun K hK=>?_);go_simp;refine(f2.o _ _ C.o (a.o.std a8.o)).mono ?_;rintro e l6 ⟨A2,n2,c2,N2,x2,rfl,t,b⟩;replace a:=vv (a.o.step b);replace f:=vv (f.o.below b);replace C:=vv (C.o.below b);have H2:=vv t;clear b t;go_wp2_with fail;refine hK.out _ _ ⟨(a.o.get 3 rfl).cell 0,(a.o.get 3 rfl).cell 1⟩ (fun Z=>?_);clear hK
     iterate 3
      refine q01 (v:=?_) rfl (by rfl) ?_ ?_;rotate_left
      ·intro w g2;go_simp;with_reducible rfl
      simp only[Act.put,sa,sb,sc]
     obtain⟨wz,hz⟩:=yx (l6);subst hz
   rotate_left 2
   focus
    go_simp;obtain⟨ga,T⟩:=yx (f4.heap.size);obtain⟨j7,P⟩:=yx (f4.alloc (.cells #[.bool qb,.slice qa 0 0,.int .i64 0] 62));have b:qf f4.heap.size f4 j7:=by rw[P];exact(qd _ _).alloc lr _
    have g:=a.o.new 62 [.bool qb,.slice qa 0 0,.int .i64 0] T;rw[<- P] at g
    try rw[<- P]
    try rw[<- T]
    replace a:=vv g;replace f:=vv (f.o.below b);replace C:=vv (C.o.below b);clear b g P T;refine hK.out _ _ ⟨(a.o.get 3 rfl).cell 0,(a.o.get 3 rfl).cell 1⟩ (fun Z=>?_);clear hK;refine q03 rfl (by rfl) (fun K hK=>?_);go_simp;refine(f8.o j7).mono ?_;rintro e m9 ⟨rfl,b⟩;replace a:=vv (a.o.step b);replace f:=vv (f.o.below b);replace C:=vv (C.o.below b);clear b;go_wp2_with fail;refine hK.out _ _ ⟨(a.o.get 3 rfl).cell 0,(a.o.get 3 rfl).cell 1⟩ (fun Z=>?_);clear hK;refine q03 rfl (by rfl) (fun K hK=>?_);go_simp;refine(f2.o _ _ C.o (a.o.std a8.o)).mono ?_;rintro e l7 ⟨A2,n2,c2,N2,x2,rfl,t,b⟩;replace a:=vv (a.o.step b);replace f:=vv (f.o.below b);replace C:=vv (C.o.below b);have H2:=vv t;clear b t;go_wp2_with fail;refine hK.out _ _ ⟨(a.o.get 3 rfl).cell 0,(a.o.get 3 rfl).cell 1⟩ (fun Z=>?_);clear hK
    iterate 3
     refine q01 (v:=?_) rfl (by rfl) ?_ ?_;rotate_left
     ·intro w g2;go_simp;with_reducible rfl
     simp only[Act.put,sa,sb,sc]
    obtain⟨wz,hz⟩:=yx (l7);subst hz
  rotate_left 3
  focus
   go_simp;obtain⟨ga,T⟩:=yx (f3.heap.size);obtain⟨b3,P⟩:=yx (f3.alloc (.cells #[.bool qb,.slice qa 0 0,.int .i64 0] 62));have b:qf f3.heap.size f3 b3:=by rw[P];exact(qd _ _).alloc lr _
   have g:=a.o.new 62 [.bool qb,.slice qa 0 0,.int .i64 0] T;rw[<- P] at g
   try rw[<- P]
   try rw[<- T]
   replace a:=vv g;replace f:=vv (f.o.below b);clear b g P T;refine hK.out _ _ ⟨(a.o.get 3 rfl).cell 0,(a.o.get 3 rfl).cell 1⟩ (fun Z=>?_);clear hK;refine q03 rfl (by rfl) (fun K hK=>?_);go_simp;refine(Nat_.Of1 b3).mono ?_;rintro e l8 ⟨A7,rfl,hR,b⟩;replace a:=vv (a.o.step b);replace f:=vv (f.o.below b);have C:=vv (RN.mk hR);clear b hR;go_wp2_with fail;refine hK.out _ _ ⟨(a.o.get 3 rfl).cell 0,(a.o.get 3 rfl).cell 1⟩ (fun Z=>?_);clear hK;refine q03 rfl (by rfl) (fun K hK=>?_);go_simp;refine(f8.o l8).mono ?_;rintro e b4 ⟨rfl,b⟩;replace a:=vv (a.o.step b);replace f:=vv (f.o.below b);replace C:=vv (C.o.below b);clear b;go_wp2_with fail;refine hK.out _ _ ⟨(a.o.get 3 rfl).cell 0,(a.o.get 3 rfl).cell 1⟩ (fun Z=>?_);clear hK;refine q03 rfl (by rfl) (fun K hK=>?_);go_simp;refine(f2.o _ _ C.o (a.o.std a8.o)).mono ?_;rintro e l9 ⟨A2,n2,c2,N2,x2,rfl,t,b⟩;replace a:=vv (a.o.step b);replace f:=vv (f.o.below b);replace C:=vv (C.o.below b);have H2:=vv t;clear b t;go_wp2_with fail;refine hK.out _ _ ⟨(a.o.get 3 rfl).cell 0,(a.o.get 3 rfl).cell 1⟩ (fun Z=>?_);clear hK
   iterate 3
    refine q01 (v:=?_) rfl (by rfl) ?_ ?_;rotate_left
    ·intro w g2;go_simp;with_reducible rfl
    simp only[Act.put,sa,sb,sc]
   obtain⟨wz,hz⟩:=yx (l9);subst hz
  all_goals
   refine q03 rfl (by rfl) (fun K hK=>?_);have i:=vv (a.o.get 0 rfl)
   with_reducible refine q0u 62 (.tmp 10) (.tmp 32) rfl ga [.bool qb,.slice A2 n2 c2,.int .i64 x2] rfl rfl 62 _ i.o (by kernel_rfl) rfl rfl ?_
   intro n0 R s;replace a:=vv (a.o.put 0 rfl R s);replace f:=vv (f.o.apart_ i.o rfl s);replace C:=vv (C.o.apart_ i.o rfl s);replace H2:=vv (H2.o.apart_ i.o rfl s);clear i R s;refine hK.out _ _ ⟨(a.o.get 3 rfl).cell 0,(a.o.get 3 rfl).cell 1⟩ (fun Z=>?_);clear hK;refine q07 ?_;simp only[k0H,k0M];go_wp2_with fail;go_meet;exact⟨ga,A2,n2,c2,N2,x2,rfl,rfl,a.o,f.o,H2.o⟩
 case rest =>
  obtain⟨ga,A2,n2,c2,N2,x2,rfl,rfl,g,f5,j8⟩:=hcut;replace a:=vv g;replace f:=vv f5;have H2:=vv j8;clear g f5 j8;have g0:wc.cell? ⟨ga,0,qa⟩=qc (.bool qb):=(a.o.get 0 rfl).cell 0;have g1:wc.cell? ⟨ga,1,qa⟩=qc (.slice A2 n2 c2):=(a.o.get 0 rfl).cell 1;have m0:wc.cell? ⟨ga,2,qa⟩=qc (.int .i64 x2):=(a.o.get 0 rfl).cell 2;have i4:=(a.o.get 0 rfl).lt;have i5:wc.cell? ⟨I,0,qa⟩=qc (.bool qb):=(a.o.get 1 rfl).cell 0;have i6:wc.cell? ⟨I,1,qa⟩=qc (.slice z D G):=(a.o.get 1 rfl).cell 1;have i7:wc.cell? ⟨I,2,qa⟩=qc (.int .i64 H):=(a.o.get 1 rfl).cell 2;have i8:=(a.o.get 1 rfl).lt;go_wp2_with fail;refine(g7.o _ _ _ _ _ _ _ _ _ _ _ f.o H2.o (a.o.std a8.o)).mono ?_;rintro e b0 ⟨A3,n3,c3,N3,x3,rfl,t,b⟩;replace a:=vv (a.o.step b);replace f:=vv (f.o.below b);replace H2:=vv (H2.o.below b);have u:=vv t;clear g0 g1 m0 i4 i5 i6 i7 i8 b t;have i9:b0.cell? ⟨I,0,qa⟩=qc (.bool qb):=(a.o.get 1 rfl).cell 0;have j0:b0.cell? ⟨I,1,qa⟩=qc (.slice z D G):=(a.o.get 1 rfl).cell 1;have j1:b0.cell? ⟨I,2,qa⟩=qc (.int .i64 H):=(a.o.get 1 rfl).cell 2;have j2:=(a.o.get 1 rfl).lt;go_upto_if 50 with fail;obtain⟨J,L⟩:=yx (b0.heap.size);obtain⟨b3,q⟩:=yx (b0.alloc (.cells #[.bool qb,.slice A3 n3 c3,.int .i64 x3] 62));have b:qf b0.heap.size b0 b3:=by rw[q];exact(qd _ _).alloc lr _
  have g:=a.o.new 62 [.bool qb,.slice A3 n3 c3,.int .i64 x3] L;have f7:(J+1:Nat)=b3.heap.size:=by rw[q,World.size_alloc,<- L]
  rw[<- q] at g 
  try rw[<- q]
  try rw[<- L]
  replace a:=vv g;replace f:=vv (f.o.below b);replace u:=vv (u.o.below b);clear i9 j0 j1 j2 q b g L;obtain⟨b4,q⟩:=yx (b3.alloc (.cells #[.bool qb,.slice z D G,.int .i64 H] 62));have b:qf b3.heap.size b3 b4:=by rw[q];exact(qd _ _).alloc lr _
  have g:=a.o.new 62 [.bool qb,.slice z D G,.int .i64 H] f7;rw[<- q] at g 
  try rw[<- q]
  replace a:=vv g;replace f:=vv (f.o.below b);replace u:=vv (u.o.below b);clear q b g f7;go_cut [9] (fun s9 wx=>∃(A5:Option Addr) (n5 c5 N5:Nat) (x5:Int),s9=.int .i64 0/\Cx w [((J+1),62,[.bool qb,.slice A5 n5 c5,.int .i64 x5]),(J,62,[.bool qb,.slice A3 n3 c3,.int .i64 x3]),(ga,62,[.bool qb,.slice A2 n2 c2,.int .i64 x2]),(I,62,[.bool qb,.slice z D G,.int .i64 H]),(w.heap.size+1,106,[.bool qb,.slice qa 0 0,.int .i64 0,.bool qb,.slice qa 0 0,.int .i64 0,.bool qb,.bool qb]),(w.heap.size,23,[.int .i64 (E:Int),.int .i64 (F:Int)])] wx/\DQ wx z D G N1 H (wv E F m)/\DQ wx A3 n3 c3 N3 x3 (after E F m)/\DQ wx A5 n5 c5 N5 x5 (before E F m))
  case first =>
   rcases k01 m with f6|f6
   ·have t0:qe (0<m)=qb:=k00 (by omega);have j9:before E F m=wv E F m:=by unfold before;rw[k0n f6]
    have m1:Hid (DQ b4 z D G N1 H (before E F m)):=vv (by rw[j9];exact f.o);clear j9 f6;rw[t0];go_wp2_with fail;go_meet;exact⟨z,D,G,N1,H,rfl,a.o,f.o,u.o,m1.o⟩
   ·have t0:qe (0<m)=qi:=k03 f6;have m2:(m:Int)-1=((m-1:Nat):Int):=by omega
    obtain⟨j,hj⟩:=yx (m-1);have g9:=k9.o f6;rw[<- hj] at m2 g9;have m3:=vv g9;clear g9 hj;rw[t0];have a0:b4.cell? ⟨J,0,qa⟩=qc (.bool qb):=(a.o.get 1 rfl).cell 0;have a1:b4.cell? ⟨J,1,qa⟩=qc (.slice A3 n3 c3):=(a.o.get 1 rfl).cell 1;have a2:b4.cell? ⟨J,2,qa⟩=qc (.int .i64 x3):=(a.o.get 1 rfl).cell 2;have a3:=(a.o.get 1 rfl).lt;have a4:b4.cell? ⟨w.heap.size,0,qa⟩=qc (.int .i64 (E:Int)):=(a.o.get 5 rfl).cell 0;have a5:b4.cell? ⟨w.heap.size,1,qa⟩=qc (.int .i64 (F:Int)):=(a.o.get 5 rfl).cell 1;have j3:=(a.o.get 5 rfl).lt;go_wp2_with fail;refine(m3.o _ (a.o.std a8.o)).mono ?_;rintro e n4 ⟨A5,n5,c5,N5,x5,rfl,t,b⟩;replace a:=vv (a.o.step b);replace f:=vv (f.o.below b);replace u:=vv (u.o.below b);have O:=vv t;clear a0 a1 a2 a3 a4 a5 j3 b t;have i:=vv (a.o.get 0 rfl);go_wp2_with (with_reducible refine q00 rfl 62 (.tmp 12) (.tmp 56) rfl (J+1) [.bool qb,.slice A5 n5 c5,.int .i64 x5] rfl rfl 62 _ i.o (by kernel_rfl) rfl rfl ?_);intro l R s;clear i;have i:=vv (a.o.get 0 rfl);replace a:=vv (a.o.put 0 rfl R s);replace f:=vv (f.o.apart_ i.o rfl s);replace u:=vv (u.o.apart_ i.o rfl s);replace O:=vv (O.o.apart_ i.o rfl s);clear i R s;go_wp2_with fail;go_meet;exact⟨A5,n5,c5,N5,x5,rfl,a.o,f.o,u.o,O.o⟩
  case rest =>
   obtain⟨A5,n5,c5,N5,x5,rfl,g,f5,k0,k6⟩:=hcut;replace a:=vv g;replace f:=vv f5;replace u:=vv k0;have O:=vv k6;clear g f5 k0 k6;rcases(by omega:mode=0\/mode=1\/mode=2\/mode=3) with rfl|rfl|rfl|rfl
   focus
    have a9:ed=⟨(before E F m+wv E F m)/2,(wv E F m+after E F m)/2,ev,ev⟩:=by rw[f9.o,l1.o];rfl
    subst a9;have a0:wc.cell? ⟨(J+1),0,qa⟩=qc (.bool qb):=(a.o.get 0 rfl).cell 0;have a1:wc.cell? ⟨(J+1),1,qa⟩=qc (.slice A5 n5 c5):=(a.o.get 0 rfl).cell 1;have a2:wc.cell? ⟨(J+1),2,qa⟩=qc (.int .i64 x5):=(a.o.get 0 rfl).cell 2;have a3:=(a.o.get 0 rfl).lt;have a4:wc.cell? ⟨I,0,qa⟩=qc (.bool qb):=(a.o.get 3 rfl).cell 0;have a5:wc.cell? ⟨I,1,qa⟩=qc (.slice z D G):=(a.o.get 3 rfl).cell 1;have a6:wc.cell? ⟨I,2,qa⟩=qc (.int .i64 H):=(a.o.get 3 rfl).cell 2;have a7:=(a.o.get 3 rfl).lt;go_wp2_with fail;refine(j4.o _ _ _ _ _ _ _ _ _ _ _ O.o f.o (a.o.std a8.o)).mono ?_;rintro e l ⟨V,W,c8,N8,Y,rfl,t,b⟩;replace a:=vv (a.o.step b);replace f:=vv (f.o.below b);replace u:=vv (u.o.below b);replace O:=vv (O.o.below b);have Q:=vv t;clear a0 a1 a2 a3 a4 a5 a6 a7 b t;have b7:l.cell? ⟨J,0,qa⟩=qc (.bool qb):=(a.o.get 1 rfl).cell 0;have b8:l.cell? ⟨J,1,qa⟩=qc (.slice A3 n3 c3):=(a.o.get 1 rfl).cell 1;have b9:l.cell? ⟨J,2,qa⟩=qc (.int .i64 x3):=(a.o.get 1 rfl).cell 2;have c0:=(a.o.get 1 rfl).lt;have c4:l.cell? ⟨I,0,qa⟩=qc (.bool qb):=(a.o.get 3 rfl).cell 0;have c6:l.cell? ⟨I,1,qa⟩=qc (.slice z D G):=(a.o.get 3 rfl).cell 1;have c7:l.cell? ⟨I,2,qa⟩=qc (.int .i64 H):=(a.o.get 3 rfl).cell 2;have d0:=(a.o.get 3 rfl).lt;go_wp2_with fail;obtain⟨b5,L⟩:=yx (l.heap.size);obtain⟨i0,q⟩:=yx (l.alloc (.cells #[.bool qb,.slice V W c8,.int .i64 Y] 62));have b:qf l.heap.size l i0:=by rw[q];exact(qd _ _).alloc lr _
    have g:=a.o.new 62 [.bool qb,.slice V W c8,.int .i64 Y] L;rw[<- q] at g 
    try rw[<- q]
    try rw[<- L]
    replace a:=vv g;replace f:=vv (f.o.below b);replace u:=vv (u.o.below b);replace O:=vv (O.o.below b);replace Q:=vv (Q.o.below b);clear b7 b8 b9 c0 c4 c6 c7 d0 q b g L;refine(j5.o _ _ _ _ _ _ _ _ _ _ _ f.o u.o (a.o.std a8.o)).mono ?_;rintro e U ⟨A9,n9,c9,N9,x9,rfl,t,b⟩;replace a:=vv (a.o.step b);replace f:=vv (f.o.below b);replace u:=vv (u.o.below b);replace O:=vv (O.o.below b);replace Q:=vv (Q.o.below b);have H9:=vv t;clear b t;have d1:U.cell? ⟨b5,0,qa⟩=qc (.bool qb):=(a.o.get 0 rfl).cell 0;have d2:U.cell? ⟨b5,1,qa⟩=qc (.slice V W c8):=(a.o.get 0 rfl).cell 1;have d3:U.cell? ⟨b5,2,qa⟩=qc (.int .i64 Y):=(a.o.get 0 rfl).cell 2;have d4:=(a.o.get 0 rfl).lt;have i:=vv (a.o.get 5 rfl);go_wp2_with (with_reducible refine q00 rfl 106 (.tmp 6) (.tmp 104) rfl (w.heap.size+1) [.bool qb,.slice V W c8,.int .i64 Y,.bool qb,.slice A9 n9 c9,.int .i64 x9,.bool ev,.bool ev] rfl rfl 106 _ (i.o.alloc _) (by kernel_rfl) rfl rfl ?_);intro S R s;clear i;obtain⟨m4,L⟩:=yx (U.heap.size);obtain⟨i1,q⟩:=yx (U.alloc (.cells #[.bool qb,.slice A9 n9 c9,.int .i64 x9] 62));have b:qf U.heap.size U i1:=by rw[q];exact(qd _ _).alloc lr _
    have g:=a.o.new 62 [.bool qb,.slice A9 n9 c9,.int .i64 x9] L;rw[<- q] at g s
    try rw[<- q]
    try rw[<- L]
    replace a:=vv g;replace Q:=vv (Q.o.below b);replace H9:=vv (H9.o.below b);clear d1 d2 d3 d4 q b g L;have i:=vv (a.o.get 6 rfl);replace a:=vv (a.o.put 6 rfl R s);replace Q:=vv (Q.o.apart_ i.o rfl s);replace H9:=vv (H9.o.apart_ i.o rfl s);clear i R s;go_wp2;have d5:S.cell? ⟨(w.heap.size+1),0,qa⟩=qc (.bool qb):=(a.o.get 6 rfl).cell 0;have d6:S.cell? ⟨(w.heap.size+1),1,qa⟩=qc (.slice V W c8):=(a.o.get 6 rfl).cell 1;have d7:S.cell? ⟨(w.heap.size+1),2,qa⟩=qc (.int .i64 Y):=(a.o.get 6 rfl).cell 2;have d8:S.cell? ⟨(w.heap.size+1),3,qa⟩=qc (.bool qb):=(a.o.get 6 rfl).cell 3;have d9:S.cell? ⟨(w.heap.size+1),4,qa⟩=qc (.slice A9 n9 c9):=(a.o.get 6 rfl).cell 4;have e0:S.cell? ⟨(w.heap.size+1),5,qa⟩=qc (.int .i64 x9):=(a.o.get 6 rfl).cell 5;have e2:S.cell? ⟨(w.heap.size+1),6,qa⟩=qc (.bool ev):=(a.o.get 6 rfl).cell 6;have e3:S.cell? ⟨(w.heap.size+1),7,qa⟩=qc (.bool ev):=(a.o.get 6 rfl).cell 7;exact qg (v:=.tuple #[.agg #[.bool qb,.slice V W c8,.int .i64 Y,.bool qb,.slice A9 n9 c9,.int .i64 x9,.bool ev,.bool ev],.int .i64 0]) (by simp [results,results59,go_sem,d5,d6,d7,d8,d9,e0,e2,e3]) rfl ⟨V,W,c8,N8,Y,A9,n9,c9,N9,x9,rfl,Q.o,H9.o,a.o.low⟩
   focus
    have a9:ed=⟨(before E F m+wv E F m)/2,(wv E F m+after E F m)/2,qi,qb⟩:=by rw[f9.o];rfl
    subst a9;have a0:wc.cell? ⟨(J+1),0,qa⟩=qc (.bool qb):=(a.o.get 0 rfl).cell 0;have a1:wc.cell? ⟨(J+1),1,qa⟩=qc (.slice A5 n5 c5):=(a.o.get 0 rfl).cell 1;have a2:wc.cell? ⟨(J+1),2,qa⟩=qc (.int .i64 x5):=(a.o.get 0 rfl).cell 2;have a3:=(a.o.get 0 rfl).lt;have a4:wc.cell? ⟨I,0,qa⟩=qc (.bool qb):=(a.o.get 3 rfl).cell 0;have a5:wc.cell? ⟨I,1,qa⟩=qc (.slice z D G):=(a.o.get 3 rfl).cell 1;have a6:wc.cell? ⟨I,2,qa⟩=qc (.int .i64 H):=(a.o.get 3 rfl).cell 2;have a7:=(a.o.get 3 rfl).lt;go_wp2_with fail;refine(j4.o _ _ _ _ _ _ _ _ _ _ _ O.o f.o (a.o.std a8.o)).mono ?_;rintro e l ⟨V,W,c8,N8,Y,rfl,t,b⟩;replace a:=vv (a.o.step b);replace f:=vv (f.o.below b);replace u:=vv (u.o.below b);replace O:=vv (O.o.below b);have Q:=vv t;clear a0 a1 a2 a3 a4 a5 a6 a7 b t;have b7:l.cell? ⟨J,0,qa⟩=qc (.bool qb):=(a.o.get 1 rfl).cell 0;have b8:l.cell? ⟨J,1,qa⟩=qc (.slice A3 n3 c3):=(a.o.get 1 rfl).cell 1;have b9:l.cell? ⟨J,2,qa⟩=qc (.int .i64 x3):=(a.o.get 1 rfl).cell 2;have c0:=(a.o.get 1 rfl).lt;have c4:l.cell? ⟨I,0,qa⟩=qc (.bool qb):=(a.o.get 3 rfl).cell 0;have c6:l.cell? ⟨I,1,qa⟩=qc (.slice z D G):=(a.o.get 3 rfl).cell 1;have c7:l.cell? ⟨I,2,qa⟩=qc (.int .i64 H):=(a.o.get 3 rfl).cell 2;have d0:=(a.o.get 3 rfl).lt;go_wp2_with fail;obtain⟨b5,L⟩:=yx (l.heap.size);obtain⟨i0,q⟩:=yx (l.alloc (.cells #[.bool qb,.slice V W c8,.int .i64 Y] 62));have b:qf l.heap.size l i0:=by rw[q];exact(qd _ _).alloc lr _
    have g:=a.o.new 62 [.bool qb,.slice V W c8,.int .i64 Y] L;rw[<- q] at g 
    try rw[<- q]
    try rw[<- L]
    replace a:=vv g;replace f:=vv (f.o.below b);replace u:=vv (u.o.below b);replace O:=vv (O.o.below b);replace Q:=vv (Q.o.below b);clear b7 b8 b9 c0 c4 c6 c7 d0 q b g L;refine(j5.o _ _ _ _ _ _ _ _ _ _ _ f.o u.o (a.o.std a8.o)).mono ?_;rintro e U ⟨A9,n9,c9,N9,x9,rfl,t,b⟩;replace a:=vv (a.o.step b);replace f:=vv (f.o.below b);replace u:=vv (u.o.below b);replace O:=vv (O.o.below b);replace Q:=vv (Q.o.below b);have H9:=vv t;clear b t;have d1:U.cell? ⟨b5,0,qa⟩=qc (.bool qb):=(a.o.get 0 rfl).cell 0;have d2:U.cell? ⟨b5,1,qa⟩=qc (.slice V W c8):=(a.o.get 0 rfl).cell 1;have d3:U.cell? ⟨b5,2,qa⟩=qc (.int .i64 Y):=(a.o.get 0 rfl).cell 2;have d4:=(a.o.get 0 rfl).lt;have i:=vv (a.o.get 5 rfl);go_wp2_with (with_reducible refine q00 rfl 106 (.tmp 6) (.tmp 98) rfl (w.heap.size+1) [.bool qb,.slice V W c8,.int .i64 Y,.bool qb,.slice A9 n9 c9,.int .i64 x9,.bool qi,.bool qb] rfl rfl 106 _ (i.o.alloc _) (by kernel_rfl) rfl rfl ?_);intro S R s;clear i;obtain⟨m4,L⟩:=yx (U.heap.size);obtain⟨i1,q⟩:=yx (U.alloc (.cells #[.bool qb,.slice A9 n9 c9,.int .i64 x9] 62));have b:qf U.heap.size U i1:=by rw[q];exact(qd _ _).alloc lr _
    have g:=a.o.new 62 [.bool qb,.slice A9 n9 c9,.int .i64 x9] L;rw[<- q] at g s
    try rw[<- q]
    try rw[<- L]
    replace a:=vv g;replace Q:=vv (Q.o.below b);replace H9:=vv (H9.o.below b);clear d1 d2 d3 d4 q b g L;have i:=vv (a.o.get 6 rfl);replace a:=vv (a.o.put 6 rfl R s);replace Q:=vv (Q.o.apart_ i.o rfl s);replace H9:=vv (H9.o.apart_ i.o rfl s);clear i R s;go_wp2;have d5:S.cell? ⟨(w.heap.size+1),0,qa⟩=qc (.bool qb):=(a.o.get 6 rfl).cell 0;have d6:S.cell? ⟨(w.heap.size+1),1,qa⟩=qc (.slice V W c8):=(a.o.get 6 rfl).cell 1;have d7:S.cell? ⟨(w.heap.size+1),2,qa⟩=qc (.int .i64 Y):=(a.o.get 6 rfl).cell 2;have d8:S.cell? ⟨(w.heap.size+1),3,qa⟩=qc (.bool qb):=(a.o.get 6 rfl).cell 3;have d9:S.cell? ⟨(w.heap.size+1),4,qa⟩=qc (.slice A9 n9 c9):=(a.o.get 6 rfl).cell 4;have e0:S.cell? ⟨(w.heap.size+1),5,qa⟩=qc (.int .i64 x9):=(a.o.get 6 rfl).cell 5;have e2:S.cell? ⟨(w.heap.size+1),6,qa⟩=qc (.bool qi):=(a.o.get 6 rfl).cell 6;have e3:S.cell? ⟨(w.heap.size+1),7,qa⟩=qc (.bool qb):=(a.o.get 6 rfl).cell 7;exact qg (v:=.tuple #[.agg #[.bool qb,.slice V W c8,.int .i64 Y,.bool qb,.slice A9 n9 c9,.int .i64 x9,.bool qi,.bool qb],.int .i64 0]) (by simp [results,results59,go_sem,d5,d6,d7,d8,d9,e0,e2,e3]) rfl ⟨V,W,c8,N8,Y,A9,n9,c9,N9,x9,rfl,Q.o,H9.o,a.o.low⟩
   focus
    have a9:ed=⟨wv E F m,after E F m,qi,qb⟩:=by rw[f9.o];rfl
    subst a9;have a0:wc.cell? ⟨J,0,qa⟩=qc (.bool qb):=(a.o.get 1 rfl).cell 0;have a1:wc.cell? ⟨J,1,qa⟩=qc (.slice A3 n3 c3):=(a.o.get 1 rfl).cell 1;have a2:wc.cell? ⟨J,2,qa⟩=qc (.int .i64 x3):=(a.o.get 1 rfl).cell 2;have a3:=(a.o.get 1 rfl).lt;have a4:wc.cell? ⟨I,0,qa⟩=qc (.bool qb):=(a.o.get 3 rfl).cell 0;have a5:wc.cell? ⟨I,1,qa⟩=qc (.slice z D G):=(a.o.get 3 rfl).cell 1;have a6:wc.cell? ⟨I,2,qa⟩=qc (.int .i64 H):=(a.o.get 3 rfl).cell 2;have a7:=(a.o.get 3 rfl).lt;have i:=vv (a.o.get 4 rfl);go_wp2_with (with_reducible refine q00 rfl 106 (.tmp 6) (.tmp 70) rfl (w.heap.size+1) [.bool qb,.slice z D G,.int .i64 H,.bool qb,.slice A3 n3 c3,.int .i64 x3,.bool qi,.bool qb] rfl rfl 106 _ i.o (by kernel_rfl) rfl rfl ?_);intro l R s;clear i;have i:=vv (a.o.get 4 rfl);replace a:=vv (a.o.put 4 rfl R s);replace f:=vv (f.o.apart_ i.o rfl s);replace u:=vv (u.o.apart_ i.o rfl s);replace O:=vv (O.o.apart_ i.o rfl s);clear a0 a1 a2 a3 a4 a5 a6 a7 i R s;go_wp2;have e4:l.cell? ⟨(w.heap.size+1),0,qa⟩=qc (.bool qb):=(a.o.get 4 rfl).cell 0;have e5:l.cell? ⟨(w.heap.size+1),1,qa⟩=qc (.slice z D G):=(a.o.get 4 rfl).cell 1;have e6:l.cell? ⟨(w.heap.size+1),2,qa⟩=qc (.int .i64 H):=(a.o.get 4 rfl).cell 2;have e7:l.cell? ⟨(w.heap.size+1),3,qa⟩=qc (.bool qb):=(a.o.get 4 rfl).cell 3;have e8:l.cell? ⟨(w.heap.size+1),4,qa⟩=qc (.slice A3 n3 c3):=(a.o.get 4 rfl).cell 4;have e9:l.cell? ⟨(w.heap.size+1),5,qa⟩=qc (.int .i64 x3):=(a.o.get 4 rfl).cell 5;have f0:l.cell? ⟨(w.heap.size+1),6,qa⟩=qc (.bool qi):=(a.o.get 4 rfl).cell 6;have f1:l.cell? ⟨(w.heap.size+1),7,qa⟩=qc (.bool qb):=(a.o.get 4 rfl).cell 7;exact qg (v:=.tuple #[.agg #[.bool qb,.slice z D G,.int .i64 H,.bool qb,.slice A3 n3 c3,.int .i64 x3,.bool qi,.bool qb],.int .i64 0]) (by simp [results,results59,go_sem,e4,e5,e6,e7,e8,e9,f0,f1]) rfl ⟨z,D,G,N1,H,A3,n3,c3,N3,x3,rfl,f.o,u.o,a.o.low⟩
   focus
    have a9:ed=⟨before E F m,wv E F m,m==0,qi⟩:=by rw[f9.o];rfl
    subst a9;have a0:wc.cell? ⟨(J+1),0,qa⟩=qc (.bool qb):=(a.o.get 0 rfl).cell 0;have a1:wc.cell? ⟨(J+1),1,qa⟩=qc (.slice A5 n5 c5):=(a.o.get 0 rfl).cell 1;have a2:wc.cell? ⟨(J+1),2,qa⟩=qc (.int .i64 x5):=(a.o.get 0 rfl).cell 2;have a3:=(a.o.get 0 rfl).lt;have a4:wc.cell? ⟨I,0,qa⟩=qc (.bool qb):=(a.o.get 3 rfl).cell 0;have a5:wc.cell? ⟨I,1,qa⟩=qc (.slice z D G):=(a.o.get 3 rfl).cell 1;have a6:wc.cell? ⟨I,2,qa⟩=qc (.int .i64 H):=(a.o.get 3 rfl).cell 2;have a7:=(a.o.get 3 rfl).lt;obtain⟨z0,i2⟩:=yx ((m==0));have n6:((m:Int)==0)=z0:=by rw[i2,k2B,k1S,k1S];omega
    have m5:=vv i2;clear i2;have i:=vv (a.o.get 4 rfl);go_wp2_with (with_reducible refine q00 rfl 106 (.tmp 6) (.tmp 77) rfl (w.heap.size+1) [.bool qb,.slice A5 n5 c5,.int .i64 x5,.bool qb,.slice z D G,.int .i64 H,.bool z0,.bool qi] rfl rfl 106 _ i.o (by kernel_rfl) rfl rfl ?_);intro l R s;clear i;have i:=vv (a.o.get 4 rfl);replace a:=vv (a.o.put 4 rfl R s);replace f:=vv (f.o.apart_ i.o rfl s);replace u:=vv (u.o.apart_ i.o rfl s);replace O:=vv (O.o.apart_ i.o rfl s);clear a0 a1 a2 a3 a4 a5 a6 a7 i R s;go_wp2;have e4:l.cell? ⟨(w.heap.size+1),0,qa⟩=qc (.bool qb):=(a.o.get 4 rfl).cell 0;have e5:l.cell? ⟨(w.heap.size+1),1,qa⟩=qc (.slice A5 n5 c5):=(a.o.get 4 rfl).cell 1;have e6:l.cell? ⟨(w.heap.size+1),2,qa⟩=qc (.int .i64 x5):=(a.o.get 4 rfl).cell 2;have e7:l.cell? ⟨(w.heap.size+1),3,qa⟩=qc (.bool qb):=(a.o.get 4 rfl).cell 3;have e8:l.cell? ⟨(w.heap.size+1),4,qa⟩=qc (.slice z D G):=(a.o.get 4 rfl).cell 4;have e9:l.cell? ⟨(w.heap.size+1),5,qa⟩=qc (.int .i64 H):=(a.o.get 4 rfl).cell 5;have f0:l.cell? ⟨(w.heap.size+1),6,qa⟩=qc (.bool z0):=(a.o.get 4 rfl).cell 6;have f1:l.cell? ⟨(w.heap.size+1),7,qa⟩=qc (.bool qi):=(a.o.get 4 rfl).cell 7;exact qg (v:=.tuple #[.agg #[.bool qb,.slice A5 n5 c5,.int .i64 x5,.bool qb,.slice z D G,.int .i64 H,.bool z0,.bool qi],.int .i64 0]) (by simp [results,results59,go_sem,e4,e5,e6,e7,e8,e9,f0,f1]) rfl ⟨A5,n5,c5,N5,x5,z,D,G,N1,H,by rw[m5.o],O.o,f.o,a.o.low⟩
theorem qaC(hk:k<=63)(hb:b<2^(k+1)):(bits .and .u64 (b:Int) ((2^k:Nat):Int)==0)=!qe (2^k<=b):=by
 have c:2^k<=2^63:=k04 (by decide) hk;have d:(2:Nat)^63=9223372036854775808:=rfl;have f:=k0a 2 k;rw[u64_and_nat _ _ (by omega) (by omega)];have g:=k0c k;have a:b.testBit k=qe (2^k<=b):=by
  rw[Nat.testBit_eq_decide_div_mod_eq];by_cases h:2^k<=b
  ·have e:b/2^k=1:=k1A (by omega) (by omega);rw[e,k03 h];rfl
  ·have e:b/2^k=0:=k0N (by omega);rw[e,k00 h];rfl
 have e:b &&& 2^k=if 2^k<=b then 2^k else 0:=by
  refine Nat.eq_of_testBit_eq fun i=>?_
  rw[Nat.testBit_and,k2b];by_cases hi:k=i
  ·subst hi;rw[a];by_cases h:2^k<=b
   ·rw[k0n h,k03 h,k2b];rfl
   ·rw[k0o h,k00 h,Nat.zero_testBit];rfl
  ·rw[k00 hi,Bool.and_false];by_cases h:2^k<=b
   ·rw[k0n h,k2b,k00 hi]
   ·rw[k0o h,Nat.zero_testBit]
 rw[e];by_cases h:2^k<=b
 ·rw[k0n h,k03 h,k2C,k09];omega
 ·rw[k0o h,k00 h];rfl
theorem q6j(hk:k<=63)(hb:b<2^(k+1)):bits .andNot .u64 (b:Int) ((2^k:Nat):Int)=((b%2^k:Nat):Int):=by
 have c:2^k<=2^63:=k04 (by decide) hk;have d:(2:Nat)^63=9223372036854775808:=rfl;have e:=k0a 2 k;rw[u64_andNot_nat _ _ (by omega) (by omega)];congr 1;refine Nat.eq_of_testBit_eq fun i=>?_
 have a:18446744073709551615-2^k=2^64-(2^k+1):=by have:(2:Nat)^64=18446744073709551616:=rfl;omega
 rw[Nat.testBit_and,Nat.testBit_mod_two_pow,a,Nat.testBit_two_pow_sub_succ (by have:(2:Nat)^64=18446744073709551616:=rfl;omega),k2b];rcases k1w i k with h|h|h
 ·rw[k03 h,k03 (p:=i<64) (by omega),k00 (p:=k=i) (by omega)];simp
 ·subst h;simp
 ·have:b.testBit i=qb:=Nat.testBit_lt_two_pow (k02 hb (k04 (by decide) h));rw[this];simp
end Nea
namespace Nea
open Go Go.RowKit R5 Scn Sh Fms Exa Sho Rtp
def qds(s:Span)(w:qk)(e:Ending)(w':qk):Prop:=∃l h:RV,e=.returned (.tuple #[l.v,h.v,.bool s.li,.bool s.hn,.int .i64 0])/\SI w' l h s/\qf w.heap.size w w'
theorem q9V(neg:Bool)(h:mode<=4):Go.Proofs.YtabcgemembkkcaaGreatDoor.Sh.seen mode neg<=3:=by unfold Go.Proofs.YtabcgemembkkcaaGreatDoor.Sh.seen;rcases(by omega:mode=0\/mode=1\/mode=2\/mode=3\/mode=4) with rfl|rfl|rfl|rfl|rfl<;>cases neg<;>decide
theorem q5z(E F b:Nat):q1h E F b/2^F=q0E E F b:=by unfold q1h q0E;rw[k11,k0h,k2o]
theorem q7x(h1:2<=E)(h2:E<=11)(h3:1<=F)(h4:F<=52)(hb:b<2^(1+E+F)):q09 (E:Int) (F:Int) b=0:=by
 have:=q0A hb;have e:R3.formOk (E:Int) (F:Int)=qi:=by unfold R3.formOk;simp only[k0T,k0C];omega
 unfold q09;rw[e,k0n rfl,k0o (by omega)]
theorem qax{x f:Nat}(h:x≠2^E-1):q1J E x f<=3:=by
 unfold q1J;rw[k0o (c:=x=R3.tw E-1) h];split
 ·split<;>decide
 ·decide
theorem Qb.dq{K:Nat}{p:Int}(h1:bl K+p.toNat+1<=B)(h2:(-p).toNat+1<=B):Qb B (Sh.dq K p):=by rw[qbM];refine Qb.mk (Nat.ne_of_gt (q0L _)) ?_ (k06 (Hx.bl_p2 _) h2);rw[k05];exact k06 (k06 (q1W _ _) (Nat.add_le_add_left (Hx.bl_p2 _) _)) (by omega)
theorem q5M(mode:Nat)(h1:2<=E)(h2:E<=11)(h4:F<=52)(hm:m<2^(E+F)):Qb 2200 (q0T E F m mode).inner/\Qb 2200 (q0T E F m mode).outer/\Qb 2200 (wv E F m):=by
 obtain⟨l,n⟩:=q4y h1 h2 h4 hm;have g:=q8I (F:=F) (m:=m) h4;have k:bl (mgN F m+1)<=55:=q2E (mgN F m) 1 54 g (by decide);have a:Qb 2200 (wv E F m):=Qb.dq (by omega) (by omega);have i:Qb 2200 (after E F m):=by rw[q4a];exact Qb.dq (by omega) (by omega)
 have o:bl (2*mgN F m+1)<=60:=by have h1:=q1W 2 (mgN F m);have h2:bl 2=2:=rfl;have:=q2E (2*mgN F m) 1 57 (by omega) (by decide);omega
 have d:Qb 2200 ((wv E F m+after E F m)/2):=by rw[q2H,q42];exact Qb.dq (by omega) (by omega)
 have b:Qb 2200 (before E F m)/\Qb 2200 ((before E F m+wv E F m)/2):=by
  rcases k01 m with h|h
  ·have e:before E F m=wv E F m:=by unfold before;rw[k0n h]
   have c:(wv E F m+wv E F m)/2=wv E F m:=by grind
   rw[e,c];exact⟨a,a⟩
  ·obtain⟨K,p,f,c,q,j⟩:=q1S E F m h;have r:bl K<=54:=by have:=q0A c;omega
   refine⟨by rw[f];exact Qb.dq (by omega) (by omega),?_⟩;have:before E F m+wv E F m=dq (2*K+1) p:=by rw[j,f,q8m,<- q26,<- q26];congr 1;omega
   rw[this,q42];refine Qb.dq ?_ (by omega);have h1:=q1W 2 K;have h2:bl 2=2:=rfl;have:=q2E (2*K) 1 57 (by omega) (by decide);omega
 unfold q0T;split
 ·exact⟨a,i,a⟩
 ·split
  ·exact⟨b.1,a,a⟩
  ·split
   ·exact⟨b.2,d,a⟩
   ·exact⟨b.2,d,a⟩
theorem q8z(h1:2<=E)(h2:E<=11)(h4:F<=52):Qb 2200 (q0R E F b mode).lo/\Qb 2200 (q0R E F b mode).hi/\Qb 2200 (q4J E F b):=by
 obtain⟨a,d,c⟩:=q5M (E:=E) (F:=F) (m:=q1h E F b) (Go.Proofs.YtabcgemembkkcaaGreatDoor.Sh.seen mode (q1V E F b)) h1 h2 h4 (k0j _ (k0c _));unfold q0R q4J;cases h:q1V E F b<;>rw[h] at a d
 ·exact⟨a,d,c⟩
 ·exact⟨d.neg,a.neg,c.neg⟩
theorem q9C(E F b mode:Nat)(w:qk)(h1:2<=E)(h2:E<=11)(h3:1<=F)(h4:F<=52)(hb:b<2^(1+E+F))(hf:q0E E F b≠2^E-1)(hmo:mode<=4)(hst:Std w):qj qh 22 #[fm E F,.int .u64 (b:Int),.int .u8 (mode:Int)] w (qds (q0R E F b mode) w):=by
 obtain⟨w0,f1⟩:=yx (((w.alloc (.cells #[.int .i64 (E:Int),.int .i64 (F:Int)] 23)).alloc (.cells #[.bool qb,.slice qa 0 0,.slice qa 0 0] 39)).alloc (.cells #[.bool qb,.slice qa 0 0,.slice qa 0 0] 39));have z:Cx w [(w.heap.size+1+1,39,[.bool qb,.slice qa 0 0,.slice qa 0 0]),(w.heap.size+1,39,[.bool qb,.slice qa 0 0,.slice qa 0 0]),(w.heap.size,23,[.int .i64 (E:Int),.int .i64 (F:Int)])] w0:=by rw[f1];exact(((Cx.nil w).new _ [_,_] rfl).new _ [_,_,_] (by simp)).new _ [_,_,_] (by simp)
 have b9:b<18446744073709551616:=k02 hb (k04 (by decide) (show 1+E+F<=64 by omega));have f5:q09 (E:Int) (F:Int) b=0:=q7x h1 h2 h3 h4 hb;have m6:q1J E (q0E E F b) (q0W F b)<=3:=qax hf;have f6:∀w,qj qh 64 #[fm E F,.int .u64 (b:Int)] w fun e w'=>e=.returned (.tuple #[.int .u8 ((q1J E (q0E E F b) (q0W F b):Nat):Int),.int .i64 0])/\qf w.heap.size w w':=fun w=>qaI E F b w h1 h2 h3 h4 hb
 have m7:=vv fun g w' (k:One w' g b)=>q29 E F b g w' k f5 _ (k09.2 (by omega)) (by omega) f6 b9
 have m8:=vv fun g w' (k:One w' g b)=>q7y E F b g w' k f5 _ (k00 (by omega)) (by omega) f6 b9
 have f2:=vv fun w'=>qcl E F w' h2 h4
 have hm:q1h E F b<2^(E+F):=k0j _ (k0c _);have f7:b<2^(E+F+1):=by rw[show E+F+1=1+E+F by omega];exact hb
 have ha:=qaC (b:=b) (k:=E+F) (by omega) f7;have hn:=q6j (b:=b) (k:=E+F) (by omega) f7;have c7:Hid (∀w',qj qh 60 #[.int .u8 (mode:Int),.bool (q1V E F b)] w' fun e w''=>e=.returned (.int .u8 ((Go.Proofs.YtabcgemembkkcaaGreatDoor.Sh.seen mode (q1V E F b):Nat):Int))/\qf w'.heap.size w' w''):=vv fun w'=>(qcm mode (q1V E F b) w' hmo).mono fun e w'' ⟨k1,k2⟩=>⟨k1,k2 ▸ qd _ _⟩
 have c0:=vv fun w' (hst:Std w')=>qbg E F (q1h E F b) (Go.Proofs.YtabcgemembkkcaaGreatDoor.Sh.seen mode (q1V E F b)) w' h1 h2 h3 h4 hm (by rw[q5z];exact hf) (q9V _ hmo) hst
 have l4:Hid (∀A n c N x q w',DQ w' A n c N x q->qj qh 25 #[q14 qb A n c x] w' (RvP q w')):=vv fun A n c N x q w' k=>(q9D qb A n c N x q w' k (fun e=>absurd e (by decide))).mono fun e w'' h=>RvP.of h
 have hq:=q5M (E:=E) (F:=F) (m:=q1h E F b) (Go.Proofs.YtabcgemembkkcaaGreatDoor.Sh.seen mode (q1V E F b)) h1 h2 h4 hm;obtain⟨ng,c8⟩:=yx (q1V E F b);have d2:qe (2^(E+F)<=b)=ng:=c8.symm;rw[d2] at ha;obtain⟨m,f8⟩:∃y,y=q1h E F b:=⟨_,rfl⟩;have l5:b%2^(E+F)=m:=f8.symm;rw[l5] at hn;obtain⟨PW,l6⟩:=yx (2^(E+F));rw[<- l6] at ha hn f2;have l7:(bits .and .u64 (b:Int) (PW:Int) != 0)=ng:=by unfold bne;rw[ha,Bool.not_not]
 obtain⟨p,f3⟩:=yx (q0T E F (q1h E F b) (Go.Proofs.YtabcgemembkkcaaGreatDoor.Sh.seen mode (q1V E F b)));have f9:q0R E F b mode=if ng then⟨-p.outer,-p.inner,p.oi,p.ii⟩ else⟨p.inner,p.outer,p.ii,p.oi⟩:=by unfold q0R;rw[c8,f3]
 rw[<- f3,<- f8,<- c8] at c0;rw[<- f3] at hq;rw[<- c8] at c7;obtain⟨sm,l8⟩:=yx (Go.Proofs.YtabcgemembkkcaaGreatDoor.Sh.seen mode ng);rw[<- l8] at c0 c7;have l9:Hid (∀r q w',q=p.inner\/q=p.outer->RI w' r q->Std w'->qj qh 61 #[r.v] w' (RvP (-q) w')):=vv fun r q w' h k hs=>qc7 r q w' k (h.elim (fun e=>by rw[e];exact hq.1.mono (by decide)) (fun e=>by rw[e];exact hq.2.1.mono (by decide))) hs
 obtain⟨sp,m0⟩:=yx (q0R E F b mode);rw[<- m0] at f9 ⊢;have b8:=vv f9;have o8:qe ((4:Int)<(mode:Int))=qb:=k00 (by omega);have c3:=vv hst;have a:=vv z;have HW:=vv f1;have m9:Hid (w.heap.size+1+1+1=w0.heap.size):=vv (by rw[f1];simp);clear f1 z hst f5 m6 f6 hm f7 c8 d2 f8 l5 l6 f3 f9 l8 hb hf hmo b9 hq m0;have n0:w0.cell? ⟨w.heap.size,0,qa⟩=qc (.int .i64 (E:Int)):=(a.o.get 2 rfl).cell 0;have n3:w0.cell? ⟨w.heap.size,1,qa⟩=qc (.int .i64 (F:Int)):=(a.o.get 2 rfl).cell 1;have n4:=(a.o.get 2 rfl).lt;go_enter func22,ntmps22;go_wp2_with fail;rw[<- HW.o,m9.o];obtain⟨g6,a3⟩:=yx (w0.heap.size);obtain⟨w5,W⟩:=yx (w0.alloc (.cells #[.int .u64 (b:Int)] 24));have f:qf w0.heap.size w0 w5:=by rw[W];exact(qd _ _).alloc lr _
 have z:=a.o.new 24 [.int .u64 (b:Int)] a3;rw[<- W] at z 
 try rw[<- W]
 try rw[<- a3]
 replace a:=vv z;clear n0 n3 n4 W f z a3;refine(m7.o _ _ ⟨(a.o.get 0 rfl).cell 0,(a.o.get 0 rfl).lt⟩).mono ?_;rintro e w4 ⟨rfl,f⟩;replace a:=vv (a.o.step f);clear f;have n5:w4.cell? ⟨w.heap.size,0,qa⟩=qc (.int .i64 (E:Int)):=(a.o.get 3 rfl).cell 0;have n6:w4.cell? ⟨w.heap.size,1,qa⟩=qc (.int .i64 (F:Int)):=(a.o.get 3 rfl).cell 1;have n7:=(a.o.get 3 rfl).lt;go_wp2_with fail;obtain⟨n8,a3⟩:=yx (w4.heap.size);obtain⟨n9,W⟩:=yx (w4.alloc (.cells #[.int .u64 (b:Int)] 24));have f:qf w4.heap.size w4 n9:=by rw[W];exact(qd _ _).alloc lr _
 have z:=a.o.new 24 [.int .u64 (b:Int)] a3;rw[<- W] at z 
 try rw[<- W]
 try rw[<- a3]
 replace a:=vv z;clear n5 n6 n7 W f z a3;refine(m8.o _ _ ⟨(a.o.get 0 rfl).cell 0,(a.o.get 0 rfl).lt⟩).mono ?_;rintro e m1 ⟨rfl,f⟩;replace a:=vv (a.o.step f);clear f;have g1:m1.cell? ⟨w.heap.size,0,qa⟩=qc (.int .i64 (E:Int)):=(a.o.get 4 rfl).cell 0;have g2:m1.cell? ⟨w.heap.size,1,qa⟩=qc (.int .i64 (F:Int)):=(a.o.get 4 rfl).cell 1;have g3:=(a.o.get 4 rfl).lt;go_wp2_with fail;refine(f2.o _).mono ?_;rintro e c9 ⟨rfl,f⟩;replace a:=vv (a.o.step f);clear g1 g2 g3 f;go_upto_region 9 with fail
 try rw[l7]
 clear ha l7;go_cut [10,12] (fun s10 s12 wx=>∃(i:Nat) (O:Option Addr) (P Q N1:Nat) (R:Int) (S:Option Addr) (T U N2:Nat) (V:Int),s10=.int .i64 0/\s12=.pointer (qc ⟨i,0,qa⟩)/\Cx w [(i,106,[.bool qb,.slice O P Q,.int .i64 R,.bool qb,.slice S T U,.int .i64 V,.bool p.ii,.bool p.oi]),(n8,24,[.int .u64 (b:Int)]),(g6,24,[.int .u64 (b:Int)]),(w.heap.size+1+1,39,[.bool qb,.slice qa 0 0,.slice qa 0 0]),(w.heap.size+1,39,[.bool qb,.slice qa 0 0,.slice qa 0 0]),(w.heap.size,23,[.int .i64 (E:Int),.int .i64 (F:Int)])] wx/\DQ wx O P Q N1 R p.inner/\DQ wx S T U N2 V p.outer)
 case first =>
  go_wp2_with fail;have b0:c9.cell? ⟨w.heap.size,0,qa⟩=qc (.int .i64 (E:Int)):=(a.o.get 4 rfl).cell 0;have b1:c9.cell? ⟨w.heap.size,1,qa⟩=qc (.int .i64 (F:Int)):=(a.o.get 4 rfl).cell 1;have g4:=(a.o.get 4 rfl).lt;refine q02 (fun w'=>w'.cell? ⟨w.heap.size,0,qa⟩=qc (.int .i64 (E:Int))/\w'.cell? ⟨w.heap.size,1,qa⟩=qc (.int .i64 (F:Int))) 14
   (.still 0 (.still 1 (.still 2 (.still 5 (.still 6 (.two 3 (.still 4 (.two 7 (.two 8 (.still 9 (.still 10 (.still 11 (.one 12 (.one 13 .done))))) 12 (.one 8 (.still 9 (.still 10 (.still 11 (.one 13 .done)))))) 12 (.one 7 (.one 8 (.still 9 (.still 10 (.still 11 (.one 13 .done)))))))) 12 (.one 3 (.still 4 (.one 7 (.one 8 (.still 9 (.still 10 (.still 11 (.one 13 .done)))))))))))))) (by kernel_rfl) (by kernel_rfl) (fun _ _ d _ _ h=>by cases d<;>exact h) ⟨b0,b1⟩ (fun hS0=>?_)
  iterate 5
   refine q01 (v:=?_) rfl (by rfl) ?_ ?_;rotate_left
   ·intro w a7;go_simp;with_reducible rfl
   simp only[Act.put,sa,sb,sc]
  clear g4 b0 b1;obtain⟨c4,a4⟩:=yx (c9.drew);have f:qf c9.heap.size c9 c4:=by rw[a4];exact q05 (qd _ _)
  replace a:=vv (a.o.step f);rw[<- a4] at hS0 ⊢;clear a4 f;refine q0C rfl (by rfl) rfl (by rfl) (fun K hK=>?_) (fun K hK=>?_)
  focus
   go_simp;refine(f2.o c4).mono ?_;rintro e d0 ⟨rfl,f⟩;replace a:=vv (a.o.step f);clear f;go_wp2_with fail;refine hK.out _ _ ⟨(a.o.get 4 rfl).cell 0,(a.o.get 4 rfl).cell 1⟩ (fun I=>?_);clear hK
   iterate 1
    refine q01 (v:=?_) rfl (by rfl) ?_ ?_;rotate_left
    ·intro w a7;go_simp;with_reducible rfl
    simp only[Act.put,sa,sb,sc]
   refine q0C rfl (by rfl) rfl (by rfl) (fun K hK=>?_) (fun K hK=>?_)
   focus
    go_simp;refine(c7.o d0).mono ?_;rintro e d1 ⟨rfl,f⟩;replace a:=vv (a.o.step f);clear f;go_wp2_with fail;refine hK.out _ _ ⟨(a.o.get 4 rfl).cell 0,(a.o.get 4 rfl).cell 1⟩ (fun I=>?_);clear hK;refine q0C rfl (by rfl) rfl (by rfl) (fun K hK=>?_) (fun K hK=>?_)
    focus
     go_simp;refine(c0.o d1 (a.o.std c3.o)).mono ?_;rintro e f4 ⟨O,P,Q,N1,R,S,T,U,N2,V,rfl,Z,a0,f⟩;replace a:=vv (a.o.step f);have H1:=vv Z;have L:=vv a0;clear f Z a0;go_wp2_with fail;refine hK.out _ _ ⟨(a.o.get 4 rfl).cell 0,(a.o.get 4 rfl).cell 1⟩ (fun I=>?_);clear hK
     iterate 3
      refine q01 (v:=?_) rfl (by rfl) ?_ ?_;rotate_left
      ·intro w a7;go_simp;with_reducible rfl
      simp only[Act.put,sa,sb,sc]
     refine q03 rfl (by rfl) (fun K hK=>?_);go_simp;obtain⟨i,M⟩:=yx (f4.heap.size);obtain⟨m2,H⟩:=yx (f4.alloc (.cells #[.bool qb,.slice qa 0 0,.int .i64 0,.bool qb,.slice qa 0 0,.int .i64 0,.bool qb,.bool qb] 106));have f:qf f4.heap.size f4 m2:=by rw[H];exact(qd _ _).alloc lr _
     have z:=a.o.new 106 [.bool qb,.slice qa 0 0,.int .i64 0,.bool qb,.slice qa 0 0,.int .i64 0,.bool qb,.bool qb] M;rw[<- H] at z
     try rw[<- H]
     try rw[<- M]
     replace a:=vv z;replace H1:=vv (H1.o.below f);replace L:=vv (L.o.below f);clear f z H M;refine hK.out _ _ ⟨(a.o.get 5 rfl).cell 0,(a.o.get 5 rfl).cell 1⟩ (fun I=>?_);clear hK;obtain⟨wz,hz⟩:=yx (m2);subst hz
    rotate_left 1
    focus
     go_simp;obtain⟨i,M⟩:=yx (d1.heap.size);obtain⟨m3,H⟩:=yx (d1.alloc (.cells #[.bool qb,.slice qa 0 0,.int .i64 0,.bool qb,.slice qa 0 0,.int .i64 0,.bool qb,.bool qb] 106));have f:qf d1.heap.size d1 m3:=by rw[H];exact(qd _ _).alloc lr _
     have z:=a.o.new 106 [.bool qb,.slice qa 0 0,.int .i64 0,.bool qb,.slice qa 0 0,.int .i64 0,.bool qb,.bool qb] M;rw[<- H] at z
     try rw[<- H]
     try rw[<- M]
     replace a:=vv z;clear f z H M;refine hK.out _ _ ⟨(a.o.get 5 rfl).cell 0,(a.o.get 5 rfl).cell 1⟩ (fun I=>?_);clear hK;refine q03 rfl (by rfl) (fun K hK=>?_);go_simp;refine(c0.o m3 (a.o.std c3.o)).mono ?_;rintro e a1 ⟨O,P,Q,N1,R,S,T,U,N2,V,rfl,Z,a0,f⟩;replace a:=vv (a.o.step f);have H1:=vv Z;have L:=vv a0;clear f Z a0;go_wp2_with fail;refine hK.out _ _ ⟨(a.o.get 5 rfl).cell 0,(a.o.get 5 rfl).cell 1⟩ (fun I=>?_);clear hK
     iterate 3
      refine q01 (v:=?_) rfl (by rfl) ?_ ?_;rotate_left
      ·intro w a7;go_simp;with_reducible rfl
      simp only[Act.put,sa,sb,sc]
     obtain⟨wz,hz⟩:=yx (a1);subst hz
   rotate_left 2
   focus
    go_simp;obtain⟨i,M⟩:=yx (d0.heap.size);obtain⟨m4,H⟩:=yx (d0.alloc (.cells #[.bool qb,.slice qa 0 0,.int .i64 0,.bool qb,.slice qa 0 0,.int .i64 0,.bool qb,.bool qb] 106));have f:qf d0.heap.size d0 m4:=by rw[H];exact(qd _ _).alloc lr _
    have z:=a.o.new 106 [.bool qb,.slice qa 0 0,.int .i64 0,.bool qb,.slice qa 0 0,.int .i64 0,.bool qb,.bool qb] M;rw[<- H] at z
    try rw[<- H]
    try rw[<- M]
    replace a:=vv z;clear f z H M;refine hK.out _ _ ⟨(a.o.get 5 rfl).cell 0,(a.o.get 5 rfl).cell 1⟩ (fun I=>?_);clear hK;refine q03 rfl (by rfl) (fun K hK=>?_);go_simp;refine(c7.o m4).mono ?_;rintro e o0 ⟨rfl,f⟩;replace a:=vv (a.o.step f);clear f;go_wp2_with fail;refine hK.out _ _ ⟨(a.o.get 5 rfl).cell 0,(a.o.get 5 rfl).cell 1⟩ (fun I=>?_);clear hK;refine q03 rfl (by rfl) (fun K hK=>?_);go_simp;refine(c0.o o0 (a.o.std c3.o)).mono ?_;rintro e o1 ⟨O,P,Q,N1,R,S,T,U,N2,V,rfl,Z,a0,f⟩;replace a:=vv (a.o.step f);have H1:=vv Z;have L:=vv a0;clear f Z a0;go_wp2_with fail;refine hK.out _ _ ⟨(a.o.get 5 rfl).cell 0,(a.o.get 5 rfl).cell 1⟩ (fun I=>?_);clear hK
    iterate 3
     refine q01 (v:=?_) rfl (by rfl) ?_ ?_;rotate_left
     ·intro w a7;go_simp;with_reducible rfl
     simp only[Act.put,sa,sb,sc]
    obtain⟨wz,hz⟩:=yx (o1);subst hz
  rotate_left 3
  focus
   go_simp;obtain⟨i,M⟩:=yx (c4.heap.size);obtain⟨m5,H⟩:=yx (c4.alloc (.cells #[.bool qb,.slice qa 0 0,.int .i64 0,.bool qb,.slice qa 0 0,.int .i64 0,.bool qb,.bool qb] 106));have f:qf c4.heap.size c4 m5:=by rw[H];exact(qd _ _).alloc lr _
   have z:=a.o.new 106 [.bool qb,.slice qa 0 0,.int .i64 0,.bool qb,.slice qa 0 0,.int .i64 0,.bool qb,.bool qb] M;rw[<- H] at z
   try rw[<- H]
   try rw[<- M]
   replace a:=vv z;clear f z H M;refine hK.out _ _ ⟨(a.o.get 5 rfl).cell 0,(a.o.get 5 rfl).cell 1⟩ (fun I=>?_);clear hK;refine q03 rfl (by rfl) (fun K hK=>?_);go_simp;refine(f2.o m5).mono ?_;rintro e o2 ⟨rfl,f⟩;replace a:=vv (a.o.step f);clear f;go_wp2_with fail;refine hK.out _ _ ⟨(a.o.get 5 rfl).cell 0,(a.o.get 5 rfl).cell 1⟩ (fun I=>?_);clear hK
   iterate 1
    refine q01 (v:=?_) rfl (by rfl) ?_ ?_;rotate_left
    ·intro w a7;go_simp;with_reducible rfl
    simp only[Act.put,sa,sb,sc]
   refine q03 rfl (by rfl) (fun K hK=>?_);go_simp;refine(c7.o o2).mono ?_;rintro e o3 ⟨rfl,f⟩;replace a:=vv (a.o.step f);clear f;go_wp2_with fail;refine hK.out _ _ ⟨(a.o.get 5 rfl).cell 0,(a.o.get 5 rfl).cell 1⟩ (fun I=>?_);clear hK;refine q03 rfl (by rfl) (fun K hK=>?_);go_simp;refine(c0.o o3 (a.o.std c3.o)).mono ?_;rintro e o4 ⟨O,P,Q,N1,R,S,T,U,N2,V,rfl,Z,a0,f⟩;replace a:=vv (a.o.step f);have H1:=vv Z;have L:=vv a0;clear f Z a0;go_wp2_with fail;refine hK.out _ _ ⟨(a.o.get 5 rfl).cell 0,(a.o.get 5 rfl).cell 1⟩ (fun I=>?_);clear hK
   iterate 3
    refine q01 (v:=?_) rfl (by rfl) ?_ ?_;rotate_left
    ·intro w a7;go_simp;with_reducible rfl
    simp only[Act.put,sa,sb,sc]
   obtain⟨wz,hz⟩:=yx (o4);subst hz
  all_goals
   refine q03 rfl (by rfl) (fun K hK=>?_);have j:=vv (a.o.get 0 rfl)
   with_reducible refine q0u 106 (.tmp 12) (.tmp 53) rfl i [.bool qb,.slice O P Q,.int .i64 R,.bool qb,.slice S T U,.int .i64 V,.bool p.ii,.bool p.oi] rfl rfl 106 _ j.o (by kernel_rfl) rfl rfl ?_
   intro o9 C s;replace a:=vv (a.o.put 0 rfl C s);replace H1:=vv (H1.o.apart_ j.o rfl s);replace L:=vv (L.o.apart_ j.o rfl s);clear j C s;refine hK.out _ _ ⟨(a.o.get 5 rfl).cell 0,(a.o.get 5 rfl).cell 1⟩ (fun I=>?_);clear hK;refine q07 ?_;simp only[k0H,k0M];go_wp2_with fail;go_meet;exact⟨i,O,P,Q,N1,R,S,T,U,N2,V,rfl,rfl,a.o,H1.o,L.o⟩
 case rest =>
  obtain⟨i,O,P,Q,N1,R,S,T,U,N2,V,rfl,rfl,z,Z,a0⟩:=hcut;replace a:=vv z;have H1:=vv Z;have L:=vv a0;clear z Z a0;have b0:wc.cell? ⟨i,0,qa⟩=qc (.bool qb):=(a.o.get 0 rfl).cell 0;have b1:wc.cell? ⟨i,1,qa⟩=qc (.slice O P Q):=(a.o.get 0 rfl).cell 1;have g5:wc.cell? ⟨i,2,qa⟩=qc (.int .i64 R):=(a.o.get 0 rfl).cell 2;have g7:wc.cell? ⟨i,3,qa⟩=qc (.bool qb):=(a.o.get 0 rfl).cell 3;have g8:wc.cell? ⟨i,4,qa⟩=qc (.slice S T U):=(a.o.get 0 rfl).cell 4;have g9:wc.cell? ⟨i,5,qa⟩=qc (.int .i64 V):=(a.o.get 0 rfl).cell 5;have i0:wc.cell? ⟨i,6,qa⟩=qc (.bool p.ii):=(a.o.get 0 rfl).cell 6;have i1:wc.cell? ⟨i,7,qa⟩=qc (.bool p.oi):=(a.o.get 0 rfl).cell 7;have i2:=(a.o.get 0 rfl).lt;go_wp2_with fail;refine(l4.o _ _ _ _ _ _ _ H1.o).mono ?_;rintro e a1 ⟨l,rfl,hI,f⟩;replace a:=vv (a.o.step f);replace H1:=vv (H1.o.below f);replace L:=vv (L.o.below f);have G:=vv hI;clear b0 b1 g5 g7 g8 g9 i0 i1 i2 f hI;have i3:a1.cell? ⟨i,0,qa⟩=qc (.bool qb):=(a.o.get 0 rfl).cell 0;have i4:a1.cell? ⟨i,1,qa⟩=qc (.slice O P Q):=(a.o.get 0 rfl).cell 1;have i5:a1.cell? ⟨i,2,qa⟩=qc (.int .i64 R):=(a.o.get 0 rfl).cell 2;have i6:a1.cell? ⟨i,3,qa⟩=qc (.bool qb):=(a.o.get 0 rfl).cell 3;have i7:a1.cell? ⟨i,4,qa⟩=qc (.slice S T U):=(a.o.get 0 rfl).cell 4;have i8:a1.cell? ⟨i,5,qa⟩=qc (.int .i64 V):=(a.o.get 0 rfl).cell 5;have i9:a1.cell? ⟨i,6,qa⟩=qc (.bool p.ii):=(a.o.get 0 rfl).cell 6;have j0:a1.cell? ⟨i,7,qa⟩=qc (.bool p.oi):=(a.o.get 0 rfl).cell 7;have j1:=(a.o.get 0 rfl).lt;go_wp2_with fail;obtain⟨a8,a3⟩:=yx (a1.heap.size);obtain⟨o5,W⟩:=yx (a1.alloc (.cells #[.bool l.b,.slice l.X l.n l.c,.slice l.Y l.m l.d] 39));have f:qf a1.heap.size a1 o5:=by rw[W];exact(qd _ _).alloc lr _
  have z:=a.o.new 39 [.bool l.b,.slice l.X l.n l.c,.slice l.Y l.m l.d] a3;rw[<- W] at z 
  try rw[<- W]
  try rw[<- a3]
  replace a:=vv z;replace L:=vv (L.o.below f);replace G:=vv (G.o.below f);clear i3 i4 i5 i6 i7 i8 i9 j0 j1 W f z a3;refine(l4.o _ _ _ _ _ _ _ L.o).mono ?_;rintro e p0 ⟨h,rfl,hI,f⟩;replace a:=vv (a.o.step f);replace L:=vv (L.o.below f);replace G:=vv (G.o.below f);have HH:=vv hI;clear f hI;have j:=vv (a.o.get 4 rfl);go_wp2_with (with_reducible refine q00 rfl 39 (.tmp 7) (.tmp 72) rfl (w.heap.size+1+1) [.bool h.b,.slice h.X h.n h.c,.slice h.Y h.m h.d] rfl rfl 39 _ j.o (by kernel_rfl) rfl rfl ?_);intro D C s;clear j;have j:=vv (a.o.get 4 rfl);replace a:=vv (a.o.put 4 rfl C s);replace G:=vv (G.o.apart_ j.o rfl s);replace HH:=vv (HH.o.apart_ j.o rfl s);clear j C s;go_upto_if 80 with fail;cases ng
  case false =>
   replace b8:Hid (sp=⟨p.inner,p.outer,p.ii,p.oi⟩):=b8;go_wp2_with fail;have b2:D.cell? ⟨a8,0,qa⟩=qc (.bool l.b):=(a.o.get 0 rfl).cell 0;have b3:D.cell? ⟨a8,1,qa⟩=qc (.slice l.X l.n l.c):=(a.o.get 0 rfl).cell 1;have b4:D.cell? ⟨a8,2,qa⟩=qc (.slice l.Y l.m l.d):=(a.o.get 0 rfl).cell 2;have d3:D.cell? ⟨(w.heap.size+1+1),0,qa⟩=qc (.bool h.b):=(a.o.get 4 rfl).cell 0;have d4:D.cell? ⟨(w.heap.size+1+1),1,qa⟩=qc (.slice h.X h.n h.c):=(a.o.get 4 rfl).cell 1;have d5:D.cell? ⟨(w.heap.size+1+1),2,qa⟩=qc (.slice h.Y h.m h.d):=(a.o.get 4 rfl).cell 2;have b5:D.cell? ⟨i,0,qa⟩=qc (.bool qb):=(a.o.get 1 rfl).cell 0;have b6:D.cell? ⟨i,1,qa⟩=qc (.slice O P Q):=(a.o.get 1 rfl).cell 1;have b7:D.cell? ⟨i,2,qa⟩=qc (.int .i64 R):=(a.o.get 1 rfl).cell 2;have d6:D.cell? ⟨i,3,qa⟩=qc (.bool qb):=(a.o.get 1 rfl).cell 3;have d7:D.cell? ⟨i,4,qa⟩=qc (.slice S T U):=(a.o.get 1 rfl).cell 4;have d8:D.cell? ⟨i,5,qa⟩=qc (.int .i64 V):=(a.o.get 1 rfl).cell 5;have a5:D.cell? ⟨i,6,qa⟩=qc (.bool p.ii):=(a.o.get 1 rfl).cell 6;have a6:D.cell? ⟨i,7,qa⟩=qc (.bool p.oi):=(a.o.get 1 rfl).cell 7;have j2:=(a.o.get 0 rfl).lt;have j3:=(a.o.get 4 rfl).lt;have j4:=(a.o.get 1 rfl).lt;refine q02 (fun w'=>w'.cell? ⟨a8,0,qa⟩=qc (.bool l.b)/\w'.cell? ⟨a8,1,qa⟩=qc (.slice l.X l.n l.c)/\w'.cell? ⟨a8,2,qa⟩=qc (.slice l.Y l.m l.d)/\w'.cell? ⟨(w.heap.size+1+1),0,qa⟩=qc (.bool h.b)/\w'.cell? ⟨(w.heap.size+1+1),1,qa⟩=qc (.slice h.X h.n h.c)/\w'.cell? ⟨(w.heap.size+1+1),2,qa⟩=qc (.slice h.Y h.m h.d)/\w'.cell? ⟨i,0,qa⟩=qc (.bool qb)/\w'.cell? ⟨i,1,qa⟩=qc (.slice O P Q)/\w'.cell? ⟨i,2,qa⟩=qc (.int .i64 R)/\w'.cell? ⟨i,3,qa⟩=qc (.bool qb)/\w'.cell? ⟨i,4,qa⟩=qc (.slice S T U)/\w'.cell? ⟨i,5,qa⟩=qc (.int .i64 V)/\w'.cell? ⟨i,6,qa⟩=qc (.bool p.ii)/\w'.cell? ⟨i,7,qa⟩=qc (.bool p.oi)) 11
    (.still 0 (.still 1 (.still 2 (.still 3 (.still 4 (.still 5 (.one 6 (.one 7 (.still 8 (.still 9 (.still 10 .done))))))))))) (by kernel_rfl) (by kernel_rfl) (fun _ _ d _ _ h=>by cases d<;>exact h) ⟨b2,b3,b4,d3,d4,d5,b5,b6,b7,d6,d7,d8,a5,a6⟩ (fun hS0=>?_)
   iterate 6
    refine q01 (v:=?_) rfl (by rfl) ?_ ?_;rotate_left
    ·intro w a7;go_simp;with_reducible rfl
    simp only[Act.put,sa,sb,sc]
   clear j2 j3 j4 b2 b3 b4 d3 d4 d5 b5 b6 b7 d6 d7 d8 a5 a6;obtain⟨o6,a4⟩:=yx (D.drew);have f:qf D.heap.size D o6:=by rw[a4];exact q05 (qd _ _)
   replace a:=vv (a.o.step f);replace G:=vv (G.o.below f);replace HH:=vv (HH.o.below f);rw[<- a4] at hS0 ⊢;clear a4 f;refine q03 rfl (by rfl) (fun K hK=>?_);have j:=vv (a.o.get 5 rfl)
   with_reducible refine q0u 39 (.tmp 6) (.tmp 81) rfl (w.heap.size+1) [.bool l.b,.slice l.X l.n l.c,.slice l.Y l.m l.d] rfl rfl 39 _ j.o (by kernel_rfl) rfl rfl ?_
   intro p1 C s;replace a:=vv (a.o.put 5 rfl C s);replace G:=vv (G.o.apart_ j.o rfl s);replace HH:=vv (HH.o.apart_ j.o rfl s);clear j C s;refine hK.out _ _ ⟨(a.o.get 0 rfl).cell 0,(a.o.get 0 rfl).cell 1,(a.o.get 0 rfl).cell 2,(a.o.get 4 rfl).cell 0,(a.o.get 4 rfl).cell 1,(a.o.get 4 rfl).cell 2,(a.o.get 1 rfl).cell 0,(a.o.get 1 rfl).cell 1,(a.o.get 1 rfl).cell 2,(a.o.get 1 rfl).cell 3,(a.o.get 1 rfl).cell 4,(a.o.get 1 rfl).cell 5,(a.o.get 1 rfl).cell 6,(a.o.get 1 rfl).cell 7⟩ (fun I=>?_);clear hK;refine q03 rfl (by rfl) (fun K hK=>?_);have j:=vv (a.o.get 4 rfl)
   with_reducible refine q0u 39 (.tmp 7) (.tmp 82) rfl (w.heap.size+1+1) [.bool h.b,.slice h.X h.n h.c,.slice h.Y h.m h.d] rfl rfl 39 _ j.o (by kernel_rfl) rfl rfl ?_
   intro c5 C s;replace a:=vv (a.o.put 4 rfl C s);replace G:=vv (G.o.apart_ j.o rfl s);replace HH:=vv (HH.o.apart_ j.o rfl s);clear j C s;refine hK.out _ _ ⟨(a.o.get 0 rfl).cell 0,(a.o.get 0 rfl).cell 1,(a.o.get 0 rfl).cell 2,(a.o.get 4 rfl).cell 0,(a.o.get 4 rfl).cell 1,(a.o.get 4 rfl).cell 2,(a.o.get 1 rfl).cell 0,(a.o.get 1 rfl).cell 1,(a.o.get 1 rfl).cell 2,(a.o.get 1 rfl).cell 3,(a.o.get 1 rfl).cell 4,(a.o.get 1 rfl).cell 5,(a.o.get 1 rfl).cell 6,(a.o.get 1 rfl).cell 7⟩ (fun I=>?_);clear hK
   iterate 3
    refine q01 (v:=?_) rfl (by rfl) ?_ ?_;rotate_left
    ·intro w a7;go_simp;with_reducible rfl
    simp only[Act.put,sa,sb,sc]
   refine q0K rfl ?_;go_wp2;have j5:c5.cell? ⟨(w.heap.size+1),0,qa⟩=qc (.bool l.b):=(a.o.get 5 rfl).cell 0;have j6:c5.cell? ⟨(w.heap.size+1),1,qa⟩=qc (.slice l.X l.n l.c):=(a.o.get 5 rfl).cell 1;have j7:c5.cell? ⟨(w.heap.size+1),2,qa⟩=qc (.slice l.Y l.m l.d):=(a.o.get 5 rfl).cell 2;have j8:c5.cell? ⟨(w.heap.size+1+1),0,qa⟩=qc (.bool h.b):=(a.o.get 4 rfl).cell 0;have j9:c5.cell? ⟨(w.heap.size+1+1),1,qa⟩=qc (.slice h.X h.n h.c):=(a.o.get 4 rfl).cell 1;have k0:c5.cell? ⟨(w.heap.size+1+1),2,qa⟩=qc (.slice h.Y h.m h.d):=(a.o.get 4 rfl).cell 2;exact qg (v:=.tuple #[l.v,h.v,.bool p.ii,.bool p.oi,.int .i64 0]) (by simp [results,results22,go_sem,j5,j6,j7,j8,j9,k0]) rfl ⟨l,h,by rw[b8.o],by rw[b8.o];exact⟨G.o,HH.o⟩,a.o.low⟩
  case true =>
   replace b8:Hid (sp=⟨-p.outer,-p.inner,p.oi,p.ii⟩):=b8;have b2:D.cell? ⟨(w.heap.size+1+1),0,qa⟩=qc (.bool h.b):=(a.o.get 4 rfl).cell 0;have b3:D.cell? ⟨(w.heap.size+1+1),1,qa⟩=qc (.slice h.X h.n h.c):=(a.o.get 4 rfl).cell 1;have b4:D.cell? ⟨(w.heap.size+1+1),2,qa⟩=qc (.slice h.Y h.m h.d):=(a.o.get 4 rfl).cell 2;have k3:=(a.o.get 4 rfl).lt;go_wp2_with fail;refine(l9.o _ _ _ (.inr rfl) HH.o (a.o.std c3.o)).mono ?_;rintro e p2 ⟨t,rfl,hI,f⟩;replace a:=vv (a.o.step f);replace G:=vv (G.o.below f);replace HH:=vv (HH.o.below f);have a2:=vv hI;clear b2 b3 b4 k3 f hI;have j:=vv (a.o.get 5 rfl);go_wp2_with (with_reducible refine q00 rfl 39 (.tmp 6) (.tmp 90) rfl (w.heap.size+1) [.bool t.b,.slice t.X t.n t.c,.slice t.Y t.m t.d] rfl rfl 39 _ j.o (by kernel_rfl) rfl rfl ?_);intro g0 C s;clear j;have j:=vv (a.o.get 5 rfl);replace a:=vv (a.o.put 5 rfl C s);replace G:=vv (G.o.apart_ j.o rfl s);replace a2:=vv (a2.o.apart_ j.o rfl s);clear j C s;have b5:g0.cell? ⟨a8,0,qa⟩=qc (.bool l.b):=(a.o.get 0 rfl).cell 0;have b6:g0.cell? ⟨a8,1,qa⟩=qc (.slice l.X l.n l.c):=(a.o.get 0 rfl).cell 1;have b7:g0.cell? ⟨a8,2,qa⟩=qc (.slice l.Y l.m l.d):=(a.o.get 0 rfl).cell 2;have k4:=(a.o.get 0 rfl).lt;go_wp2_with fail;refine(l9.o _ _ _ (.inl rfl) G.o (a.o.std c3.o)).mono ?_;rintro e p3 ⟨u,rfl,hI,f⟩;replace a:=vv (a.o.step f);replace G:=vv (G.o.below f);replace a2:=vv (a2.o.below f);have a9:=vv hI;clear b5 b6 b7 k4 f hI;have j:=vv (a.o.get 4 rfl);go_wp2_with (with_reducible refine q00 rfl 39 (.tmp 7) (.tmp 95) rfl (w.heap.size+1+1) [.bool u.b,.slice u.X u.n u.c,.slice u.Y u.m u.d] rfl rfl 39 _ j.o (by kernel_rfl) rfl rfl ?_);intro J C s;clear j;have j:=vv (a.o.get 4 rfl);replace a:=vv (a.o.put 4 rfl C s);replace a2:=vv (a2.o.apart_ j.o rfl s);replace a9:=vv (a9.o.apart_ j.o rfl s);clear j C s;go_wp2_with fail;have a5:J.cell? ⟨(w.heap.size+1),0,qa⟩=qc (.bool t.b):=(a.o.get 5 rfl).cell 0;have a6:J.cell? ⟨(w.heap.size+1),1,qa⟩=qc (.slice t.X t.n t.c):=(a.o.get 5 rfl).cell 1;have d9:J.cell? ⟨(w.heap.size+1),2,qa⟩=qc (.slice t.Y t.m t.d):=(a.o.get 5 rfl).cell 2;have e0:J.cell? ⟨(w.heap.size+1+1),0,qa⟩=qc (.bool u.b):=(a.o.get 4 rfl).cell 0;have e1:J.cell? ⟨(w.heap.size+1+1),1,qa⟩=qc (.slice u.X u.n u.c):=(a.o.get 4 rfl).cell 1;have e2:J.cell? ⟨(w.heap.size+1+1),2,qa⟩=qc (.slice u.Y u.m u.d):=(a.o.get 4 rfl).cell 2;have e3:J.cell? ⟨i,0,qa⟩=qc (.bool qb):=(a.o.get 1 rfl).cell 0;have e4:J.cell? ⟨i,1,qa⟩=qc (.slice O P Q):=(a.o.get 1 rfl).cell 1;have e5:J.cell? ⟨i,2,qa⟩=qc (.int .i64 R):=(a.o.get 1 rfl).cell 2;have e6:J.cell? ⟨i,3,qa⟩=qc (.bool qb):=(a.o.get 1 rfl).cell 3;have e7:J.cell? ⟨i,4,qa⟩=qc (.slice S T U):=(a.o.get 1 rfl).cell 4;have e8:J.cell? ⟨i,5,qa⟩=qc (.int .i64 V):=(a.o.get 1 rfl).cell 5;have e9:J.cell? ⟨i,6,qa⟩=qc (.bool p.ii):=(a.o.get 1 rfl).cell 6;have f0:J.cell? ⟨i,7,qa⟩=qc (.bool p.oi):=(a.o.get 1 rfl).cell 7;have k5:=(a.o.get 5 rfl).lt;have k6:=(a.o.get 4 rfl).lt;have k7:=(a.o.get 1 rfl).lt;refine q02 (fun w'=>w'.cell? ⟨(w.heap.size+1),0,qa⟩=qc (.bool t.b)/\w'.cell? ⟨(w.heap.size+1),1,qa⟩=qc (.slice t.X t.n t.c)/\w'.cell? ⟨(w.heap.size+1),2,qa⟩=qc (.slice t.Y t.m t.d)/\w'.cell? ⟨(w.heap.size+1+1),0,qa⟩=qc (.bool u.b)/\w'.cell? ⟨(w.heap.size+1+1),1,qa⟩=qc (.slice u.X u.n u.c)/\w'.cell? ⟨(w.heap.size+1+1),2,qa⟩=qc (.slice u.Y u.m u.d)/\w'.cell? ⟨i,0,qa⟩=qc (.bool qb)/\w'.cell? ⟨i,1,qa⟩=qc (.slice O P Q)/\w'.cell? ⟨i,2,qa⟩=qc (.int .i64 R)/\w'.cell? ⟨i,3,qa⟩=qc (.bool qb)/\w'.cell? ⟨i,4,qa⟩=qc (.slice S T U)/\w'.cell? ⟨i,5,qa⟩=qc (.int .i64 V)/\w'.cell? ⟨i,6,qa⟩=qc (.bool p.ii)/\w'.cell? ⟨i,7,qa⟩=qc (.bool p.oi)) 11
    (.still 0 (.still 1 (.still 2 (.still 3 (.still 4 (.still 5 (.one 6 (.one 7 (.still 8 (.still 9 (.still 10 .done))))))))))) (by kernel_rfl) (by kernel_rfl) (fun _ _ d _ _ h=>by cases d<;>exact h) ⟨a5,a6,d9,e0,e1,e2,e3,e4,e5,e6,e7,e8,e9,f0⟩ (fun hS0=>?_)
   iterate 6
    refine q01 (v:=?_) rfl (by rfl) ?_ ?_;rotate_left
    ·intro w a7;go_simp;with_reducible rfl
    simp only[Act.put,sa,sb,sc]
   clear k5 k6 k7 a5 a6 d9 e0 e1 e2 e3 e4 e5 e6 e7 e8 e9 f0;obtain⟨o7,a4⟩:=yx (J.drew);have f:qf J.heap.size J o7:=by rw[a4];exact q05 (qd _ _)
   replace a:=vv (a.o.step f);replace a2:=vv (a2.o.below f);replace a9:=vv (a9.o.below f);rw[<- a4] at hS0 ⊢;clear a4 f;refine q03 rfl (by rfl) (fun K hK=>?_);have j:=vv (a.o.get 5 rfl)
   with_reducible refine q0u 39 (.tmp 6) (.tmp 97) rfl (w.heap.size+1) [.bool t.b,.slice t.X t.n t.c,.slice t.Y t.m t.d] rfl rfl 39 _ j.o (by kernel_rfl) rfl rfl ?_
   intro p4 C s;replace a:=vv (a.o.put 5 rfl C s);replace a2:=vv (a2.o.apart_ j.o rfl s);replace a9:=vv (a9.o.apart_ j.o rfl s);clear j C s;refine hK.out _ _ ⟨(a.o.get 5 rfl).cell 0,(a.o.get 5 rfl).cell 1,(a.o.get 5 rfl).cell 2,(a.o.get 4 rfl).cell 0,(a.o.get 4 rfl).cell 1,(a.o.get 4 rfl).cell 2,(a.o.get 1 rfl).cell 0,(a.o.get 1 rfl).cell 1,(a.o.get 1 rfl).cell 2,(a.o.get 1 rfl).cell 3,(a.o.get 1 rfl).cell 4,(a.o.get 1 rfl).cell 5,(a.o.get 1 rfl).cell 6,(a.o.get 1 rfl).cell 7⟩ (fun I=>?_);clear hK;refine q03 rfl (by rfl) (fun K hK=>?_);have j:=vv (a.o.get 4 rfl)
   with_reducible refine q0u 39 (.tmp 7) (.tmp 98) rfl (w.heap.size+1+1) [.bool u.b,.slice u.X u.n u.c,.slice u.Y u.m u.d] rfl rfl 39 _ j.o (by kernel_rfl) rfl rfl ?_
   intro c6 C s;replace a:=vv (a.o.put 4 rfl C s);replace a2:=vv (a2.o.apart_ j.o rfl s);replace a9:=vv (a9.o.apart_ j.o rfl s);clear j C s;refine hK.out _ _ ⟨(a.o.get 5 rfl).cell 0,(a.o.get 5 rfl).cell 1,(a.o.get 5 rfl).cell 2,(a.o.get 4 rfl).cell 0,(a.o.get 4 rfl).cell 1,(a.o.get 4 rfl).cell 2,(a.o.get 1 rfl).cell 0,(a.o.get 1 rfl).cell 1,(a.o.get 1 rfl).cell 2,(a.o.get 1 rfl).cell 3,(a.o.get 1 rfl).cell 4,(a.o.get 1 rfl).cell 5,(a.o.get 1 rfl).cell 6,(a.o.get 1 rfl).cell 7⟩ (fun I=>?_);clear hK
   iterate 3
    refine q01 (v:=?_) rfl (by rfl) ?_ ?_;rotate_left
    ·intro w a7;go_simp;with_reducible rfl
    simp only[Act.put,sa,sb,sc]
   refine q0K rfl ?_;go_wp2;have k8:c6.cell? ⟨(w.heap.size+1),0,qa⟩=qc (.bool t.b):=(a.o.get 5 rfl).cell 0;have k9:c6.cell? ⟨(w.heap.size+1),1,qa⟩=qc (.slice t.X t.n t.c):=(a.o.get 5 rfl).cell 1;have l0:c6.cell? ⟨(w.heap.size+1),2,qa⟩=qc (.slice t.Y t.m t.d):=(a.o.get 5 rfl).cell 2;have l1:c6.cell? ⟨(w.heap.size+1+1),0,qa⟩=qc (.bool u.b):=(a.o.get 4 rfl).cell 0;have l2:c6.cell? ⟨(w.heap.size+1+1),1,qa⟩=qc (.slice u.X u.n u.c):=(a.o.get 4 rfl).cell 1;have l3:c6.cell? ⟨(w.heap.size+1+1),2,qa⟩=qc (.slice u.Y u.m u.d):=(a.o.get 4 rfl).cell 2;exact qg (v:=.tuple #[t.v,u.v,.bool p.oi,.bool p.ii,.int .i64 0]) (by simp [results,results22,go_sem,k8,k9,l0,l1,l2,l3]) rfl ⟨t,u,by rw[b8.o],by rw[b8.o];exact⟨a2.o,a9.o⟩,a.o.low⟩
end Nea
namespace Sh
open Go Exa R5
def q2F(E F m mode:Nat):Span:=⟨(q0T E F m mode).inner,(q0T E F m mode).outer,(q0T E F m mode).ii,(q0T E F m mode).oi⟩
theorem q4o(E F m:Nat):q2F E F m 0=⟨(before E F m+wv E F m)/2,(wv E F m+after E F m)/2,m%2==0,m%2==0⟩:=rfl
theorem q3y(h:0<m):0<wv E F m:=q7F (q7i h) _
theorem tw_le{a b:Int}(h:a<=b):tw a<=tw b:=by
 obtain⟨k,rfl⟩:∃k:Nat,b=a+k:=⟨(b-a).toNat,by omega⟩;rw[q4j,q6D];have c:(1:Rat)<=((2^k:Nat):Rat):=by exact_mod_cast k0c k
 have:=k1v c (k1a (tw_pos a))
 rwa [k1D] at this
theorem q6N(hm:0<m):q2p (q2F E F m 0) (wv E F m) (top (wv E F m)-((q0t (2^(F+1)):Nat):Int))=qi:=by
 have b:=q3y (E:=E) (F:=F) hm;obtain⟨K,p,k,u,w,d⟩:=q1S E F m hm;obtain⟨v,c⟩:=yx (wv E F m);obtain⟨L,f⟩:=yx (q0t (2^(F+1)));have j:2^(F+1)<10^L:=by rw[f];exact Lib.lt_pow_nDigits _
 rw[q4o,<- c,<- f];rw[<- c] at d b;obtain⟨e,g⟩:=yx (top v-(L:Int));rw[<- g];have l:=q6G b;have x:tp e*((10^L:Nat):Rat)<=v:=by rw[<- q2g,<- q2M,g,Int.sub_add_cancel];exact l
 have n:=q1f e;have o:=tw_pos p;have y:tp e*((2^(F+1):Nat):Rat)<tp e*((10^L:Nat):Rat):=Rat.mul_lt_mul_of_pos_left (by exact_mod_cast j) n;have z:v<=((2^(F+1):Nat):Rat)*tw p:=by
  have a:v=dq (K+1) p:=by rw[d,k,q26];unfold dq;rw[show((1:Nat):Rat)=1 from rfl,k1E]
  rw[a];unfold dq;exact k0V (by exact_mod_cast (show K+1<=2^(F+1) by omega)) (k1a o)
 have C:tp e<tw p:=by
  have q:(0:Rat)<((2^(F+1):Nat):Rat):=by exact_mod_cast k0c (F+1)
  refine Rat.lt_of_mul_lt_mul_right ?_ (k1a q);have:=k2i ((2^(F+1):Nat):Rat) (tw p)
  grind
 have D:tw p<=tw (mgX E F m):=tw_le (by omega);have r:after E F m=v+tw (mgX E F m):=by rw[c];rfl
 rw[r];unfold q2p;rw[k1r,Span.has_iff,Span.has_iff];dsimp only;have G:=q8U b e;have H:=(qaf b e).1;have I:wo (ce v e) e<=wo (fl v e) e+tp e:=by
  rcases q49 b e with ⟨i,s⟩|⟨i,s,t⟩
  ·rw[i];grind
  ·rw[t];exact Rat.le_refl
 by_cases h:v-wo (fl v e) e<=tp e/2
 ·left;exact⟨.inl (by grind),.inl (by grind)⟩
 ·right;exact⟨.inl (by grind),.inl (by grind)⟩
theorem q8w{A:Nat}(hB:0<B):2*(rnd neg 0 A B*B)<=2*A+B/\2*A<=2*(rnd neg 0 A B*B)+B/\(2*(rnd neg 0 A B*B)=2*A+B->rnd neg 0 A B%2=0)/\(2*A=2*(rnd neg 0 A B*B)+B->rnd neg 0 A B%2=0):=by
 have a:=k0O A B;have f:=k0j A hB;unfold rnd;obtain⟨q,g⟩:=yx (A/B);obtain⟨t,e⟩:=yx (A%B);rw[<- g,<- e] at a ⊢;rw[<- e] at f;have i:(q+1)*B=q*B+B:=by rw[k18,k0Q]
 rw[k0b] at a;split
 ·rename_i h0;rw[h0,k14] at a;rw[a];exact⟨by omega,by omega,fun h=>by omega,fun h=>by omega⟩
 ·rename_i h0;rw[show ∀o c,q2U neg 0 o c=(qe (0<c) || (qe (c=0) && o)) from fun _ _=>rfl];have b:(0<q0F (2*t) B↔B<2*t)/\(q0F (2*t) B=0↔2*t=B):=by
   unfold q0F;constructor
   ·split
    ·constructor<;>intro h<;>omega
    ·split<;>(constructor<;>intro h<;>omega)
   ·split
    ·constructor<;>intro h<;>omega
    ·split<;>(constructor<;>intro h<;>omega)
  split
  ·rename_i h;rw[i];rw[k1r,k0T,k0C,k0C,k0C,b.1,b.2] at h;refine⟨by omega,by omega,fun k=>?_,fun k=>by omega⟩;rcases h with h|⟨-,h⟩<;>omega
  ·rename_i h;rw[k1r,k0T,k0C,k0C,k0C,b.1,b.2] at h;have l:2*t<=B:=by
    rcases k0y B (2*t) with k|k
    ·exact absurd (.inl k) h
    ·exact k
   refine⟨by omega,by omega,fun k=>by omega,fun k=>?_⟩;have j:2*t=B:=by omega
   rcases k0Z q with d|d
   ·exact d
   ·exact absurd (.inr ⟨j,d⟩) h
theorem q5l(k:Int):tw k*((p2 (-k):Nat):Rat)=((p2 k:Nat):Rat):=by
 rcases k2J 0 k with h|h
 ·rw[q0l (n:=-k) (by omega),qaY k h,show((1:Nat):Rat)=1 from rfl,k1D]
 ·rw[q0l (n:=k) h,<- qaY (-k) (by omega),<- q4j,Int.add_right_neg];rfl
theorem q7L{q:Rat}{k:Int}(hb:0<b)(hq:q*(b:Rat)=(a:Rat))(h:X*(b*p2 k)<=Y*(a*p2 (-k))+Z*(b*p2 k)):(X:Rat)*tw k<=Y*q+Z*tw k:=by
 have f:(0:Rat)<((p2 (-k):Nat):Rat):=by exact_mod_cast q0L (-k)
 have g:(0:Rat)<(b:Rat):=by exact_mod_cast hb
 have e:=Rat.mul_pos g f;have i:=q5l k;have d:(X:Rat)*((b:Rat)*((p2 k:Nat):Rat))<=(Y:Rat)*((a:Rat)*((p2 (-k):Nat):Rat))+(Z:Rat)*((b:Rat)*((p2 k:Nat):Rat)):=by exact_mod_cast h
 rw[<- i,<- hq] at d;refine Rat.le_of_mul_le_mul_right (c:=(b:Rat)*((p2 (-k):Nat):Rat)) ?_ e;have j:(X:Rat)*tw k*((b:Rat)*((p2 (-k):Nat):Rat))=(X:Rat)*((b:Rat)*(tw k*((p2 (-k):Nat):Rat))):=by grind
 have l:((Y:Rat)*q+(Z:Rat)*tw k)*((b:Rat)*((p2 (-k):Nat):Rat))=(Y:Rat)*(q*(b:Rat)*((p2 (-k):Nat):Rat))+(Z:Rat)*((b:Rat)*(tw k*((p2 (-k):Nat):Rat))):=by grind
 rw[j,l];exact d
theorem qav{q:Rat}{k:Int}(hb:0<b)(hq:q*(b:Rat)=(a:Rat))(h:(X:Rat)*tw k=Y*q+Z*tw k):X*(b*p2 k)=Y*(a*p2 (-k))+Z*(b*p2 k):=by
 have c:=q5l k;have d:(X:Rat)*((b:Rat)*((p2 k:Nat):Rat))=(Y:Rat)*((a:Rat)*((p2 (-k):Nat):Rat))+(Z:Rat)*((b:Rat)*((p2 k:Nat):Rat)):=by
  rw[<- c,<- hq];have e:(X:Rat)*tw k*((b:Rat)*((p2 (-k):Nat):Rat))=(X:Rat)*((b:Rat)*(tw k*((p2 (-k):Nat):Rat))):=by grind
  have f:((Y:Rat)*q+(Z:Rat)*tw k)*((b:Rat)*((p2 (-k):Nat):Rat))=(Y:Rat)*(q*(b:Rat)*((p2 (-k):Nat):Rat))+(Z:Rat)*((b:Rat)*(tw k*((p2 (-k):Nat):Rat))):=by grind
  rw[<- e,<- f,h]
 exact_mod_cast d
theorem q65(hE:2<=E)(hF:1<=F)(ha:0<a)(hb:0<b)(hm0:0<q18 E F neg 0 a b):wv E F (q18 E F neg 0 a b)=(q4L E F neg 0 a b:Rat)*tw (q21 E a b-F)/\tw (q21 E a b-F)<=tw (mgX E F (q18 E F neg 0 a b))/\q18 E F neg 0 a b%2=q4L E F neg 0 a b%2 /\(q4L E F neg 0 a b*(b*p2 (q21 E a b-F))<=a*p2 (F-q21 E a b)\/tw (q21 E a b-F)=wv E F (q18 E F neg 0 a b)-before E F (q18 E F neg 0 a b)):=by
 have P:=q4Z (E:=E) (F:=F) (neg:=neg) (mode:=0) ha hb;have v:=fun k=>qa8 (E:=E) (F:=F) (neg:=neg) (mode:=0) ha hb k
 have Q:=qby (E:=E) (a:=a) (b:=b);have w:=fun k=>qbx (E:=E) (a:=a) (b:=b) k
 have a0:=Hx.bias_nat (E:=E);have L:=k0c F;have a4:2^(F+1)=2*2^F:=by rw[k0a,k0b]
 have z:q1p a b<1-q12 E->q21 E a b=1-q12 E:=fun k=>by unfold q21;omega
 have d:q18 E F neg 0 a b=q4L E F neg 0 a b+(q21 E a b+q12 E-1).toNat*2^F:=rfl;have C:=(q3b (F:=F) hb (q1c ha hb)).1;obtain⟨W,R⟩:=yx (q1p a b);obtain⟨l,Y⟩:=yx (q21 E a b);obtain⟨m,Z⟩:=yx (q4L E F neg 0 a b);obtain⟨K,hK⟩:=yx ((l+q12 E-1).toNat);rw[<- R] at w z v C;rw[<- Y] at Q w z d ⊢;rw[<- Z] at P v d ⊢;rw[<- hK] at d;obtain⟨M,hM⟩:=yx (q18 E F neg 0 a b);rw[<- hM] at d hm0 ⊢;have a5:(K:Int)=l+q12 E-1:=by omega
 have S:l≠1-q12 E->2^F<=m:=fun k=>v (by
  rcases k1l W (1-q12 E) with h|h
  ·exact absurd (z h) k
  ·exact h)
 have D:powOf E F 0=1-q12 E-F:=by unfold powOf;rw[k0n rfl];omega
 have p:∀y,powOf E F (y+1)=1-q12 E-F+y:=fun y=>by unfold powOf;rw[k0o (by omega)];omega
 have H:M%2=m%2:=by obtain⟨G,rfl⟩:∃G,F=G+1:=⟨F-1,by omega⟩;rw[d,k0a,<- k0f];omega
 have one:∀(N:Nat) (x:Int),dq (N+1) x-dq N x=tw x:=fun N x=>by rw[q26];unfold dq;rw[show((1:Nat):Rat)=1 from rfl,k1E];grind
 have T:before E F M=wv E F (M-1):=by unfold before;rw[k0o (by omega)]
 rw[T];have g:∀(c X f:Nat) (x:Int) (N:Nat),c=2^F*X+f->f<2^F->mantOf F X f=N->powOf E F X=x->wv E F c=dq N x/\mgX E F c=x:=fun c X f x N n r s t=>by
  have d1:c/2^F=X:=by rw[n,Nat.mul_add_div L,k0N r,k14]
  have d2:c%2^F=f:=by rw[n,Nat.mul_add_mod,k0u r]
  unfold wv mgN mgX;rw[d1,d2,s,t];exact⟨rfl,rfl⟩
 have I:∀f,mantOf F 0 f=f:=fun f=>by unfold mantOf;rw[k0n rfl]
 have q:∀y f,mantOf F (y+1) f=f+2^F:=fun y f=>by unfold mantOf;rw[k0o (by omega)]
 have u:∀j:Nat,2^F*(K+j)=K*2^F+2^F*j:=fun j=>by rw[k0k,k0b]
 rcases k0y m (2^F) with n|n
 ·have a6:l=1-q12 E:=by
   rcases Decidable.em (l=1-q12 E) with e|e
   ·exact e
   ·have:=S e;omega
  have U:K=0:=by omega
  rw[U,k1H,k14] at d;obtain⟨i,o⟩:=g M 0 m (l-F) m (by omega) n (I m) (by rw[D];omega);obtain⟨J,-⟩:=g (M-1) 0 (m-1) (l-F) (m-1) (by omega) (by omega) (I _) (by rw[D];omega);refine⟨i,by rw[o];exact Rat.le_refl,H,.inr ?_⟩;rw[i,J];have:=one (m-1) (l-F);rw[Nat.sub_add_cancel (by omega)] at this;exact this.symm
 ·rcases k0y m (2^(F+1)) with r|r
  ·obtain⟨i,o⟩:=g M (K+1) (m-2^F) (l-F) m (by rw[u 1];omega) (by omega) (by rw[q];omega) (by rw[p];omega);refine⟨i,by rw[o];exact Rat.le_refl,H,?_⟩;have fin:wv E F (M-1)=dq (m-1) (l-F)->tw (l-F)=wv E F M-wv E F (M-1):=fun h=>by rw[h,i];have:=one (m-1) (l-F);rw[Nat.sub_add_cancel (by omega)] at this;exact this.symm
   rcases Nat.lt_or_eq_of_le n with s|s
   ·exact .inr (fin (g (M-1) (K+1) (m-1-2^F) (l-F) (m-1) (by rw[u 1];omega) (by omega) (by rw[q];omega) (by rw[p];omega)).1)
   ·rcases k01 K with t|t
    ·rw[t,k1H,k14] at d;exact .inr (fin (g (M-1) 0 (m-1) (l-F) (m-1) (by omega) (by omega) (I _) (by rw[D];omega)).1)
    ·left;have:=w (by omega);rw[<- this] at C;rw[<- s];exact C
  ·have V:m=2*2^F:=by omega
   obtain⟨i,o⟩:=g M (K+1+1) 0 (l-F+1) (2^F) (by rw[show K+1+1=K+2 from rfl,u 2];omega) L (by rw[q];omega) (by rw[p];omega);obtain⟨J,-⟩:=g (M-1) (K+1) (2^F-1) (l-F) (m-1) (by rw[u 1];omega) (by omega) (by rw[q];omega) (by rw[p];omega);have O:wv E F M=dq m (l-F):=by rw[i,V,k0b,show 2^F*2=2^F*2^1 from rfl,q2b];rfl
   refine⟨O,by rw[o];exact tw_le (by omega),H,.inr ?_⟩;rw[O,J];have:=one (m-1) (l-F);rw[Nat.sub_add_cancel (by omega)] at this;exact this.symm
theorem q7a{q:Rat}(hE:2<=E)(hF:1<=F)(ha:0<a)(hb:0<b)(hq:q*(b:Rat)=(a:Rat))(hm0:0<q18 E F neg 0 a b):(q2F E F (q18 E F neg 0 a b) 0).has q=qi:=by
 obtain⟨g,w,p,i⟩:=q65 hE hF ha hb hm0;have O:0<b*p2 (q21 E a b-F):=k0l hb (q0L _);obtain⟨j,l,m,n⟩:=q8w (neg:=neg) (A:=a*p2 (F-q21 E a b)) O;have L:rnd neg 0 (a*p2 (F-q21 E a b)) (b*p2 (q21 E a b-F))=q4L E F neg 0 a b:=rfl;rw[L] at j l m n;obtain⟨k,P⟩:=yx (q21 E a b-F);have N:(F:Int)-q21 E a b = -k:=by omega
 rw[N] at j l m n i;rw[<- P] at j l m n g w i;obtain⟨r,Q⟩:=yx (q4L E F neg 0 a b);rw[<- Q] at j l m n g p i;have G:=q4H (E:=E) (F:=F) hm0;obtain⟨M,R⟩:=yx (q18 E F neg 0 a b);rw[<- R] at g w p i G ⊢;have I:=q7L hb hq (k:=k) (X:=2*r) (Y:=2) (Z:=1) (by rw[k0f,k0Q];exact j);have J:(2:Rat)*q<=2*((r:Rat)*tw k)+tw k:=by
  have S:(0:Rat)<((p2 (-k):Nat):Rat):=by exact_mod_cast q0L (-k)
  have f:(0:Rat)<(b:Rat):=by exact_mod_cast hb
  have d:=q5l k;have s:(2:Rat)*((a:Rat)*((p2 (-k):Nat):Rat))<=2*((r:Rat)*((b:Rat)*((p2 k:Nat):Rat)))+(b:Rat)*((p2 k:Nat):Rat):=by exact_mod_cast l
  rw[<- d,<- hq] at s;refine Rat.le_of_mul_le_mul_right (c:=(b:Rat)*((p2 (-k):Nat):Rat)) ?_ (Rat.mul_pos f S);have x:(2:Rat)*q*((b:Rat)*((p2 (-k):Nat):Rat))=2*(q*(b:Rat)*((p2 (-k):Nat):Rat)):=by grind
  have o:(2*((r:Rat)*tw k)+tw k)*((b:Rat)*((p2 (-k):Nat):Rat))=2*((r:Rat)*((b:Rat)*(tw k*((p2 (-k):Nat):Rat))))+(b:Rat)*(tw k*((p2 (-k):Nat):Rat)):=by grind
  rw[x,o];exact s
 have H:2*((r:Rat)*tw k)<=2*q+tw k:=by rw[k2j,show((2:Nat):Rat)=2 from rfl,show((1:Nat):Rat)=1 from rfl,k1E,k1f] at I;exact I
 have z:2*((r:Rat)*tw k)=2*q+tw k->r%2=0:=fun h=>m (by have:=qav hb hq (k:=k) (X:=2*r) (Y:=2) (Z:=1) (by rw[k2j,show((2:Nat):Rat)=2 from rfl,show((1:Nat):Rat)=1 from rfl,k1E,k1f];exact h);rw[k0f,k0Q] at this;exact this)
 have C:2*q=2*((r:Rat)*tw k)+tw k->r%2=0:=fun h=>n (by
  have d:=q5l k;have s:(2:Rat)*((a:Rat)*((p2 (-k):Nat):Rat))=2*((r:Rat)*((b:Rat)*((p2 k:Nat):Rat)))+(b:Rat)*((p2 k:Nat):Rat):=by
   rw[<- d,<- hq];have x:(2:Rat)*q*((b:Rat)*((p2 (-k):Nat):Rat))=2*(q*(b:Rat)*((p2 (-k):Nat):Rat)):=by grind
   have o:(2*((r:Rat)*tw k)+tw k)*((b:Rat)*((p2 (-k):Nat):Rat))=2*((r:Rat)*((b:Rat)*(tw k*((p2 (-k):Nat):Rat))))+(b:Rat)*(tw k*((p2 (-k):Nat):Rat)):=by grind
   rw[<- x,<- o,h]
  exact_mod_cast s)
 have D:(r:Rat)*tw k<=q\/tw k=wv E F M-before E F M:=by
  rcases i with h|h
  ·left;have:=q7L hb hq (k:=k) (X:=r) (Y:=1) (Z:=0) (by rw[k0Q,k1H,k14];exact h);rw[show((1:Nat):Rat)=1 from rfl,show((0:Nat):Rat)=0 from rfl,k1E,Rat.zero_mul,Rat.add_zero] at this;exact this
  ·exact .inr h
 have ha:after E F M=wv E F M+tw (mgX E F M):=rfl;rw[q4o,ha,Span.has_iff];dsimp only;obtain⟨v,t⟩:=yx (wv E F M);obtain⟨u,d⟩:=yx (tw k);obtain⟨T,f⟩:∃y,y=before E F M:=⟨_,rfl⟩;obtain⟨X,K⟩:=yx (tw (mgX E F M));rw[<- t,<- d] at g;rw[<- d,<- K] at w;rw[<- t,<- d,<- f] at D;rw[<- t,<- f] at G;rw[<- d] at J H z C;rw[<- g] at J H z C D;rw[<- t,<- f,<- K];constructor
 ·rcases D with h|h
  ·exact .inl (by grind)
  ·by_cases e:2*v=2*q+u
   ·exact .inr ⟨by grind,by rw[p,z e];rfl⟩
   ·exact .inl (by grind)
 ·by_cases e:2*q=2*v+u
  ·by_cases o:q=(v+(v+X))/2
   ·exact .inr ⟨o,by rw[p,C e];rfl⟩
   ·exact .inl (by grind)
  ·exact .inl (by grind)
end Sh
namespace Hx
open Go Go.RowKit R5 Scn Fms Exa
theorem parts_of{r:Nat}(hr:r<q2P E F):q2x E F (sgb E F neg+r)=neg/\q0E E F (sgb E F neg+r)=r/2^F/\q0W F (sgb E F neg+r)=r%2^F/\r/2^F<R3.tw E-1/\sgb E F neg+r<2^(1+E+F):=by
 have c:=k0c F;have g:=k0c E;have a:2^(E+F)=2^E*2^F:=k0h _ _ _;have b:r<2^(E+F):=by unfold q2P at hr;omega
 have e:r/2^F<2^E-1:=by apply k0s;unfold q2P at hr;rw[Nat.mul_sub,k0A,k0b,<- a];exact hr
 have h:2^(1+E+F)=2*2^(E+F):=by rw[show 1+E+F=E+F+1 by omega,k0a,k0b]
 have f:(2^(E+F)+r)/2^F=2^E+r/2^F:=by rw[a,k0b,Nat.mul_add_div c]
 have d:(2^(E+F)+r)%2^F=r%2^F:=by rw[a,k0b,Nat.mul_add_mod]
 refine⟨?_,?_,?_,e,?_⟩
 ·unfold q2x sgb;cases neg
  ·rw[k0o (by decide),k0U,show F+E=E+F by omega,k0N b];rfl
  ·rw[k0n rfl,show F+E=E+F by omega,show 2^(E+F)+r=2^(E+F)*1+r by omega,Nat.mul_add_div (k0c _),k0N b];rfl
 ·unfold q0E sgb;cases neg
  ·rw[k0o (by decide),k0U,k0u (by omega)]
  ·rw[k0n rfl,f,Nat.add_mod_left,k0u (by omega)]
 ·unfold q0W sgb;cases neg
  ·rw[k0o (by decide),k0U]
  ·rw[k0n rfl,d]
 ·unfold sgb;cases neg<;>simp<;>omega
end Hx
end Go.Proofs.YtabcgemembkkcaaGreatDoor
