/- Lemmas. -/
import Derived.Test.YtabcgemembkkcaaGreatDoorPartAV
set_option linter.all false
set_option maxHeartbeats 4000000
set_option maxRecDepth 100000
open Go.Proofs.Tryz
open Bool renaming false->qa,true->qg
open Go.Proofs.Tryz renaming prog->qb
open Go renaming RowKit.Below.refl->qc,World->qh,Calls->qk,IntWalk.i64_in->ql,heap_alloc_new->qm,IntKind.wrap_u64->qn,Addr->qo,IntKind.wrap_i64->qp,IntKind.wrap_u32->qq
open Option renaming none->qd,some->qf
open Go.RowKit renaming Below->qe,Hid->qi
open Decidable renaming decide->qj
namespace Go.Proofs.YtabcgemembkkcaaGreatDoor
variable{w w':qh}{g E F m a b c mode n N:Nat}{neg:Bool}{A:Option qo}
namespace R5
open Go Go.RowKit
theorem qci(g a b:Nat)(q:Int)(neg:Bool)(mode:Nat)(w:qh)(hx:RatAt w g (a:Int) b)(hq:-2147483648<=q)(hq':q<=2147483648)(sa:bl a<=1073741824)(sb:bl b<=1073741824)(hst:Std w)(hm:mode<=4):qk qb 194 #[.pointer (qf ⟨g,0,qd⟩),.int .i64 q,.bool neg,.int .u8 (mode:Int)] w (q1d ((rnd neg mode (a*p2 (-q)) (b*p2 q)*p2 q:Nat):Int) (p2 (-q)) w):=by
 have HX:=vv hx;have m:=vv hst;have a5:=hx.lt;have J:bl (p2 q)<=2147483649:=by unfold p2;rw[q26];omega
 have K:bl (p2 (-q))<=2147483649:=by unfold p2;rw[q26];omega
 have hA:=q0n a (p2 (-q));have hB:=q0n b (p2 q);have L:bl (rnd neg mode (a*p2 (-q)) (b*p2 q))<=3758096384:=by have h1:=q9q neg mode (a*p2 (-q)) (b*p2 q);have h2:=k0e (a*p2 (-q)) (b*p2 q);have h3:=q13 (k06 h1 (Nat.add_le_add_right h2 1));have h4:=q2P (a*p2 (-q)) 1;have h5:bl 1=1:=rfl;omega
 have d:qi (Sz a/\Sz b/\Sz (p2 q)/\Sz (p2 (-q))/\Sm (a*p2 (-q))/\Sm (b*p2 q)/\Sz (rnd neg mode (a*p2 (-q)) (b*p2 q))):=vv (by unfold Sz Sm;exact⟨by omega,by omega,by omega,by omega,by omega,by omega,by omega⟩);have M:=vv fun w=>q3L (-q) w (by omega) (by omega)
 have N:=vv fun w=>q3L q w (by omega) (by omega)
 have I:qi (- -q=q):=vv (by omega);have t:qi (((a:Int)*((p2 (-q):Nat):Int))=((a*p2 (-q):Nat):Int)/\(((rnd neg mode (a*p2 (-q)) (b*p2 q):Nat):Int)*((p2 q:Nat):Int))=((rnd neg mode (a*p2 (-q)) (b*p2 q)*p2 q:Nat):Int)/\1*p2 (-q)=p2 (-q)):=vv ⟨by rw[k07],by rw[k07],k0J _⟩;clear hx hst sa sb J K hA hB L;go_enter func194,ntmps194;go_wp2_with fail;obtain⟨f,h⟩:=q0M w;obtain⟨w0,u⟩:=yx (w.alloc q2l);rw[<- u] at f h ⊢;have O:=vv f;have P:=vv h;clear f h u;refine(M.o _).mono ?_;rintro e w1 ⟨g1,rfl,a6,v,n⟩;have Q:=vv v;have R:=vv (O.o.below n);have j:=vn P n;clear v n;go_wp2_with fail;refine(B.MulR w.heap.size g g1 _ _ _ _ _ R.o.sh (HX.o.below j.o) Q.o (m.o.fs (Fs.of_nil j.o)) (by exact d.o.1) d.o.2.1 (by exact d.o.2.2.2.1) (by rw[I.o];exact d.o.2.2.1)).mono ?_;rintro e w2 c;rw[I.o,t.o.1] at c;have x:=vv (c.below j.o j.o.size lr);obtain⟨rfl,y,-⟩:=c;have S:=vv y;clear y;go_wp2_with fail;refine(q3m w.heap.size (a*p2 (-q)) (b*p2 q) neg mode _ S.o d.o.2.2.2.2.1 d.o.2.2.2.2.2.1 (m.o.fs (Fs.of_nil x.o)) hm).mono ?_;rintro e i ⟨g3,rfl,a7,p,z⟩;have T:=vv p;have C:=vn x z;have a3:=p.lt;have a4:=C.o.size;clear p z;go_wp2_with fail;obtain⟨f,h,l⟩:=q5G i;obtain⟨w4,D⟩:=yx ((i.alloc q2l).alloc q2l);rw[<- D] at f h l ⊢;have U:=vv f;have V:=vv h;have W:=vv (T.o.below l);have E:=vn C l;clear f h l D;refine(B.SetInt (i.heap.size+1) g3 _ _ V.o.sh W.o).mono ?_;rintro e w5 c;have X:=vv (U.o.fs1 c.2.2 (by omega));have Y:=vv (c.below E.o E.o.size (by omega));obtain⟨rfl,F,-⟩:=c;have r:=vv F;clear F;go_wp2_with fail;refine(N.o _).mono ?_;rintro e w6 ⟨g6,rfl,a8,G,k⟩;have Z:=vv G;have r:=vv (r.o.below k);have a0:=vv (X.o.below k);have s:=vn Y k;clear G k;go_wp2_with fail;refine(B.MulR i.heap.size (i.heap.size+1) g6 _ _ _ _ _ a0.o.sh r.o Z.o (m.o.fs (Fs.of_nil s.o)) (by exact d.o.2.2.2.2.2.2) (by unfold Sz;decide) (by exact d.o.2.2.1) d.o.2.2.2.1).mono ?_;rintro e w7 c;rw[t.o.2.1,t.o.2.2] at c;have a1:=vv (c.below s.o s.o.size (by omega));obtain⟨rfl,H,-⟩:=c;have a2:=vv H;clear H;go_wp2;go_ret;exact⟨_,rfl,by omega,a2.o,a1.o⟩
theorem q9m(E:Nat)(F:Int)(w:qh)(h1:2<=E)(h2:E<=11):qk qb 195 #[fm E F] w (q1d ((p2 (1-q09 E):Nat):Int) (p2 (q09 E-1)) w):=by
 have m:=q0X h1;have n:=q22 h2;have i:=vv fun w=>q3L (1-q09 E) w (by omega) (by omega)
 have j:qi (-(1-q09 E)=q09 E-1):=vv (by omega);have k:=vv fun w=>qb2 E F w h1 h2
 clear h1 h2;go_enter func195,ntmps195;go_wp2_with fail;refine(k.o _).mono ?_;rintro e l ⟨rfl,a⟩;have b:qi (qe w.heap.size w l):=vv (((qc _ w).alloc lr _).trans (a.mono (by simp)));clear a;go_wp2_with fail;refine(i.o _).mono ?_;rintro e p ⟨g,rfl,q,d,c⟩;have r:=b.o.size;have f:=vv d;have h:=vn b c;rw[j.o] at f;clear d c;go_wp2;go_ret;exact⟨_,rfl,by omega,f.o,h.o⟩
theorem q9H(E F:Nat)(neg:Bool)(mode:Nat)(w:qh)(h1:2<=E)(h2:E<=11)(h3:1<=F)(h4:F<=52)(hm:mode<=4):qk qb 197 #[fm E F,.bool neg,.int .u8 (mode:Int)] w fun e w'=>e=.returned (.int .u64 ((if inner neg mode then q1X E F-1 else q1X E F:Nat):Int))/\qe w.heap.size w w':=by
 have c:qi (IntKind.u64.wrap (IntKind.u64.wrap (2^(E+F))-IntKind.u64.wrap (2^F))=((q1X E F:Nat):Int)/\IntKind.u64.wrap (((q1X E F:Nat):Int)-1)=((q1X E F-1:Nat):Int)):=by
  have h:2^(F+1)<=2^(E+F):=k04 (by omega) (by omega);have i:2^(E+F)<=2^63:=k04 (by omega) (by omega);have j:=k0c F;rw[k0a] at h;refine vv ⟨?_,?_⟩
  ·rw[wu_pow (by omega),wu_pow (by omega),qn];unfold q1X;omega
  ·rw[qn];unfold q1X;omega
 rcases(by omega:mode=0\/mode=1\/mode=2\/mode=3\/mode=4) with a|a|a|a|a<;>cases neg
 ·have b:qi (inner qa mode=qa):=vv (by rw[a];rfl);have d:((mode:Int)==2)=qa:=by rw[a];rfl
  have f:((mode:Int)==3)=qa:=by rw[a];rfl
  have g:((mode:Int)==4)=qa:=by rw[a];rfl
  rw[b.o,k0t (by decide)];clear b a hm h1;go_enter func197,ntmps197;go_wp2;go_ret;exact⟨q0J (by rw[c.o.1]),(qc _ _).alloc lr _⟩
 ·have b:qi (inner qg mode=qa):=vv (by rw[a];rfl);have d:((mode:Int)==2)=qa:=by rw[a];rfl
  have f:((mode:Int)==3)=qa:=by rw[a];rfl
  have g:((mode:Int)==4)=qa:=by rw[a];rfl
  rw[b.o,k0t (by decide)];clear b a hm h1;go_enter func197,ntmps197;go_wp2;go_ret;exact⟨q0J (by rw[c.o.1]),(qc _ _).alloc lr _⟩
 ·have b:qi (inner qa mode=qa):=vv (by rw[a];rfl);have d:((mode:Int)==2)=qa:=by rw[a];rfl
  have f:((mode:Int)==3)=qa:=by rw[a];rfl
  have g:((mode:Int)==4)=qa:=by rw[a];rfl
  rw[b.o,k0t (by decide)];clear b a hm h1;go_enter func197,ntmps197;go_wp2;go_ret;exact⟨q0J (by rw[c.o.1]),(qc _ _).alloc lr _⟩
 ·have b:qi (inner qg mode=qa):=vv (by rw[a];rfl);have d:((mode:Int)==2)=qa:=by rw[a];rfl
  have f:((mode:Int)==3)=qa:=by rw[a];rfl
  have g:((mode:Int)==4)=qa:=by rw[a];rfl
  rw[b.o,k0t (by decide)];clear b a hm h1;go_enter func197,ntmps197;go_wp2;go_ret;exact⟨q0J (by rw[c.o.1]),(qc _ _).alloc lr _⟩
 ·have b:qi (inner qa mode=qg):=vv (by rw[a];rfl);have d:((mode:Int)==2)=qg:=by rw[a];rfl
  have f:((mode:Int)==3)=qa:=by rw[a];rfl
  have g:((mode:Int)==4)=qa:=by rw[a];rfl
  rw[b.o,k0q rfl];clear b a hm h1;go_enter func197,ntmps197;go_wp2;go_ret;exact⟨q0J (by rw[c.o.1,c.o.2]),(qc _ _).alloc lr _⟩
 ·have b:qi (inner qg mode=qg):=vv (by rw[a];rfl);have d:((mode:Int)==2)=qg:=by rw[a];rfl
  have f:((mode:Int)==3)=qa:=by rw[a];rfl
  have g:((mode:Int)==4)=qa:=by rw[a];rfl
  rw[b.o,k0q rfl];clear b a hm h1;go_enter func197,ntmps197;go_wp2;go_ret;exact⟨q0J (by rw[c.o.1,c.o.2]),(qc _ _).alloc lr _⟩
 ·have b:qi (inner qa mode=qa):=vv (by rw[a];rfl);have d:((mode:Int)==2)=qa:=by rw[a];rfl
  have f:((mode:Int)==3)=qg:=by rw[a];rfl
  have g:((mode:Int)==4)=qa:=by rw[a];rfl
  rw[b.o,k0t (by decide)];clear b a hm h1;go_enter func197,ntmps197;go_wp2;go_ret;exact⟨q0J (by rw[c.o.1]),(qc _ _).alloc lr _⟩
 ·have b:qi (inner qg mode=qg):=vv (by rw[a];rfl);have d:((mode:Int)==2)=qa:=by rw[a];rfl
  have f:((mode:Int)==3)=qg:=by rw[a];rfl
  have g:((mode:Int)==4)=qa:=by rw[a];rfl
  rw[b.o,k0q rfl];clear b a hm h1;go_enter func197,ntmps197;go_wp2;go_ret;exact⟨q0J (by rw[c.o.1,c.o.2]),(qc _ _).alloc lr _⟩
 ·have b:qi (inner qa mode=qg):=vv (by rw[a];rfl);have d:((mode:Int)==2)=qa:=by rw[a];rfl
  have f:((mode:Int)==3)=qa:=by rw[a];rfl
  have g:((mode:Int)==4)=qg:=by rw[a];rfl
  rw[b.o,k0q rfl];clear b a hm h1;go_enter func197,ntmps197;go_wp2;go_ret;exact⟨q0J (by rw[c.o.1,c.o.2]),(qc _ _).alloc lr _⟩
 ·have b:qi (inner qg mode=qa):=vv (by rw[a];rfl);have d:((mode:Int)==2)=qa:=by rw[a];rfl
  have f:((mode:Int)==3)=qa:=by rw[a];rfl
  have g:((mode:Int)==4)=qg:=by rw[a];rfl
  rw[b.o,k0t (by decide)];clear b a hm h1;go_enter func197,ntmps197;go_wp2;go_ret;exact⟨q0J (by rw[c.o.1]),(qc _ _).alloc lr _⟩
structure FmAt(w:qh)(g:Nat)(E F:Int):Prop where
 c0:w.cell? ⟨g,0,qd⟩=qf (.int .i64 E)
 c1:w.cell? ⟨g,1,qd⟩=qf (.int .i64 F)
 lt:g<w.heap.size
theorem FmAt.made(w:qh)(E F:Int)(t:TypeId):FmAt (w.alloc (.cells #[.int .i64 E,.int .i64 F] t)) w.heap.size E F:=⟨by simp only[World.cell?];rw[qm];rfl,by simp only[World.cell?];rw[qm];rfl,by simp⟩
theorem FmAt.below{E F:Int}(h:FmAt w g E F)(hb:qe w.heap.size w w'):FmAt w' g E F:=⟨(hb.cell (p:=⟨g,0,qd⟩) h.lt).trans h.c0,(hb.cell (p:=⟨g,1,qd⟩) h.lt).trans h.c1,k02 h.lt hb.size⟩
theorem q9T(h:F<=52):wrap64 (wrap64 (2^(F+1))-1)=((2^(F+1)-1:Nat):Int):=by
 have a:=q5P (k:=F+1) (by omega);have b:=k0c (F+1);have c:((2^(F+1):Nat):Int)=(2:Int)^(F+1):=by rw[k0F];rfl
 unfold wrap64;omega
theorem q6a(E F:Nat)(w:qh)(h1:2<=E)(h2:E<=11)(h3:1<=F)(h4:F<=52)(hst:Std w):qk qb 196 #[fm E F] w (q1d (((2^(F+1)-1)*p2 (q09 E-F):Nat):Int) (p2 (F-q09 E)) w):=by
 have a5:=q0X h1;have a6:=q22 h2;have HW:=vv (q9T h4);have P:qi (IntKind.i64.wrap (q09 E-(F:Int))=q09 E-F):=vv (ql _ (by omega));have Q:=vv fun w=>qb2 E F w h1 h2
 have L:=vv fun w=>q3L (q09 E-F) w (by omega) (by omega)
 have a1:2^(F+1)<=2^62:=k04 (by omega) (by omega);have I:qi (-9223372036854775808<=((2^(F+1)-1:Nat):Int)/\((2^(F+1)-1:Nat):Int)<=9223372036854775807):=vv (by omega);have R:qi (Sz (2^(F+1)-1)/\Sz 1/\Sz (p2 (q09 E-F))/\Sz (p2 (-(q09 E-F)))):=vv ⟨Sz.small (by omega),by unfold Sz;decide,(Sm.p2 (by omega)).sz,(Sm.p2 (by omega)).sz⟩;have Y:qi ((((2^(F+1)-1:Nat):Int)*((p2 (q09 E-F):Nat):Int))=(((2^(F+1)-1)*p2 (q09 E-F):Nat):Int)/\1*p2 (-(q09 E-F))=p2 (-(q09 E-F))/\p2 (-(q09 E-F))=p2 (F-q09 E)):=vv ⟨by rw[k07],k0J _,by congr 1;omega⟩;obtain⟨C,S⟩:=yx (w.alloc (.cells #[.int .i64 (E:Int),.int .i64 (F:Int)] 23));have T:qi (qe w.heap.size w C):=vv (by rw[S];exact(qc _ w).alloc lr _);have k:qi (FmAt C w.heap.size E F):=vv (by rw[S];exact FmAt.made w _ _ _);have a2:=vv (hst.fs (Fs.of_nil T.o));have a3:=vv S;clear a1 S hst h1 h2;go_enter func196,ntmps196;go_wp2_with fail;rw[HW.o,<- a3.o];refine q02 (fun w'=>w'.cell? ⟨w.heap.size,0,qd⟩=qf (.int .i64 (E:Int))/\w'.cell? ⟨w.heap.size,1,qd⟩=qf (.int .i64 (F:Int))) 10
  (.still 2 (.still 4 (.still 6 (.still 7 (.two 0 (.one 1 (.one 3 (.one 5 (.still 8 (.one 9 .done))))) 1 (.two 0 (.one 3 (.one 5 (.still 8 (.one 9 .done)))) 3 (.two 0 (.one 5 (.still 8 (.one 9 .done))) 5 (.still 8 (.two 0 (.one 9 .done) 9 (.one 0 .done))))))))))
  (by kernel_rfl) (by kernel_rfl) (fun _ _ d _ _ h=>by cases d<;>exact h) ⟨k.o.c0,k.o.c1⟩ (fun hS0=>?_)
 iterate 4
  refine q00 (v:=?_) rfl (by rfl) ?_ ?_;rotate_left
  ·intro w U;go_simp;with_reducible rfl
  simp only[Act.put,sa,sb,sc]
 have Z:qe C.heap.size C C.drew:=q05 (qc _ _);obtain⟨wc,a0⟩:=yx (C.drew);rw[<- a0] at Z hS0 ⊢;have b:=vv Z;clear Z a0;refine q0A rfl (by rfl) rfl (by rfl) (fun K hK=>?_) (fun K hK=>?_)
 focus
  go_simp;obtain⟨p,a⟩:=q0M wc;obtain⟨n,t⟩:=yx (wc.heap.size);have J:C.heap.size<=n:=by have:=b.o.size;omega
  have u:∀g,g<wc.heap.size->g≠n:=fun g h=>by omega
  have x:=vv u;obtain⟨wn,q⟩:=yx (wc.alloc q2l);rw[<- q] at p a ⊢;rw[<- t] at p ⊢
  try have y:qi (m≠n):=vv (x.o m i.o.lt)
  try have y:qi (m≠n):=vv (x.o m j.o.lt)
  clear u q t
  try have f:=vv (f.o.below a)
  try have i:=vv (i.o.below a)
  try have j:=vv (j.o.below a)
  try have l:=vv (l.o.below a)
  have c:=b.o.trans (a.mono b.o.size);have b:=vv c;clear a c;obtain⟨wc,rfl⟩:=yx wn;have f:=vv p;clear p;go_wp2_with fail;refine hK.out _ _ ⟨(k.o.below b.o).c0,(k.o.below b.o).c1⟩ (fun r=>?_);clear hK;refine q03 rfl (by rfl) (fun K hK=>?_);go_simp;obtain⟨D,a⟩:=q0M wc;obtain⟨m,M⟩:=yx (wc.heap.size);have V:C.heap.size<=m:=by have:=b.o.size;omega
  have N:∀g,g<wc.heap.size->g≠m:=fun g h=>by omega
  have X:=vv N;obtain⟨wn,q⟩:=yx (wc.alloc q2l);rw[<- q] at D a ⊢;rw[<- M] at D ⊢
  try have y:qi (m≠n):=vv (Ne.symm (X.o n f.o.lt))
  clear N q M
  try have f:=vv (f.o.below a)
  try have i:=vv (i.o.below a)
  try have j:=vv (j.o.below a)
  try have l:=vv (l.o.below a)
  have c:=b.o.trans (a.mono b.o.size);have b:=vv c;clear a c;obtain⟨wc,rfl⟩:=yx wn;have i:=vv D;clear D;go_wp2_with fail;refine hK.out _ _ ⟨(k.o.below b.o).c0,(k.o.below b.o).c1⟩ (fun r=>?_);clear hK;refine q03 rfl (by rfl) (fun K hK=>?_);go_simp;refine(B.SetInt64R m _ _ i.o.sh I.o.1 I.o.2).mono ?_;rintro e wn s
  try have f:=vv (f.o.fs1 s.2.2 y.o)
  have c:=s.below b.o b.o.size V;have b:=vv c;obtain⟨rfl,G,-⟩:=s;have j:=vv G;clear G c i;obtain⟨wc,rfl⟩:=yx wn;go_wp2_with fail;refine hK.out _ _ ⟨(k.o.below b.o).c0,(k.o.below b.o).c1⟩ (fun r=>?_);clear hK;refine q03 rfl (by rfl) (fun K hK=>?_);go_simp;refine(Q.o _).mono ?_;rintro e wn ⟨rfl,a⟩
  try have f:=vv (f.o.below a)
  try have i:=vv (i.o.below a)
  try have j:=vv (j.o.below a)
  try have l:=vv (l.o.below a)
  have c:=b.o.trans (a.mono b.o.size);have b:=vv c;clear a c;obtain⟨wc,rfl⟩:=yx wn;go_wp2_with fail;refine hK.out _ _ ⟨(k.o.below b.o).c0,(k.o.below b.o).c1⟩ (fun r=>?_);clear hK;have H:=P.o
  iterate 1
   refine q00 (v:=?_) rfl (by rfl) ?_ ?_;rotate_left
   ·intro w U;go_simp;with_reducible rfl
   simp only[Act.put,sa,sb,sc]
  clear H;refine q03 rfl (by rfl) (fun K hK=>?_);go_simp;refine(L.o _).mono ?_;rintro e wn ⟨O,rfl,W,z,a⟩
  try have f:=vv (f.o.below a)
  try have i:=vv (i.o.below a)
  try have j:=vv (j.o.below a)
  try have l:=vv (l.o.below a)
  have c:=b.o.trans (a.mono b.o.size);have b:=vv c;clear a c;obtain⟨wc,rfl⟩:=yx wn;have l:=vv z;clear z;go_wp2_with fail;refine hK.out _ _ ⟨(k.o.below b.o).c0,(k.o.below b.o).c1⟩ (fun r=>?_);clear hK
 rotate_left 1
 focus
  go_simp;obtain⟨D,a⟩:=q0M wc;obtain⟨m,M⟩:=yx (wc.heap.size);have V:C.heap.size<=m:=by have:=b.o.size;omega
  have N:∀g,g<wc.heap.size->g≠m:=fun g h=>by omega
  have X:=vv N;obtain⟨wn,q⟩:=yx (wc.alloc q2l);rw[<- q] at D a ⊢;rw[<- M] at D ⊢
  try have y:qi (m≠n):=vv (Ne.symm (X.o n f.o.lt))
  clear N q M
  try have f:=vv (f.o.below a)
  try have i:=vv (i.o.below a)
  try have j:=vv (j.o.below a)
  try have l:=vv (l.o.below a)
  have c:=b.o.trans (a.mono b.o.size);have b:=vv c;clear a c;obtain⟨wc,rfl⟩:=yx wn;have i:=vv D;clear D;go_wp2_with fail;refine hK.out _ _ ⟨(k.o.below b.o).c0,(k.o.below b.o).c1⟩ (fun r=>?_);clear hK;refine q0A rfl (by rfl) rfl (by rfl) (fun K hK=>?_) (fun K hK=>?_)
  focus
   go_simp;obtain⟨p,a⟩:=q0M wc;obtain⟨n,t⟩:=yx (wc.heap.size);have J:C.heap.size<=n:=by have:=b.o.size;omega
   have u:∀g,g<wc.heap.size->g≠n:=fun g h=>by omega
   have x:=vv u;obtain⟨wn,q⟩:=yx (wc.alloc q2l);rw[<- q] at p a ⊢;rw[<- t] at p ⊢
   try have y:qi (m≠n):=vv (x.o m i.o.lt)
   try have y:qi (m≠n):=vv (x.o m j.o.lt)
   clear u q t
   try have f:=vv (f.o.below a)
   try have i:=vv (i.o.below a)
   try have j:=vv (j.o.below a)
   try have l:=vv (l.o.below a)
   have c:=b.o.trans (a.mono b.o.size);have b:=vv c;clear a c;obtain⟨wc,rfl⟩:=yx wn;have f:=vv p;clear p;go_wp2_with fail;refine hK.out _ _ ⟨(k.o.below b.o).c0,(k.o.below b.o).c1⟩ (fun r=>?_);clear hK;refine q03 rfl (by rfl) (fun K hK=>?_);go_simp;refine(B.SetInt64R m _ _ i.o.sh I.o.1 I.o.2).mono ?_;rintro e wn s
   try have f:=vv (f.o.fs1 s.2.2 y.o)
   have c:=s.below b.o b.o.size V;have b:=vv c;obtain⟨rfl,G,-⟩:=s;have j:=vv G;clear G c i;obtain⟨wc,rfl⟩:=yx wn;go_wp2_with fail;refine hK.out _ _ ⟨(k.o.below b.o).c0,(k.o.below b.o).c1⟩ (fun r=>?_);clear hK;refine q03 rfl (by rfl) (fun K hK=>?_);go_simp;refine(Q.o _).mono ?_;rintro e wn ⟨rfl,a⟩
   try have f:=vv (f.o.below a)
   try have i:=vv (i.o.below a)
   try have j:=vv (j.o.below a)
   try have l:=vv (l.o.below a)
   have c:=b.o.trans (a.mono b.o.size);have b:=vv c;clear a c;obtain⟨wc,rfl⟩:=yx wn;go_wp2_with fail;refine hK.out _ _ ⟨(k.o.below b.o).c0,(k.o.below b.o).c1⟩ (fun r=>?_);clear hK;have H:=P.o
   iterate 1
    refine q00 (v:=?_) rfl (by rfl) ?_ ?_;rotate_left
    ·intro w U;go_simp;with_reducible rfl
    simp only[Act.put,sa,sb,sc]
   clear H;refine q03 rfl (by rfl) (fun K hK=>?_);go_simp;refine(L.o _).mono ?_;rintro e wn ⟨O,rfl,W,z,a⟩
   try have f:=vv (f.o.below a)
   try have i:=vv (i.o.below a)
   try have j:=vv (j.o.below a)
   try have l:=vv (l.o.below a)
   have c:=b.o.trans (a.mono b.o.size);have b:=vv c;clear a c;obtain⟨wc,rfl⟩:=yx wn;have l:=vv z;clear z;go_wp2_with fail;refine hK.out _ _ ⟨(k.o.below b.o).c0,(k.o.below b.o).c1⟩ (fun r=>?_);clear hK
  rotate_left 1
  focus
   go_simp;refine(B.SetInt64R m _ _ i.o.sh I.o.1 I.o.2).mono ?_;rintro e wn s
   try have f:=vv (f.o.fs1 s.2.2 y.o)
   have c:=s.below b.o b.o.size V;have b:=vv c;obtain⟨rfl,G,-⟩:=s;have j:=vv G;clear G c i;obtain⟨wc,rfl⟩:=yx wn;go_wp2_with fail;refine hK.out _ _ ⟨(k.o.below b.o).c0,(k.o.below b.o).c1⟩ (fun r=>?_);clear hK;refine q0A rfl (by rfl) rfl (by rfl) (fun K hK=>?_) (fun K hK=>?_)
   focus
    go_simp;obtain⟨p,a⟩:=q0M wc;obtain⟨n,t⟩:=yx (wc.heap.size);have J:C.heap.size<=n:=by have:=b.o.size;omega
    have u:∀g,g<wc.heap.size->g≠n:=fun g h=>by omega
    have x:=vv u;obtain⟨wn,q⟩:=yx (wc.alloc q2l);rw[<- q] at p a ⊢;rw[<- t] at p ⊢
    try have y:qi (m≠n):=vv (x.o m i.o.lt)
    try have y:qi (m≠n):=vv (x.o m j.o.lt)
    clear u q t
    try have f:=vv (f.o.below a)
    try have i:=vv (i.o.below a)
    try have j:=vv (j.o.below a)
    try have l:=vv (l.o.below a)
    have c:=b.o.trans (a.mono b.o.size);have b:=vv c;clear a c;obtain⟨wc,rfl⟩:=yx wn;have f:=vv p;clear p;go_wp2_with fail;refine hK.out _ _ ⟨(k.o.below b.o).c0,(k.o.below b.o).c1⟩ (fun r=>?_);clear hK;refine q03 rfl (by rfl) (fun K hK=>?_);go_simp;refine(Q.o _).mono ?_;rintro e wn ⟨rfl,a⟩
    try have f:=vv (f.o.below a)
    try have i:=vv (i.o.below a)
    try have j:=vv (j.o.below a)
    try have l:=vv (l.o.below a)
    have c:=b.o.trans (a.mono b.o.size);have b:=vv c;clear a c;obtain⟨wc,rfl⟩:=yx wn;go_wp2_with fail;refine hK.out _ _ ⟨(k.o.below b.o).c0,(k.o.below b.o).c1⟩ (fun r=>?_);clear hK;have H:=P.o
    iterate 1
     refine q00 (v:=?_) rfl (by rfl) ?_ ?_;rotate_left
     ·intro w U;go_simp;with_reducible rfl
     simp only[Act.put,sa,sb,sc]
    clear H;refine q03 rfl (by rfl) (fun K hK=>?_);go_simp;refine(L.o _).mono ?_;rintro e wn ⟨O,rfl,W,z,a⟩
    try have f:=vv (f.o.below a)
    try have i:=vv (i.o.below a)
    try have j:=vv (j.o.below a)
    try have l:=vv (l.o.below a)
    have c:=b.o.trans (a.mono b.o.size);have b:=vv c;clear a c;obtain⟨wc,rfl⟩:=yx wn;have l:=vv z;clear z;go_wp2_with fail;refine hK.out _ _ ⟨(k.o.below b.o).c0,(k.o.below b.o).c1⟩ (fun r=>?_);clear hK
   rotate_left 1
   focus
    go_simp;refine(Q.o _).mono ?_;rintro e wn ⟨rfl,a⟩
    try have f:=vv (f.o.below a)
    try have i:=vv (i.o.below a)
    try have j:=vv (j.o.below a)
    try have l:=vv (l.o.below a)
    have c:=b.o.trans (a.mono b.o.size);have b:=vv c;clear a c;obtain⟨wc,rfl⟩:=yx wn;go_wp2_with fail;refine hK.out _ _ ⟨(k.o.below b.o).c0,(k.o.below b.o).c1⟩ (fun r=>?_);clear hK;have H:=P.o
    iterate 1
     refine q00 (v:=?_) rfl (by rfl) ?_ ?_;rotate_left
     ·intro w U;go_simp;with_reducible rfl
     simp only[Act.put,sa,sb,sc]
    clear H;refine q0A rfl (by rfl) rfl (by rfl) (fun K hK=>?_) (fun K hK=>?_)
    focus
     go_simp;obtain⟨p,a⟩:=q0M wc;obtain⟨n,t⟩:=yx (wc.heap.size);have J:C.heap.size<=n:=by have:=b.o.size;omega
     have u:∀g,g<wc.heap.size->g≠n:=fun g h=>by omega
     have x:=vv u;obtain⟨wn,q⟩:=yx (wc.alloc q2l);rw[<- q] at p a ⊢;rw[<- t] at p ⊢
     try have y:qi (m≠n):=vv (x.o m i.o.lt)
     try have y:qi (m≠n):=vv (x.o m j.o.lt)
     clear u q t
     try have f:=vv (f.o.below a)
     try have i:=vv (i.o.below a)
     try have j:=vv (j.o.below a)
     try have l:=vv (l.o.below a)
     have c:=b.o.trans (a.mono b.o.size);have b:=vv c;clear a c;obtain⟨wc,rfl⟩:=yx wn;have f:=vv p;clear p;go_wp2_with fail;refine hK.out _ _ ⟨(k.o.below b.o).c0,(k.o.below b.o).c1⟩ (fun r=>?_);clear hK;refine q03 rfl (by rfl) (fun K hK=>?_);go_simp;refine(L.o _).mono ?_;rintro e wn ⟨O,rfl,W,z,a⟩
     try have f:=vv (f.o.below a)
     try have i:=vv (i.o.below a)
     try have j:=vv (j.o.below a)
     try have l:=vv (l.o.below a)
     have c:=b.o.trans (a.mono b.o.size);have b:=vv c;clear a c;obtain⟨wc,rfl⟩:=yx wn;have l:=vv z;clear z;go_wp2_with fail;refine hK.out _ _ ⟨(k.o.below b.o).c0,(k.o.below b.o).c1⟩ (fun r=>?_);clear hK
    rotate_left 1
    focus
     go_simp;refine(L.o _).mono ?_;rintro e wn ⟨O,rfl,W,z,a⟩
     try have f:=vv (f.o.below a)
     try have i:=vv (i.o.below a)
     try have j:=vv (j.o.below a)
     try have l:=vv (l.o.below a)
     have c:=b.o.trans (a.mono b.o.size);have b:=vv c;clear a c;obtain⟨wc,rfl⟩:=yx wn;have l:=vv z;clear z;go_wp2_with fail;refine hK.out _ _ ⟨(k.o.below b.o).c0,(k.o.below b.o).c1⟩ (fun r=>?_);clear hK;refine q03 rfl (by rfl) (fun K hK=>?_);go_simp;obtain⟨p,a⟩:=q0M wc;obtain⟨n,t⟩:=yx (wc.heap.size);have J:C.heap.size<=n:=by have:=b.o.size;omega
     have u:∀g,g<wc.heap.size->g≠n:=fun g h=>by omega
     have x:=vv u;obtain⟨wn,q⟩:=yx (wc.alloc q2l);rw[<- q] at p a ⊢;rw[<- t] at p ⊢
     try have y:qi (m≠n):=vv (x.o m i.o.lt)
     try have y:qi (m≠n):=vv (x.o m j.o.lt)
     clear u q t
     try have f:=vv (f.o.below a)
     try have i:=vv (i.o.below a)
     try have j:=vv (j.o.below a)
     try have l:=vv (l.o.below a)
     have c:=b.o.trans (a.mono b.o.size);have b:=vv c;clear a c;obtain⟨wc,rfl⟩:=yx wn;have f:=vv p;clear p;go_wp2_with fail;refine hK.out _ _ ⟨(k.o.below b.o).c0,(k.o.below b.o).c1⟩ (fun r=>?_);clear hK
 all_goals
  refine q07 ?_;go_wp2_with fail;refine(B.MulR n m O _ _ _ _ _ f.o.sh j.o l.o (a2.o.fs (Fs.of_nil b.o)) (by exact R.o.1) R.o.2.1 (by exact R.o.2.2.1) R.o.2.2.2).mono ?_;rintro e wn s;rw[Y.o.1,Y.o.2.1,Y.o.2.2] at s;have a4:=vv (T.o.trans ((s.below b.o b.o.size J).mono T.o.size));obtain⟨rfl,hR,-⟩:=s;have HR:=vv hR;clear hR;go_wp2;go_ret;exact⟨_,rfl,k06 T.o.size J,HR.o,a4.o⟩
theorem FmAt.like{E F:Int}(h:FmAt w g E F)(e:w'.heap=w.heap):FmAt w' g E F:=⟨by rw[<- h.c0];simp only[World.cell?,e],by rw[<- h.c1];simp only[World.cell?,e],by rw[e];exact h.lt⟩
theorem q6F(gx m E F:Nat)(w:qh)(h1:2<=E)(h2:E<=11)(h3:1<=F)(h4:F<=52)(hx:RatAt w gx ((m*p2 (1-q09 E-F):Nat):Int) (p2 (F-(1-q09 E))))(hm:m<2^F)(hst:Std w):qk qb 198 #[fm E F,.pointer (qf ⟨gx,0,qd⟩)] w fun e w'=>e=.returned (.int .u64 (m:Int))/\qe w.heap.size w w':=by
 have b2:=q0X h1;have b3:=q22 h2;have N:=vv fun w=>qb2 E F w h1 h2
 have a4:=vv fun w=>q9m E F w h1 h2
 have G:=vv fun w=>q3L (q09 E-1+F) w (by omega) (by omega)
 have x:qi (IntKind.i64.wrap (q09 E-1)=q09 E-1/\IntKind.i64.wrap (q09 E-1+(F:Int))=q09 E-1+F):=vv ⟨ql _ (by omega),ql _ (by omega)⟩;have a0:2^F<=2^52:=k04 (by omega) h4;have Y:m*p2 (1-q09 E-F)=m:=by rw[q0c (n:=1-q09 E-F) (by omega),k0u]
 have y:qi (Sz (m*p2 (1-q09 E-F))/\Sz (p2 (F-(1-q09 E)))):=vv ⟨by rw[Y];exact Sz.small (by omega),(Sm.p2 (by omega)).sz⟩;have O:qi (Sz (p2 (q09 E-1+F))/\Sz (p2 (-(q09 E-1+F)))):=vv ⟨(Sm.p2 (by omega)).sz,(Sm.p2 (by omega)).sz⟩;have P:qi (Sz (p2 (1-q09 E))/\Sz (p2 (q09 E-1))):=vv ⟨(Sm.p2 (by omega)).sz,(Sm.p2 (by omega)).sz⟩;have HC:qi ((((m*p2 (1-q09 E-F):Nat):Int)*((p2 (q09 E-1+F):Nat):Int))=((m*p2 (1-q09 E-F)*p2 (q09 E-1+F):Nat):Int)):=vv (by rw[k07 _ (p2 (q09 E-1+F))]);have a5:=vv (q74 (E:=E) (F:=F) (m:=m) h1);have a1:qi (m<18446744073709551616):=vv (by omega);have Q:q0y (m*p2 (1-q09 E-F)*p2 (q09 E-1)) (p2 (1-q09 E)*p2 (F-(1-q09 E))) = -1:=by have h:=(q4Y (F:=F) (m:=m) (l:=1-q09 E) h1 (Int.le_refl _) (fun h=>absurd h (Int.lt_irrefl _))).2 ⟨rfl,hm⟩;have:=q5y (m*p2 (1-q09 E-F)*p2 (q09 E-1)) (p2 (1-q09 E)*p2 (F-(1-q09 E)));omega
 have a2:=vv Q;obtain⟨u,z⟩:=yx (w.alloc (.cells #[.int .i64 (E:Int),.int .i64 (F:Int)] 23));have C:qi (qe w.heap.size w u):=vv (by rw[z];exact(qc _ w).alloc lr _);have f:qi (FmAt u w.heap.size E F):=vv (by rw[z];exact FmAt.made w _ _ _);have a6:=vv (hst.fs (Fs.of_nil C.o));have Z:=vv (hx.below C.o);have a7:=vv z;clear z hst hx h1 h2 hm a0 Y Q;go_enter func198,ntmps198;have a3:=f.o.lt;have f0:=f.o.c0;have f1:=f.o.c1;go_wp2_with fail;rw[<- a7.o];go_wp2_with fail;refine(a4.o _).mono ?_;rintro e w1 ⟨g1,rfl,b4,R,S⟩;have a8:=vv R;have T:=vv S;clear R S;go_wp2_with fail;refine(B.CmpR gx g1 _ _ _ _ _ (Z.o.below T.o) a8.o y.o.1 y.o.2 P.o.1 P.o.2).mono ?_;rintro e w2 ⟨rfl,U⟩;rw[a2.o];have a:=vn T U;clear U f0 f1 a3;go_wp2_with fail;refine q02 (fun w'=>w'.cell? ⟨w.heap.size,0,qd⟩=qf (.int .i64 (E:Int))/\w'.cell? ⟨w.heap.size,1,qd⟩=qf (.int .i64 (F:Int))) 9
  (.still 1 (.still 2 (.still 5 (.still 6 (.two 0 (.one 3 (.still 4 (.still 7 (.one 8 .done)))) 3 (.still 4 (.still 7 (.two 0 (.one 8 .done) 8 (.one 0 .done)))))))))
  (by kernel_rfl) (by kernel_rfl) (fun _ _ d _ _ h=>by cases d<;>exact h) ⟨(f.o.below a.o).c0,(f.o.below a.o).c1⟩ (fun hS0=>?_)
 iterate 4
  refine q00 (v:=?_) rfl (by rfl) ?_ ?_;rotate_left
  ·intro w D;go_simp;with_reducible rfl
  simp only[Act.put,sa,sb,sc]
 have J:=q05 a.o;obtain⟨wc,V⟩:=yx (w2.drew);rw[<- V] at J hS0 ⊢;have a:=vv J;clear J V;refine q0A rfl (by rfl) rfl (by rfl) (fun K hK=>?_) (fun K hK=>?_)
 focus
  go_simp;obtain⟨j,b⟩:=q0M wc;obtain⟨t,k⟩:=yx (wc.heap.size);have H:u.heap.size<=t:=by have:=a.o.size;omega
  obtain⟨wn,p⟩:=yx (wc.alloc q2l);rw[<- p] at j b ⊢;rw[<- k] at j ⊢;clear p k
  try have g:=vv (g.o.below b)
  try have i:=vv (i.o.below b)
  have c:=a.o.trans (b.mono a.o.size);have a:=vv c;clear b c;obtain⟨wc,rfl⟩:=yx wn;have g:=vv j;clear j;go_wp2_with fail;refine hK.out _ _ ⟨(f.o.below a.o).c0,(f.o.below a.o).c1⟩ (fun r=>?_);clear hK;refine q03 rfl (by rfl) (fun K hK=>?_);go_simp;refine(N.o _).mono ?_;rintro e wn ⟨rfl,b⟩
  try have g:=vv (g.o.below b)
  try have i:=vv (i.o.below b)
  have c:=a.o.trans (b.mono a.o.size);have a:=vv c;clear b c;obtain⟨wc,rfl⟩:=yx wn;go_wp2_with fail;refine hK.out _ _ ⟨(f.o.below a.o).c0,(f.o.below a.o).c1⟩ (fun r=>?_);clear hK;have s:=x.o.1
  iterate 1
   refine q00 (v:=?_) rfl (by rfl) ?_ ?_;rotate_left
   ·intro w D;go_simp;with_reducible rfl
   simp only[Act.put,sa,sb,sc]
  clear s;have s:=x.o.2
  iterate 1
   refine q00 (v:=?_) rfl (by rfl) ?_ ?_;rotate_left
   ·intro w D;go_simp;with_reducible rfl
   simp only[Act.put,sa,sb,sc]
  clear s;refine q03 rfl (by rfl) (fun K hK=>?_);go_simp;refine(G.o _).mono ?_;rintro e wn ⟨L,rfl,W,q,b⟩
  try have g:=vv (g.o.below b)
  try have i:=vv (i.o.below b)
  have c:=a.o.trans (b.mono a.o.size);have a:=vv c;clear b c;obtain⟨wc,rfl⟩:=yx wn;have i:=vv q;clear q;go_wp2_with fail;refine hK.out _ _ ⟨(f.o.below a.o).c0,(f.o.below a.o).c1⟩ (fun r=>?_);clear hK
 rotate_left 1
 focus
  go_simp;refine(N.o _).mono ?_;rintro e wn ⟨rfl,b⟩
  try have g:=vv (g.o.below b)
  try have i:=vv (i.o.below b)
  have c:=a.o.trans (b.mono a.o.size);have a:=vv c;clear b c;obtain⟨wc,rfl⟩:=yx wn;go_wp2_with fail;refine hK.out _ _ ⟨(f.o.below a.o).c0,(f.o.below a.o).c1⟩ (fun r=>?_);clear hK;have s:=x.o.1
  iterate 1
   refine q00 (v:=?_) rfl (by rfl) ?_ ?_;rotate_left
   ·intro w D;go_simp;with_reducible rfl
   simp only[Act.put,sa,sb,sc]
  clear s;have s:=x.o.2
  iterate 1
   refine q00 (v:=?_) rfl (by rfl) ?_ ?_;rotate_left
   ·intro w D;go_simp;with_reducible rfl
   simp only[Act.put,sa,sb,sc]
  clear s;refine q0A rfl (by rfl) rfl (by rfl) (fun K hK=>?_) (fun K hK=>?_)
  focus
   go_simp;obtain⟨j,b⟩:=q0M wc;obtain⟨t,k⟩:=yx (wc.heap.size);have H:u.heap.size<=t:=by have:=a.o.size;omega
   obtain⟨wn,p⟩:=yx (wc.alloc q2l);rw[<- p] at j b ⊢;rw[<- k] at j ⊢;clear p k
   try have g:=vv (g.o.below b)
   try have i:=vv (i.o.below b)
   have c:=a.o.trans (b.mono a.o.size);have a:=vv c;clear b c;obtain⟨wc,rfl⟩:=yx wn;have g:=vv j;clear j;go_wp2_with fail;refine hK.out _ _ ⟨(f.o.below a.o).c0,(f.o.below a.o).c1⟩ (fun r=>?_);clear hK;refine q03 rfl (by rfl) (fun K hK=>?_);go_simp;refine(G.o _).mono ?_;rintro e wn ⟨L,rfl,W,q,b⟩
   try have g:=vv (g.o.below b)
   try have i:=vv (i.o.below b)
   have c:=a.o.trans (b.mono a.o.size);have a:=vv c;clear b c;obtain⟨wc,rfl⟩:=yx wn;have i:=vv q;clear q;go_wp2_with fail;refine hK.out _ _ ⟨(f.o.below a.o).c0,(f.o.below a.o).c1⟩ (fun r=>?_);clear hK
  rotate_left 1
  focus
   go_simp;refine(G.o _).mono ?_;rintro e wn ⟨L,rfl,W,q,b⟩
   try have g:=vv (g.o.below b)
   try have i:=vv (i.o.below b)
   have c:=a.o.trans (b.mono a.o.size);have a:=vv c;clear b c;obtain⟨wc,rfl⟩:=yx wn;have i:=vv q;clear q;go_wp2_with fail;refine hK.out _ _ ⟨(f.o.below a.o).c0,(f.o.below a.o).c1⟩ (fun r=>?_);clear hK;refine q03 rfl (by rfl) (fun K hK=>?_);go_simp;obtain⟨j,b⟩:=q0M wc;obtain⟨t,k⟩:=yx (wc.heap.size);have H:u.heap.size<=t:=by have:=a.o.size;omega
   obtain⟨wn,p⟩:=yx (wc.alloc q2l);rw[<- p] at j b ⊢;rw[<- k] at j ⊢;clear p k
   try have g:=vv (g.o.below b)
   try have i:=vv (i.o.below b)
   have c:=a.o.trans (b.mono a.o.size);have a:=vv c;clear b c;obtain⟨wc,rfl⟩:=yx wn;have g:=vv j;clear j;go_wp2_with fail;refine hK.out _ _ ⟨(f.o.below a.o).c0,(f.o.below a.o).c1⟩ (fun r=>?_);clear hK
 all_goals
  refine q07 ?_;go_wp2_with fail;refine(B.MulR t gx L _ _ _ _ _ g.o.sh (Z.o.below a.o) i.o (a6.o.fs (Fs.of_nil a.o)) (by exact y.o.1) y.o.2 (by exact O.o.1) O.o.2).mono ?_;rintro e wn M;rw[HC.o] at M;have a9:=vv (M.below a.o a.o.size H);obtain⟨rfl,hR,-⟩:=M;have HR:=vv hR;clear hR;go_wp2_with fail;refine(B.Num t _ _ _ HR.o).mono ?_;rintro e w5 ⟨g5,rfl,b5,I,X⟩;rw[a5.o] at I;have b0:=vv I;have b1:=vn a9 X;clear I X;go_wp2_with fail;refine(B.Uint64 g5 0 _ _ b0.o (by rw[k05];exact a1.o)).mono ?_;rintro e w' ⟨rfl,rfl⟩;go_wp2;go_ret;exact⟨by simp,C.o.trans (b1.o.mono C.o.size)⟩
theorem q68(gx X Y n K R E F:Nat)(e':Int)(w:qh)(h1:2<=E)(h2:E<=11)(h3:1<=F)(h4:F<=52)(hx:RatAt w gx ((X:Nat):Int) Y)(hX:0<X)(sX:Sm X)(sY:Sm Y)
  (hc:¬q0y (X*p2 (q09 E-1)) (p2 (1-q09 E)*Y)<0) (he:q0I X Y=e') (hlp:lp ((X*p2 (F-e'):Nat):Int) (Y*p2 (-(F-e')))=n) (hK:e'+q09 E=K) (hK2:K<=4000) (hn:n<18446744073709551616) (hR:K*2^F+n=R+2^F) (hR2:K*2^F+n<18446744073709551616) (hst:Std w) :
  qk qb 198 #[fm E F,.pointer (qf ⟨gx,0,qd⟩)] w fun e w'=>e=.returned (.int .u64 (R:Int))/\qe w.heap.size w w':=by
 have c9:=q0X h1;have d0:=q22 h2;have a7:=vv fun w=>qb2 E F w h1 h2
 have a8:=vv fun w=>q9m E F w h1 h2
 have d1:-2000<=e':=by omega
 have d2:e'<=4000:=by omega
 have a9:=vv fun w=>q3L (F-e') w (by omega) (by omega)
 have b0:qi (IntKind.i64.wrap (e'+q09 E)=(K:Int)):=vv (by rw[hK];exact ql _ (by omega));have g:qi (Sz X/\Sz Y):=vv ⟨sX.sz,sY.sz⟩;have L:qi (Sm X/\Sm Y):=vv ⟨sX,sY⟩;have M:qi (Sz (p2 (F-e'))/\Sz (p2 (-(F-e')))):=vv ⟨(Sm.p2 (by omega)).sz,(Sm.p2 (by omega)).sz⟩;have N:qi (Sz (p2 (1-q09 E))/\Sz (p2 (q09 E-1))):=vv ⟨(Sm.p2 (by omega)).sz,(Sm.p2 (by omega)).sz⟩;have HC:qi ((X:Int)*((p2 (F-e'):Nat):Int)=((X*p2 (F-e'):Nat):Int)):=vv (by rw[k07]);have b1:=vv hlp;have a1:=vv hn;have HE:=vv he;have b2:=vv hX;have b3:=vv hc;have a2:qi (IntKind.u64.wrap (IntKind.u64.wrap (IntKind.u64.wrap ((K:Int)*2^F)+(n:Int))-IntKind.u64.wrap (2^F))=(R:Int)):=by
  refine vv ?_;have e1:(K:Int)*2^F=((K*2^F:Nat):Int):=by rw[k07,k0F];rfl
  rw[e1,wu_pow (by omega),qn,qn,qn];clear e1;generalize K*2^F=P at *
  generalize 2^F=T at *
  omega
 obtain⟨w0,i⟩:=yx (w.alloc (.cells #[.int .i64 (E:Int),.int .i64 (F:Int)] 23));have j:qi (qe w.heap.size w w0):=vv (by rw[i];exact(qc _ w).alloc lr _);have b:qi (FmAt w0 w.heap.size E F):=vv (by rw[i];exact FmAt.made w _ _ _);have b4:=vv (hst.fs (Fs.of_nil j.o));have z:=vv (hx.below j.o);have b5:=vv i;clear i hst hx h1 h2 sX sY he hlp hK hn hR hR2 hX;go_enter func198,ntmps198;have a3:=b.o.lt;have p:=b.o.c0;have f:=b.o.c1;clear hc;go_wp2_with fail;rw[<- b5.o];go_wp2_with fail;refine(a8.o _).mono ?_;rintro e w1 ⟨g1,rfl,d3,O,Q⟩;have b6:=vv O;have S:=vv Q;clear O Q;go_wp2_with fail;refine(B.CmpR gx g1 _ _ _ _ _ (z.o.below S.o) b6.o g.o.1 g.o.2 N.o.1 N.o.2).mono ?_;rintro e w2 ⟨rfl,U⟩;obtain⟨t,C⟩:=yx (q0y (X*p2 (q09 E-1)) (p2 (1-q09 E)*Y));have b7:qj (t<0)=qa:=by rw[C];exact k00 (by have:=b3.o;omega)
 rw[<- C];have c:=vn S U;clear U p f a3 C;go_wp2_with fail;refine(log gx X Y _ (z.o.below c.o) b2.o L.o.1 L.o.2).mono ?_;rintro e D ⟨rfl,V⟩;rw[HE.o];have c:=vn c V;have f:=(b.o.below c.o).c1;have c7:=(b.o.below c.o).lt;clear V b7;go_wp2_with fail;obtain⟨G,q⟩:=q0M D;obtain⟨w4,W⟩:=yx (D.alloc q2l);rw[<- W] at G q ⊢;have H:=vv G;have Z:=vn c q;have b8:=c.o.size;have b9:=(b.o.below Z.o).c1;clear G q W f;go_wp2_with fail;refine(a9.o _).mono ?_;rintro e w5 ⟨g5,rfl,d4,a5,r⟩;have c2:=vv a5;have H:=vv (H.o.below r);have k:=vn Z r;clear a5 r b9;go_wp2_with fail;refine(B.MulR D.heap.size gx g5 _ _ _ _ _ H.o.sh (z.o.below k.o) c2.o (b4.o.fs (Fs.of_nil k.o)) (by exact g.o.1) g.o.2 (by exact M.o.1) M.o.2).mono ?_;rintro e w6 I;rw[HC.o] at I;have l:=vv (I.below k.o k.o.size b8);obtain⟨rfl,hR,-⟩:=I;have J:=vv hR;have p:=(b.o.below l.o).c0;have f:=(b.o.below l.o).c1;have a6:=vv (b.o.below l.o);have c8:=a6.o.lt;clear hR;go_wp2_with fail;refine q02 (fun w'=>w'.cell? ⟨w.heap.size,0,qd⟩=qf (.int .i64 (E:Int))/\w'.cell? ⟨w.heap.size,1,qd⟩=qf (.int .i64 (F:Int))) 18
  (.still 0 (.still 1 (.still 5 (.still 6 (.still 7 (.still 9 (.still 13 (.still 14 (.still 15 (.still 16 (.one 2 (.still 3 (.still 4 (.still 8 (.one 10 (.one 11 (.still 12 (.still 17 .done)))))))))))))))))) (by kernel_rfl) (by kernel_rfl) (fun _ _ d _ _ h=>by cases d<;>exact h) ⟨p,f⟩ (fun hS0=>?_)
 iterate 10
  refine q00 (v:=?_) rfl (by rfl) ?_ ?_;rotate_left
  ·intro w s;go_simp;with_reducible rfl
  simp only[Act.put,sa,sb,sc]
 refine q03 rfl (by rfl) (fun K hK=>?_);go_simp;refine(a7.o _).mono ?_;rintro e w7 ⟨rfl,a⟩;have a:qe w6.heap.size w6 w7:=⟨a.os,a.tape,a.output,a.size,a.block⟩;have J:=vv (J.o.below a);have u:=vv (a6.o.below a);have c3:=vn l a;clear a p f;go_wp2_with fail;refine hK.out _ _ ⟨u.o.c0,u.o.c1⟩ (fun a0=>?_);clear hK;have c4:=b0.o
 iterate 1
  refine q00 (v:=?_) rfl (by rfl) ?_ ?_;rotate_left
  ·intro w s;go_simp;with_reducible rfl
  simp only[Act.put,sa,sb,sc]
 clear c4
 iterate 2
  refine q00 (v:=?_) rfl (by rfl) ?_ ?_;rotate_left
  ·intro w s;go_simp;with_reducible rfl
  simp only[Act.put,sa,sb,sc]
 refine q03 rfl (by rfl) (fun K hK=>?_);go_simp;refine(B.Num _ _ _ _ J.o).mono ?_;rintro e w8 ⟨g8,rfl,d5,x,y⟩;rw[b1.o] at x;have c5:=vv x;have m:=vv (u.o.below y);have c6:=vn c3 y;clear x y;go_wp2_with fail;refine hK.out _ _ ⟨m.o.c0,m.o.c1⟩ (fun a0=>?_);clear hK;refine q03 rfl (by rfl) (fun K hK=>?_);go_simp;refine(B.Uint64 g8 0 _ _ c5.o (by rw[k05];exact a1.o)).mono ?_;rintro e w' ⟨rfl,rfl⟩;go_wp2_with fail;refine hK.out _ _ ⟨m.o.c0,m.o.c1⟩ (fun a0=>?_);clear hK
 iterate 2
  refine q00 (v:=?_) rfl (by rfl) ?_ ?_;rotate_left
  ·intro w s;go_simp;with_reducible rfl
  simp only[Act.put,sa,sb,sc]
 refine q07 ?_;go_wp2;go_ret;have a4:min F 64=F:=by omega
 exact⟨q0J (by rw[a4];exact a2.o),j.o.trans (c6.o.mono j.o.size)⟩
theorem bl_p2(n:Int)(h:n<=4000):bl (p2 n)<=4001:=by unfold Go.Proofs.YtabcgemembkkcaaGreatDoor.p2;rw[q26];omega
theorem q5z{k:Nat}(h:m<=2^k):bl m<=k+1:=q0B (by rw[k0a];have:=k0c k;omega)
theorem qdg(gx m E F:Nat)(l:Int)(w:qh)(h1:2<=E)(h2:E<=11)(h3:1<=F)(h4:F<=52)(hx:RatAt w gx ((m*p2 (l-F):Nat):Int) (p2 (F-l)))(hl:1-q09 E<=l)(hl2:l<=q09 E)(hm:m<=2^(F+1))(hm2:1-q09 E<l->2^F<=m)(hst:Std w):qk qb 198 #[fm E F,.pointer (qf ⟨gx,0,qd⟩)] w fun e w'=>e=.returned (.int .u64 ((m+(l+q09 E-1).toNat*2^F:Nat):Int))/\qe w.heap.size w w':=by
 have o:=q0X h1;have p:=q22 h2;have j:=q4Y (F:=F) (m:=m) h1 hl hm2;have q:2^F<=2^52:=k04 (by omega) h4;have r:=k0c F;by_cases hs:l=1-q09 E/\m<2^F
 ·obtain⟨rfl,hm⟩:=hs;have:=q6F gx m E F w h1 h2 h3 h4 hx hm hst;rw[show(1-q09 E+q09 E-1).toNat=0 by omega,k1T,k18];exact this
 have n:2^F<=m:=by
  rcases k17 (1-q09 E) l with h|h
  ·exact hm2 h
  ·rcases k0A m (2^F) with k|k
   ·exact absurd ⟨by omega,k⟩ hs
   ·exact k
 have d:¬q0y (m*p2 (l-F)*p2 (q09 E-1)) (p2 (1-q09 E)*p2 (F-l))<0:=fun h=>hs (j.1 h)
 have f:Sm (m*p2 (l-F)):=by have u:=q0n m (p2 (l-F));have v:=bl_p2 (l-F) (by omega);have x:=q5z hm;unfold Sm;omega
 have g:Sm (p2 (F-l)):=Sm.p2 (by omega);have c:0<m*p2 (l-F):=k0j (by omega) (q0l _);have s:(l+q09 E-1).toNat*2^F<=2045*2^F:=k0n _ (by omega);have t:2^(F+1)=2*2^F:=by rw[k0a,k0b]
 rcases k0A m (2^(F+1)) with i|i
 ·have b:(l+q09 E).toNat=(l+q09 E-1).toNat+1:=by omega
  have a:(l+q09 E).toNat*2^F=(l+q09 E-1).toNat*2^F+2^F:=by rw[b,k0Z,k0J]
  exact q68 gx _ _ m (l+q09 E).toNat _ E F l w h1 h2 h3 h4 hx c f g d (q5Q n i) q8J (by omega) (by omega) (by omega) (by rw[a];omega) (by rw[a];omega) hst
 ·obtain rfl:m=2^(F+1):=by omega
  have b:(l+1+q09 E).toNat=(l+q09 E-1).toNat+2:=by omega
  have a:(l+1+q09 E).toNat*2^F=(l+q09 E-1).toNat*2^F+2*2^F:=by rw[b,k0Z]
  exact q68 gx _ _ (2^F) (l+1+q09 E).toNat _ E F (l+1) w h1 h2 h3 h4 hx c f g d q7j q7i (by omega) (by omega) (by omega) (by rw[a];omega) (by rw[a];omega) hst
theorem q7I:(bl a:Int)-bl b-1<=q0I a b/\q0I a b<=(bl a:Int)-bl b:=by unfold q0I;split<;>omega
def q56(S:Nat)(o:Nat × Nat)(w:qh)(e:Ending)(w':qh):Prop:=e=.returned (.tuple #[.int .u64 ((S+o.1:Nat):Int),.int .u8 (o.2:Int)])/\qe w.heap.size w w'
theorem q4f{k l:IntKind}{a b c d:Int}(h:a=b)(h':c=d):Ending.returned (.tuple #[.int k a,.int l c])=.returned (.tuple #[.int k b,.int l d]):=by rw[h,h']
def sgb(E F:Nat)(b:Bool):Nat:=if b then 2^(E+F) else 0
theorem q9l(gx b E F:Nat)(neg:Bool)(mode:Nat)(w:qh)(h1:2<=E)(h2:E<=11)(h3:1<=F)(h4:F<=52)(hx:RatAt w gx 0 b):qk qb 107 #[fm E F,.pointer (qf ⟨gx,0,qd⟩),.bool neg,.int .u8 (mode:Int)] w (q56 (sgb E F neg) (0,0) w):=by
 obtain⟨d,f⟩:=yx (w.alloc (.cells #[.int .i64 (E:Int),.int .i64 (F:Int)] 23));have c:qi (qe w.heap.size w d):=vv (by rw[f];exact(qc _ w).alloc lr _);have n:qi (FmAt d w.heap.size E F):=vv (by rw[f];exact FmAt.made w _ _ _);have g:=vv (B.RSign gx 0 b d (hx.below c.o));have j:=vv f;have k:=vv fun w=>Sign E F w h1 h2 h3 h4
 have l:=vv fun a (hb:qe d.heap.size d a)=>B.RSign gx 0 b a ((hx.below c.o).below hb)
 clear hx f h1 h2 h3 h4;obtain⟨p,q,m⟩:=n.o;go_enter func107,ntmps107;go_wp2_with fail;rw[<- j.o];refine g.o.mono ?_;rintro e a ⟨rfl,rfl⟩;rw[k2a];go_wp2_with fail;refine g.o.mono ?_;rintro e a ⟨rfl,rfl⟩;rw[k2a];cases neg
 ·go_wp2_with fail;refine g.o.mono ?_;rintro e a ⟨rfl,rfl⟩;rw[k2a];go_wp2;go_ret2;exact⟨by simp [sgb],c.o⟩
 ·go_wp2_with fail;refine(k.o _).mono ?_;rintro e r ⟨rfl,h⟩;have i:=vv h;clear p q m h;go_wp2_with fail;refine(l.o _ i.o).mono ?_;rintro e a ⟨rfl,rfl⟩;rw[k2a];go_wp2;go_ret2;exact⟨by simp [sgb],c.o.trans (i.o.mono c.o.size)⟩
theorem q4j(h:over E F neg mode a b=qg):out E F neg mode a b=(if inner neg mode then q1X E F-1 else q1X E F,3):=by unfold out;rw[k0q h]
theorem q9t(h:over E F neg mode a b=qa):out E F neg mode a b=(q1J E F neg mode a b,q1b E F neg mode a b):=by unfold out;rw[h];rfl
theorem q9w(h:over E F neg mode a b=qa):q0x E a b<=q09 E:=by unfold over at h;rw[Bool.or_eq_false_iff,k11] at h;have:=h.1;omega
theorem q83(h:out E F neg mode a b=(q1J E F neg mode a b,q1b E F neg mode a b)):q2m E F neg mode a b+(q0x E a b+q09 E-1).toNat*2^F<2^(E+F):=by
 have f:2^F<=2^(E+F):=k04 (by omega) (by omega);have g:=k0c F;by_cases ho:over E F neg mode a b=qg
 ·have c:=q4j ho;rw[h] at c;have d:q1J E F neg mode a b=if inner neg mode then q1X E F-1 else q1X E F:=k0v Prod.fst c;show q1J E F neg mode a b<_;rw[d];unfold q1X;split<;>omega
 ·unfold over at ho;have e:¬q1X E F<=q1J E F neg mode a b:=fun k=>ho (by rw[k03 k,Bool.or_true])
  show q1J E F neg mode a b<_;unfold q1X at e;omega
theorem qaV(gx b E F X:Nat)(neg:Bool)(mode:Nat)(w:qh)(h1:2<=E)(h2:E<=11)(h3:1<=F)(h4:F<=52)(hx:RatAt w gx (X:Int) b)(hX:0<X)(sX:bl X<=1073741824)(sb:bl b<=1073741824)(hst:Std w)(hm:mode<=4):qk qb 107 #[fm E F,.pointer (qf ⟨gx,0,qd⟩),.bool neg,.int .u8 (mode:Int)] w (q56 (sgb E F qa) (out E F qa mode X b) w):=by
 have J:qi ((X:Int).sign=1):=vv (k0o (by omega));have b0:qi (((X:Int).natAbs:Int)=(X:Int)):=vv (by omega);have g1:=q0X h1;have g2:=q22 h2;have t:=hx.pos;have e2:=q7I (a:=X) (b:=b);have e3:-1073741900<=q0x E X b/\q0x E X b<=1073742900:=by unfold q0x;omega
 have Y:=q3x (E:=E) (F:=F) (neg:=qa) (mode:=mode) hX t;have d3:=q5r (F:=F) (neg:=qa) (mode:=mode) hX t;obtain⟨S,hS⟩:∃S:Nat,S=2^(E+F):=⟨_,rfl⟩;obtain⟨V,Q⟩:∃V:Nat,V=if inner qa mode then q1X E F-1 else q1X E F:=⟨_,rfl⟩;obtain⟨W,R⟩:∃W:Nat,W=q2m E F qa mode X b+(q0x E X b+q09 E-1).toNat*2^F:=⟨_,rfl⟩;have d4:2^(E+F)<=2^63:=k04 (by omega) (by omega);have a1:qi (∀v:Nat,v<2^(E+F)->IntKind.u64.wrap ((v:Int))=((sgb E F qa+v:Nat):Int)):=vv fun v hv=>by rw[<- hS] at d4 hv;rw[qn];show _=((0+v:Nat):Int);omega
 have e4:qi (V<2^(E+F)):=vv (by have:=k0c F;have g3:2^F<=2^(E+F):=k04 (by omega) (by omega);rw[Q];unfold q1X;split<;>omega);have e5:qi (q0x E X b<=q09 E->out E F qa mode X b=(q1J E F qa mode X b,q1b E F qa mode X b)->W<2^(E+F)):=vv fun _ ho=>R ▸ q83 ho
 have Z:qi (IntKind.i64.wrap (1-q09 E)=1-q09 E/\IntKind.i64.wrap (q0x E X b-(F:Int))=q0x E X b-F/\IntKind.i64.wrap (q0I X b-(F:Int))=q0I X b-F):=vv ⟨ql _ (by omega),ql _ (by omega),ql _ (by omega)⟩;have c4:qi (max (q0I X b) (1-q09 E)=q0x E X b):=vv rfl;have HU:qi (∀g w,RatAt w g (X:Int) b->Std w->qk qb 194 #[.pointer (qf ⟨g,0,qd⟩),.int .i64 (q0x E X b-F),.bool qa,.int .u8 (mode:Int)] w (q1d ((q2m E F qa mode X b*p2 (q0x E X b-F):Nat):Int) (p2 (F-q0x E X b)) w)):=vv fun g w hg hs=>by have:=qci g X b (q0x E X b-F) qa mode w hg (by omega) (by omega) sX sb hs hm;rw[show -(q0x E X b-(F:Int))=F-q0x E X b by omega] at this;exact this
 have e6:qi (∀g w,RatAt w g (X:Int) b->Std w->qk qb 194 #[.pointer (qf ⟨g,0,qd⟩),.int .i64 (q0I X b-F),.bool qa,.int .u8 (mode:Int)] w (q1d ((q28 F qa mode X b*p2 (q0I X b-F):Nat):Int) (p2 (F-q0I X b)) w)):=vv fun g w hg hs=>by have:=qci g X b (q0I X b-F) qa mode w hg (by omega) (by omega) sX sb hs hm;rw[show -(q0I X b-(F:Int))=F-q0I X b by omega] at this;exact this
 have hM:bl (q2m E F qa mode X b)<=F+2:=q5z Y;have e7:bl (q28 F qa mode X b)<=F+2:=q5z d3;have b1:bl (p2 (q0x E X b-F))<=1073742902:=by unfold Go.Proofs.YtabcgemembkkcaaGreatDoor.p2;rw[q26];omega
 have b2:bl (p2 (F-q0x E X b))<=1073742902:=by unfold Go.Proofs.YtabcgemembkkcaaGreatDoor.p2;rw[q26];omega
 have b3:bl (p2 (q0I X b-F))<=1073742902:=by unfold Go.Proofs.YtabcgemembkkcaaGreatDoor.p2;rw[q26];omega
 have b4:bl (p2 (F-q0I X b))<=1073742902:=by unfold Go.Proofs.YtabcgemembkkcaaGreatDoor.p2;rw[q26];omega
 have b5:bl (p2 (q09 E-F))<=4001:=bl_p2 _ (by omega);have b6:bl (p2 (F-q09 E))<=4001:=bl_p2 _ (by omega);have b7:bl (p2 (1-q09 E))<=4001:=bl_p2 _ (by omega);have b8:bl (p2 (q09 E-1))<=4001:=bl_p2 _ (by omega);have b9:bl (2^(F+1)-1)<=F+2:=q5z (by omega);have c1:=q0n (q2m E F qa mode X b) (p2 (q0x E X b-F));have c2:=q0n (q28 F qa mode X b) (p2 (q0I X b-F));have c3:=q0n (2^(F+1)-1) (p2 (q09 E-F));have z:qi (Sz (q2m E F qa mode X b*p2 (q0x E X b-F))/\Sz (p2 (F-q0x E X b))/\Sz ((2^(F+1)-1)*p2 (q09 E-F))/\Sz (p2 (F-q09 E))):=vv (by unfold Sz;exact⟨by omega,by omega,by omega,by omega⟩);have L:qi (Sz (q28 F qa mode X b*p2 (q0I X b-F))/\Sz (p2 (F-q0I X b))/\Sz (p2 (1-q09 E))/\Sz (p2 (q09 E-1))):=vv (by unfold Sz;exact⟨by omega,by omega,by omega,by omega⟩);have M:qi (Sm X/\Sm b):=vv (by unfold Sm;exact⟨by omega,by omega⟩);have e8:=vv hX;have c5:=vv (q5M (E:=E) (F:=F) (neg:=qa) (mode:=mode) (a:=X) t);have c6:=vv (q4I (E:=E) (F:=F) (neg:=qa) (mode:=mode) hX t h1);have c7:=vv (q5R (E:=E) (F:=F) (neg:=qa) (mode:=mode) hX t h1);have e9:qi (∀g w,RatAt w g ((q2m E F qa mode X b*p2 (q0x E X b-F):Nat):Int) (p2 (F-q0x E X b))->q0x E X b<=q09 E->Std w->qk qb 198 #[fm E F,.pointer (qf ⟨g,0,qd⟩)] w fun e k=>e=.returned (.int .u64 (W:Int))/\qe w.heap.size w k):=vv fun g w hg hl hs=>R ▸
  qdg g _ E F _ w h1 h2 h3 h4 hg q7C hl Y (fun h=>q5k hX t (by have:=q7B h;omega)) hs
 have f2:=vv fun w hs=>q6a E F w h1 h2 h3 h4 hs
 have c8:=vv fun w=>q9m E F w h1 h2
 have f3:=vv fun w=>qb2 E F w h1 h2
 have f4:qi (∀w,qk qb 197 #[fm E F,.bool qa,.int .u8 (mode:Int)] w fun e k=>e=.returned (.int .u64 (V:Int))/\qe w.heap.size w k):=vv fun w=>Q ▸ q9H E F qa mode w h1 h2 h3 h4 hm
 have g4:qi (∀w,qk qb 87 #[fm E F] w fun e k=>e=.returned (.int .u64 (S:Int))/\qe w.heap.size w k):=vv fun w=>hS ▸ Sign E F w h1 h2 h3 h4
 have c9:qi (over E F qa mode X b=qg->out E F qa mode X b=(V,3)):=vv fun h=>Q ▸ q4j h
 have d0:qi (over E F qa mode X b=qa->out E F qa mode X b=(q1J E F qa mode X b,q1b E F qa mode X b)/\q1J E F qa mode X b=W):=vv fun h=>⟨q9t h,R ▸ rfl⟩
 obtain⟨s,N⟩:=yx (w.alloc (.cells #[.int .i64 (E:Int),.int .i64 (F:Int)] 23));have u:qi (qe w.heap.size w s):=vv (by rw[N];exact(qc _ w).alloc lr _);have l:qi (FmAt s w.heap.size E F):=vv (by rw[N];exact FmAt.made w _ _ _);have O:=vv (hst.fs (Fs.of_nil u.o));have HX:=vv (hx.below u.o);have f5:=vv N;have P:=vv fun k (hb:qe s.heap.size s k)=>B.RSign gx _ b k ((hx.below u.o).below hb)
 clear hS Q R d4 hx hst N Y d3 hM e7 b1 b2 b3 b4 b5 b6 b7 b8 b9 c1 c2 c3 e3 e2 sX sb hX h1 h2 hm t;have f:qi (qe s.heap.size s s):=vv (qc _ _);obtain⟨q,r,y⟩:=l.o;go_enter func107,ntmps107;go_wp2_with fail;rw[<- f5.o];go_wp2_with fail;refine(P.o _ f.o).mono ?_;rintro e k ⟨rfl,rfl⟩;rw[J.o];go_wp2_with fail;refine(P.o _ f.o).mono ?_;rintro e k ⟨rfl,rfl⟩;rw[J.o];go_wp2_with fail;refine(P.o _ f.o).mono ?_;rintro e k ⟨rfl,rfl⟩;rw[J.o];go_wp2_with fail;refine(P.o _ f.o).mono ?_;rintro e k ⟨rfl,rfl⟩;rw[J.o];obtain⟨wc,a3⟩:∃x:qh,x=s:=⟨_,rfl⟩;have f:qi (qe s.heap.size s wc):=vv (by rw[a3];exact qc _ _);rw[<- a3];clear a3 q r y;go_wp2_with fail;obtain⟨T,c⟩:=q0M wc;obtain⟨D,d5⟩:=yx (wc.heap.size);have d1:s.heap.size<=D:=by have:=f.o.size;omega
 obtain⟨wn,d6⟩:=yx (wc.alloc q2l);rw[<- d6] at T c ⊢;rw[<- d5] at T ⊢;have HZ:=vv T;have f:=vn f c;clear d6 d5 T c;refine(B.AbsR D gx _ _ _ HZ.o.sh (HX.o.below f.o)).mono ?_;rintro e wc hP;rw[b0.o] at hP;have i:=hP.below f.o f.o.size d1;have f:=vv i;obtain⟨rfl,d7,-⟩:=hP;have j:=vv d7;clear d7 i;go_wp2_with fail;refine(log D X b _ j.o e8.o M.o.1 M.o.2).mono ?_;rintro e wn ⟨rfl,c⟩;have j:=vv (j.o.below c);have i:=f.o.trans (c.mono f.o.size);have f:=vv i;clear c i;obtain⟨wc,rfl⟩:=yx wn;have q:=(l.o.below f.o).c0;have r:=(l.o.below f.o).c1;go_wp2_with fail;refine q02 (fun k=>k.cell? ⟨w.heap.size,0,qd⟩=qf (.int .i64 (E:Int))/\k.cell? ⟨w.heap.size,1,qd⟩=qf (.int .i64 (F:Int))) 11
  (.still 0 (.still 1 (.still 2 (.still 6 (.still 7 (.still 9 (.still 10 (.one 3 (.still 4 (.still 5 (.still 8 .done))))))))))) (by kernel_rfl) (by kernel_rfl) (fun _ _ d _ _ h=>by cases d<;>exact h) ⟨q,r⟩ (fun hS0=>?_)
 iterate 7
  refine q00 (v:=?_) rfl (by rfl) ?_ ?_;rotate_left
  ·intro w C;go_simp;with_reducible rfl
  simp only[Act.put,sa,sb,sc]
 refine q03 rfl (by rfl) (fun K hK=>?_);go_simp;refine(f3.o _).mono ?_;rintro e wn ⟨rfl,c⟩;have c:qe wc.heap.size wc wn:=⟨c.os,c.tape,c.output,c.size,c.block⟩;clear q r;have j:=vv (j.o.below c);have i:=f.o.trans (c.mono f.o.size);have f:=vv i;clear c i;obtain⟨wc,rfl⟩:=yx wn;go_wp2_with fail;refine hK.out _ _ ⟨(l.o.below f.o).c0,(l.o.below f.o).c1⟩ (fun a0=>?_);clear hK;have G:=Z.o.1
 iterate 1
  refine q00 (v:=?_) rfl (by rfl) ?_ ?_;rotate_left
  ·intro w C;go_simp;with_reducible rfl
  simp only[Act.put,sa,sb,sc]
 clear G
 iterate 1
  refine q00 (v:=?_) rfl (by rfl) ?_ ?_;rotate_left
  ·intro w C;go_simp;with_reducible rfl
  simp only[Act.put,sa,sb,sc]
 rw[c4.o];have G:=Z.o.2.1
 iterate 1
  refine q00 (v:=?_) rfl (by rfl) ?_ ?_;rotate_left
  ·intro w C;go_simp;with_reducible rfl
  simp only[Act.put,sa,sb,sc]
 clear G;refine q07 ?_;go_wp2_with fail;refine(HU.o D _ j.o (O.o.fs (Fs.of_nil f.o))).mono ?_;rintro e wn ⟨gY,rfl,g5,d8,c⟩;have j:=vv (j.o.below c);have i:=f.o.trans (c.mono f.o.size);have f:=vv i;clear c i;obtain⟨wc,rfl⟩:=yx wn;have m:=vv d8;clear d8 hS0;go_wp2_with fail;refine(B.CmpR gY D _ _ _ _ _ m.o j.o z.o.1 z.o.2.1 M.o.1.sz M.o.2.sz).mono ?_;rintro e wn ⟨rfl,c⟩
 try have n:=vv (n.o.below c)
 try have p:=vv (p.o.below c)
 have m:=vv (m.o.below c);have j:=vv (j.o.below c);have i:=f.o.trans (c.mono f.o.size);have f:=vv i;clear c i;obtain⟨wc,rfl⟩:=yx wn;obtain⟨U,a4⟩:=yx (q0y (q2m E F qa mode X b*p2 (q0x E X b-F)*b) (X*p2 (F-q0x E X b)));rw[<- a4];have H:=vv c5.o;rw[<- a4] at H;clear a4;by_cases hr:q4g E F X b=0
 focus
  have f6:(U==0)=qg:=by rw[H.o.2 hr];rfl
  have d2:(U != 0)=qa:=by rw[H.o.2 hr];rfl
  have a5:qi (q1b E F qa mode X b=0):=vv (k0q hr);clear hr;obtain⟨q,r,y⟩:=(l.o.below f.o)
 rotate_left 1
 focus
  have f6:(U==0)=qa:=by rw[k08];exact fun h=>hr (H.o.1 h)
  have d2:(U != 0)=qg:=by rw[bne_iff_ne];exact fun h=>hr (H.o.1 h)
  have a2:qi (q1b E F qa mode X b=if q2k E F qa mode X b then 5 else 1):=vv (k0t hr);clear hr;have q:=(l.o.below f.o).c0;have r:=(l.o.below f.o).c1;go_wp2_with fail;refine q02 (fun k=>k.cell? ⟨w.heap.size,0,qd⟩=qf (.int .i64 (E:Int))/\k.cell? ⟨w.heap.size,1,qd⟩=qf (.int .i64 (F:Int))) 11
   (.still 0 (.still 1 (.still 2 (.still 3 (.still 4 (.still 5 (.still 6 (.still 8 (.one 7 (.one 9 (.one 10 .done))))))))))) (by kernel_rfl) (by kernel_rfl) (fun _ _ d _ _ h=>by cases d<;>exact h) ⟨q,r⟩ (fun hS0=>?_)
  iterate 4
   refine q00 (v:=?_) rfl (by rfl) ?_ ?_;rotate_left
   ·intro w C;go_simp;with_reducible rfl
   simp only[Act.put,sa,sb,sc]
  have G:=Z.o.2.2
  iterate 1
   refine q00 (v:=?_) rfl (by rfl) ?_ ?_;rotate_left
   ·intro w C;go_simp;with_reducible rfl
   simp only[Act.put,sa,sb,sc]
  clear G
  iterate 3
   refine q00 (v:=?_) rfl (by rfl) ?_ ?_;rotate_left
   ·intro w C;go_simp;with_reducible rfl
   simp only[Act.put,sa,sb,sc]
  refine q03 rfl (by rfl) (fun K hK=>?_);go_simp;refine(e6.o D _ j.o.drew ((O.o.fs (Fs.of_nil f.o)).drew)).mono ?_;rintro e wn ⟨gU,rfl,g6,d9,c⟩;have c:qe wc.heap.size wc wn:=⟨c.os,c.tape,c.output,c.size,c.block⟩;clear q r
  try have n:=vv (n.o.below c)
  try have p:=vv (p.o.below c)
  have m:=vv (m.o.below c);have j:=vv (j.o.below c);have i:=f.o.trans (c.mono f.o.size);have f:=vv i;clear c i;obtain⟨wc,rfl⟩:=yx wn;have n:=vv d9;clear d9;go_wp2_with fail;refine hK.out _ _ ⟨(l.o.below f.o).c0,(l.o.below f.o).c1⟩ (fun a0=>?_);clear hK;refine q03 rfl (by rfl) (fun K hK=>?_);go_simp;refine(c8.o _).mono ?_;rintro e wn ⟨gL,rfl,g7,e0,c⟩
  try have n:=vv (n.o.below c)
  try have p:=vv (p.o.below c)
  have m:=vv (m.o.below c);have j:=vv (j.o.below c);have i:=f.o.trans (c.mono f.o.size);have f:=vv i;clear c i;obtain⟨wc,rfl⟩:=yx wn;have p:=vv e0;clear e0;go_wp2_with fail;refine hK.out _ _ ⟨(l.o.below f.o).c0,(l.o.below f.o).c1⟩ (fun a0=>?_);clear hK;refine q03 rfl (by rfl) (fun K hK=>?_);go_simp;refine(B.CmpR gU gL _ _ _ _ _ n.o p.o L.o.1 L.o.2.1 L.o.2.2.1 L.o.2.2.2).mono ?_;rintro e wn ⟨rfl,c⟩
  try have n:=vv (n.o.below c)
  try have p:=vv (p.o.below c)
  have m:=vv (m.o.below c);have j:=vv (j.o.below c);have i:=f.o.trans (c.mono f.o.size);have f:=vv i;clear c i;obtain⟨wc,rfl⟩:=yx wn;obtain⟨t3,a6⟩:=yx (q0y (q28 F qa mode X b*p2 (q0I X b-F)*p2 (q09 E-1)) (p2 (1-q09 E)*p2 (F-q0I X b)));rw[<- a6];have a7:=vv c6.o;rw[<- a6] at a7;clear a6;go_wp2_with fail;refine hK.out _ _ ⟨(l.o.below f.o).c0,(l.o.below f.o).c1⟩ (fun a0=>?_);clear hK;refine q07 ?_;by_cases hu:q2k E F qa mode X b=qg
  focus
   have f7:qj (t3<0)=qg:=k03 (a7.o.2 hu);have a5:qi (q1b E F qa mode X b=5):=vv (by rw[a2.o,k0q hu]);clear hu;obtain⟨q,r,y⟩:=(l.o.below f.o)
  rotate_left 1
  focus
   have f7:qj (t3<0)=qa:=k00 (fun h=>hu (a7.o.1 h));have a5:qi (q1b E F qa mode X b=1):=vv (by rw[a2.o,k0t hu]);clear hu;obtain⟨q,r,y⟩:=(l.o.below f.o)
 all_goals
  go_wp2_with fail;refine(f2.o _ (O.o.fs (Fs.of_nil f.o))).mono ?_;rintro e wn ⟨gG,rfl,g8,f8,c⟩;have f9:=vv f8
  try have n:=vv (n.o.below c)
  try have p:=vv (p.o.below c)
  have m:=vv (m.o.below c);have j:=vv (j.o.below c);have i:=f.o.trans (c.mono f.o.size);have f:=vv i;clear c i;obtain⟨wc,rfl⟩:=yx wn;go_wp2_with fail;refine(B.CmpR gY gG _ _ _ _ _ m.o f9.o z.o.1 z.o.2.1 z.o.2.2.1 z.o.2.2.2).mono ?_;rintro e wn ⟨rfl,c⟩
  try have n:=vv (n.o.below c)
  try have p:=vv (p.o.below c)
  have m:=vv (m.o.below c);have j:=vv (j.o.below c);have i:=f.o.trans (c.mono f.o.size);have f:=vv i;clear c i;obtain⟨wc,rfl⟩:=yx wn;obtain⟨t2,a8⟩:=yx (q0y (q2m E F qa mode X b*p2 (q0x E X b-F)*p2 (F-q09 E)) ((2^(F+1)-1)*p2 (q09 E-F)*p2 (F-q0x E X b)));rw[<- a8];have a9:=vv c7.o;rw[<- a8] at a9;obtain⟨q,r,y⟩:=(l.o.below f.o);clear a8;by_cases ho:over E F qa mode X b=qg
  ·have g0:qj (0<t2)=qg:=k03 (a9.o.2 ho);have I:=vv (c9.o ho);clear ho;go_wp2_with fail;refine(f4.o _).mono ?_;rintro e wn ⟨rfl,c⟩;have f:=vn f c;clear q r y c;go_wp2;go_ret2;rw[I.o];exact⟨q4f (a1.o _ e4.o) rfl,u.o.trans (f.o.mono u.o.size)⟩
  ·have g0:qj (0<t2)=qa:=k00 (fun h=>ho (a9.o.1 h));have I:=vv (d0.o (by simpa using ho));have e1:=vv (q9w (by simpa using ho));clear ho;go_wp2_with fail;refine(e9.o _ _ m.o e1.o (O.o.fs (Fs.of_nil f.o))).mono ?_;rintro e wn ⟨rfl,c⟩;have f:=vn f c;clear q r y c;go_wp2;go_ret2;rw[I.o.1,a5.o,I.o.2];exact⟨q4f (a1.o _ (e5.o e1.o I.o.1)) rfl,u.o.trans (f.o.mono u.o.size)⟩
theorem qaW(gx b E F X:Nat)(neg:Bool)(mode:Nat)(w:qh)(h1:2<=E)(h2:E<=11)(h3:1<=F)(h4:F<=52)(hx:RatAt w gx (-(X:Int)) b)(hX:0<X)(sX:bl X<=1073741824)(sb:bl b<=1073741824)(hst:Std w)(hm:mode<=4):qk qb 107 #[fm E F,.pointer (qf ⟨gx,0,qd⟩),.bool neg,.int .u8 (mode:Int)] w (q56 (sgb E F qg) (out E F qg mode X b) w):=by
 have U:qi ((-(X:Int)).sign = -1):=vv (k0H (by omega));have b0:qi (((-(X:Int)).natAbs:Int)=(X:Int)):=vv (by omega);have g4:=q0X h1;have g5:=q22 h2;have u:=hx.pos;have e4:=q7I (a:=X) (b:=b);have e5:-1073741900<=q0x E X b/\q0x E X b<=1073742900:=by unfold q0x;omega
 have Y:=q3x (E:=E) (F:=F) (neg:=qg) (mode:=mode) hX u;have d3:=q5r (F:=F) (neg:=qg) (mode:=mode) hX u;obtain⟨S,O⟩:∃S:Nat,S=2^(E+F):=⟨_,rfl⟩;obtain⟨V,P⟩:∃V:Nat,V=if inner qg mode then q1X E F-1 else q1X E F:=⟨_,rfl⟩;obtain⟨W,Q⟩:∃W:Nat,W=q2m E F qg mode X b+(q0x E X b+q09 E-1).toNat*2^F:=⟨_,rfl⟩;have d4:2^(E+F)<=2^63:=k04 (by omega) (by omega);have a1:qi (∀v:Nat,v<2^(E+F)->IntKind.u64.wrap ((S:Int)+(v:Int))=((sgb E F qg+v:Nat):Int)):=vv fun v hv=>by rw[<- O] at d4 hv;rw[qn];show _=((2^(E+F)+v:Nat):Int);rw[<- O];omega
 have e6:qi (V<2^(E+F)):=vv (by have:=k0c F;have g6:2^F<=2^(E+F):=k04 (by omega) (by omega);rw[P];unfold q1X;split<;>omega);have e7:qi (q0x E X b<=q09 E->out E F qg mode X b=(q1J E F qg mode X b,q1b E F qg mode X b)->W<2^(E+F)):=vv fun _ ho=>Q ▸ q83 ho
 have Z:qi (IntKind.i64.wrap (1-q09 E)=1-q09 E/\IntKind.i64.wrap (q0x E X b-(F:Int))=q0x E X b-F/\IntKind.i64.wrap (q0I X b-(F:Int))=q0I X b-F):=vv ⟨ql _ (by omega),ql _ (by omega),ql _ (by omega)⟩;have c4:qi (max (q0I X b) (1-q09 E)=q0x E X b):=vv rfl;have HU:qi (∀g w,RatAt w g (X:Int) b->Std w->qk qb 194 #[.pointer (qf ⟨g,0,qd⟩),.int .i64 (q0x E X b-F),.bool qg,.int .u8 (mode:Int)] w (q1d ((q2m E F qg mode X b*p2 (q0x E X b-F):Nat):Int) (p2 (F-q0x E X b)) w)):=vv fun g w hg hs=>by have:=qci g X b (q0x E X b-F) qg mode w hg (by omega) (by omega) sX sb hs hm;rw[show -(q0x E X b-(F:Int))=F-q0x E X b by omega] at this;exact this
 have e8:qi (∀g w,RatAt w g (X:Int) b->Std w->qk qb 194 #[.pointer (qf ⟨g,0,qd⟩),.int .i64 (q0I X b-F),.bool qg,.int .u8 (mode:Int)] w (q1d ((q28 F qg mode X b*p2 (q0I X b-F):Nat):Int) (p2 (F-q0I X b)) w)):=vv fun g w hg hs=>by have:=qci g X b (q0I X b-F) qg mode w hg (by omega) (by omega) sX sb hs hm;rw[show -(q0I X b-(F:Int))=F-q0I X b by omega] at this;exact this
 have hM:bl (q2m E F qg mode X b)<=F+2:=q5z Y;have e9:bl (q28 F qg mode X b)<=F+2:=q5z d3;have b1:bl (p2 (q0x E X b-F))<=1073742902:=by unfold Go.Proofs.YtabcgemembkkcaaGreatDoor.p2;rw[q26];omega
 have b2:bl (p2 (F-q0x E X b))<=1073742902:=by unfold Go.Proofs.YtabcgemembkkcaaGreatDoor.p2;rw[q26];omega
 have b3:bl (p2 (q0I X b-F))<=1073742902:=by unfold Go.Proofs.YtabcgemembkkcaaGreatDoor.p2;rw[q26];omega
 have b4:bl (p2 (F-q0I X b))<=1073742902:=by unfold Go.Proofs.YtabcgemembkkcaaGreatDoor.p2;rw[q26];omega
 have b5:bl (p2 (q09 E-F))<=4001:=bl_p2 _ (by omega);have b6:bl (p2 (F-q09 E))<=4001:=bl_p2 _ (by omega);have b7:bl (p2 (1-q09 E))<=4001:=bl_p2 _ (by omega);have b8:bl (p2 (q09 E-1))<=4001:=bl_p2 _ (by omega);have b9:bl (2^(F+1)-1)<=F+2:=q5z (by omega);have c1:=q0n (q2m E F qg mode X b) (p2 (q0x E X b-F));have c2:=q0n (q28 F qg mode X b) (p2 (q0I X b-F));have c3:=q0n (2^(F+1)-1) (p2 (q09 E-F));have z:qi (Sz (q2m E F qg mode X b*p2 (q0x E X b-F))/\Sz (p2 (F-q0x E X b))/\Sz ((2^(F+1)-1)*p2 (q09 E-F))/\Sz (p2 (F-q09 E))):=vv (by unfold Sz;exact⟨by omega,by omega,by omega,by omega⟩);have J:qi (Sz (q28 F qg mode X b*p2 (q0I X b-F))/\Sz (p2 (F-q0I X b))/\Sz (p2 (1-q09 E))/\Sz (p2 (q09 E-1))):=vv (by unfold Sz;exact⟨by omega,by omega,by omega,by omega⟩);have L:qi (Sm X/\Sm b):=vv (by unfold Sm;exact⟨by omega,by omega⟩);have f2:=vv hX;have c5:=vv (q5M (E:=E) (F:=F) (neg:=qg) (mode:=mode) (a:=X) u);have c6:=vv (q4I (E:=E) (F:=F) (neg:=qg) (mode:=mode) hX u h1);have c7:=vv (q5R (E:=E) (F:=F) (neg:=qg) (mode:=mode) hX u h1);have f3:qi (∀g w,RatAt w g ((q2m E F qg mode X b*p2 (q0x E X b-F):Nat):Int) (p2 (F-q0x E X b))->q0x E X b<=q09 E->Std w->qk qb 198 #[fm E F,.pointer (qf ⟨g,0,qd⟩)] w fun e k=>e=.returned (.int .u64 (W:Int))/\qe w.heap.size w k):=vv fun g w hg hl hs=>Q ▸
  qdg g _ E F _ w h1 h2 h3 h4 hg q7C hl Y (fun h=>q5k hX u (by have:=q7B h;omega)) hs
 have f4:=vv fun w hs=>q6a E F w h1 h2 h3 h4 hs
 have c8:=vv fun w=>q9m E F w h1 h2
 have f5:=vv fun w=>qb2 E F w h1 h2
 have f6:qi (∀w,qk qb 197 #[fm E F,.bool qg,.int .u8 (mode:Int)] w fun e k=>e=.returned (.int .u64 (V:Int))/\qe w.heap.size w k):=vv fun w=>P ▸ q9H E F qg mode w h1 h2 h3 h4 hm
 have f7:qi (∀w,qk qb 87 #[fm E F] w fun e k=>e=.returned (.int .u64 (S:Int))/\qe w.heap.size w k):=vv fun w=>O ▸ Sign E F w h1 h2 h3 h4
 have c9:qi (over E F qg mode X b=qg->out E F qg mode X b=(V,3)):=vv fun h=>P ▸ q4j h
 have d0:qi (over E F qg mode X b=qa->out E F qg mode X b=(q1J E F qg mode X b,q1b E F qg mode X b)/\q1J E F qg mode X b=W):=vv fun h=>⟨q9t h,Q ▸ rfl⟩
 obtain⟨t,M⟩:=yx (w.alloc (.cells #[.int .i64 (E:Int),.int .i64 (F:Int)] 23));have y:qi (qe w.heap.size w t):=vv (by rw[M];exact(qc _ w).alloc lr _);have l:qi (FmAt t w.heap.size E F):=vv (by rw[M];exact FmAt.made w _ _ _);have N:=vv (hst.fs (Fs.of_nil y.o));have HX:=vv (hx.below y.o);have f8:=vv M;have a3:=vv fun k (hb:qe t.heap.size t k)=>B.RSign gx _ b k ((hx.below y.o).below hb)
 clear O P Q d4 hx hst M Y d3 hM e9 b1 b2 b3 b4 b5 b6 b7 b8 b9 c1 c2 c3 e5 e4 sX sb hX h1 h2 hm u;have f:qi (qe t.heap.size t t):=vv (qc _ _);obtain⟨n,p,s⟩:=l.o;go_enter func107,ntmps107;go_wp2_with fail;rw[<- f8.o];go_wp2_with fail;refine(a3.o _ f.o).mono ?_;rintro e k ⟨rfl,rfl⟩;rw[U.o];go_wp2_with fail;refine(f7.o _).mono ?_;rintro e w1 ⟨rfl,d5⟩;have f:=vv d5;clear n p s d5;have n:=True.intro;have p:=True.intro;have s:=True.intro;go_wp2_with fail;refine(a3.o _ f.o).mono ?_;rintro e k ⟨rfl,rfl⟩;rw[U.o];go_wp2_with fail;refine(a3.o _ f.o).mono ?_;rintro e k ⟨rfl,rfl⟩;rw[U.o];obtain⟨wc,d6⟩:∃x:qh,x=w1:=⟨_,rfl⟩;rw[<- d6] at f ⊢;clear d6 n p s;go_wp2_with fail;obtain⟨R,c⟩:=q0M wc;obtain⟨D,d7⟩:=yx (wc.heap.size);have d1:t.heap.size<=D:=by have:=f.o.size;omega
 obtain⟨wn,d8⟩:=yx (wc.alloc q2l);rw[<- d8] at R c ⊢;rw[<- d7] at R ⊢;have HZ:=vv R;have f:=vn f c;clear d8 d7 R c;refine(B.AbsR D gx _ _ _ HZ.o.sh (HX.o.below f.o)).mono ?_;rintro e wc hP;rw[b0.o] at hP;have i:=hP.below f.o f.o.size d1;have f:=vv i;obtain⟨rfl,d9,-⟩:=hP;have j:=vv d9;clear d9 i;go_wp2_with fail;refine(log D X b _ j.o f2.o L.o.1 L.o.2).mono ?_;rintro e wn ⟨rfl,c⟩;have j:=vv (j.o.below c);have i:=f.o.trans (c.mono f.o.size);have f:=vv i;clear c i;obtain⟨wc,rfl⟩:=yx wn;have n:=(l.o.below f.o).c0;have p:=(l.o.below f.o).c1;go_wp2_with fail;refine q02 (fun k=>k.cell? ⟨w.heap.size,0,qd⟩=qf (.int .i64 (E:Int))/\k.cell? ⟨w.heap.size,1,qd⟩=qf (.int .i64 (F:Int))) 11
  (.still 0 (.still 1 (.still 2 (.still 6 (.still 7 (.still 9 (.still 10 (.one 3 (.still 4 (.still 5 (.still 8 .done))))))))))) (by kernel_rfl) (by kernel_rfl) (fun _ _ d _ _ h=>by cases d<;>exact h) ⟨n,p⟩ (fun hS0=>?_)
 iterate 7
  refine q00 (v:=?_) rfl (by rfl) ?_ ?_;rotate_left
  ·intro w C;go_simp;with_reducible rfl
  simp only[Act.put,sa,sb,sc]
 refine q03 rfl (by rfl) (fun K hK=>?_);go_simp;refine(f5.o _).mono ?_;rintro e wn ⟨rfl,c⟩;have c:qe wc.heap.size wc wn:=⟨c.os,c.tape,c.output,c.size,c.block⟩;clear n p;have j:=vv (j.o.below c);have i:=f.o.trans (c.mono f.o.size);have f:=vv i;clear c i;obtain⟨wc,rfl⟩:=yx wn;go_wp2_with fail;refine hK.out _ _ ⟨(l.o.below f.o).c0,(l.o.below f.o).c1⟩ (fun a0=>?_);clear hK;have G:=Z.o.1
 iterate 1
  refine q00 (v:=?_) rfl (by rfl) ?_ ?_;rotate_left
  ·intro w C;go_simp;with_reducible rfl
  simp only[Act.put,sa,sb,sc]
 clear G
 iterate 1
  refine q00 (v:=?_) rfl (by rfl) ?_ ?_;rotate_left
  ·intro w C;go_simp;with_reducible rfl
  simp only[Act.put,sa,sb,sc]
 rw[c4.o];have G:=Z.o.2.1
 iterate 1
  refine q00 (v:=?_) rfl (by rfl) ?_ ?_;rotate_left
  ·intro w C;go_simp;with_reducible rfl
  simp only[Act.put,sa,sb,sc]
 clear G;refine q07 ?_;go_wp2_with fail;refine(HU.o D _ j.o (N.o.fs (Fs.of_nil f.o))).mono ?_;rintro e wn ⟨gY,rfl,g7,e0,c⟩;have j:=vv (j.o.below c);have i:=f.o.trans (c.mono f.o.size);have f:=vv i;clear c i;obtain⟨wc,rfl⟩:=yx wn;have m:=vv e0;clear e0 hS0;go_wp2_with fail;refine(B.CmpR gY D _ _ _ _ _ m.o j.o z.o.1 z.o.2.1 L.o.1.sz L.o.2.sz).mono ?_;rintro e wn ⟨rfl,c⟩
 try have q:=vv (q.o.below c)
 try have r:=vv (r.o.below c)
 have m:=vv (m.o.below c);have j:=vv (j.o.below c);have i:=f.o.trans (c.mono f.o.size);have f:=vv i;clear c i;obtain⟨wc,rfl⟩:=yx wn;obtain⟨T,a4⟩:=yx (q0y (q2m E F qg mode X b*p2 (q0x E X b-F)*b) (X*p2 (F-q0x E X b)));rw[<- a4];have H:=vv c5.o;rw[<- a4] at H;clear a4;by_cases hr:q4g E F X b=0
 focus
  have f9:(T==0)=qg:=by rw[H.o.2 hr];rfl
  have d2:(T != 0)=qa:=by rw[H.o.2 hr];rfl
  have a5:qi (q1b E F qg mode X b=0):=vv (k0q hr);clear hr;obtain⟨n,p,s⟩:=(l.o.below f.o)
 rotate_left 1
 focus
  have f9:(T==0)=qa:=by rw[k08];exact fun h=>hr (H.o.1 h)
  have d2:(T != 0)=qg:=by rw[bne_iff_ne];exact fun h=>hr (H.o.1 h)
  have a2:qi (q1b E F qg mode X b=if q2k E F qg mode X b then 5 else 1):=vv (k0t hr);clear hr;have n:=(l.o.below f.o).c0;have p:=(l.o.below f.o).c1;go_wp2_with fail;refine q02 (fun k=>k.cell? ⟨w.heap.size,0,qd⟩=qf (.int .i64 (E:Int))/\k.cell? ⟨w.heap.size,1,qd⟩=qf (.int .i64 (F:Int))) 11
   (.still 0 (.still 1 (.still 2 (.still 3 (.still 4 (.still 5 (.still 6 (.still 8 (.one 7 (.one 9 (.one 10 .done))))))))))) (by kernel_rfl) (by kernel_rfl) (fun _ _ d _ _ h=>by cases d<;>exact h) ⟨n,p⟩ (fun hS0=>?_)
  iterate 4
   refine q00 (v:=?_) rfl (by rfl) ?_ ?_;rotate_left
   ·intro w C;go_simp;with_reducible rfl
   simp only[Act.put,sa,sb,sc]
  have G:=Z.o.2.2
  iterate 1
   refine q00 (v:=?_) rfl (by rfl) ?_ ?_;rotate_left
   ·intro w C;go_simp;with_reducible rfl
   simp only[Act.put,sa,sb,sc]
  clear G
  iterate 3
   refine q00 (v:=?_) rfl (by rfl) ?_ ?_;rotate_left
   ·intro w C;go_simp;with_reducible rfl
   simp only[Act.put,sa,sb,sc]
  refine q03 rfl (by rfl) (fun K hK=>?_);go_simp;refine(e8.o D _ j.o.drew ((N.o.fs (Fs.of_nil f.o)).drew)).mono ?_;rintro e wn ⟨gU,rfl,g8,e1,c⟩;have c:qe wc.heap.size wc wn:=⟨c.os,c.tape,c.output,c.size,c.block⟩;clear n p
  try have q:=vv (q.o.below c)
  try have r:=vv (r.o.below c)
  have m:=vv (m.o.below c);have j:=vv (j.o.below c);have i:=f.o.trans (c.mono f.o.size);have f:=vv i;clear c i;obtain⟨wc,rfl⟩:=yx wn;have q:=vv e1;clear e1;go_wp2_with fail;refine hK.out _ _ ⟨(l.o.below f.o).c0,(l.o.below f.o).c1⟩ (fun a0=>?_);clear hK;refine q03 rfl (by rfl) (fun K hK=>?_);go_simp;refine(c8.o _).mono ?_;rintro e wn ⟨gL,rfl,g9,e2,c⟩
  try have q:=vv (q.o.below c)
  try have r:=vv (r.o.below c)
  have m:=vv (m.o.below c);have j:=vv (j.o.below c);have i:=f.o.trans (c.mono f.o.size);have f:=vv i;clear c i;obtain⟨wc,rfl⟩:=yx wn;have r:=vv e2;clear e2;go_wp2_with fail;refine hK.out _ _ ⟨(l.o.below f.o).c0,(l.o.below f.o).c1⟩ (fun a0=>?_);clear hK;refine q03 rfl (by rfl) (fun K hK=>?_);go_simp;refine(B.CmpR gU gL _ _ _ _ _ q.o r.o J.o.1 J.o.2.1 J.o.2.2.1 J.o.2.2.2).mono ?_;rintro e wn ⟨rfl,c⟩
  try have q:=vv (q.o.below c)
  try have r:=vv (r.o.below c)
  have m:=vv (m.o.below c);have j:=vv (j.o.below c);have i:=f.o.trans (c.mono f.o.size);have f:=vv i;clear c i;obtain⟨wc,rfl⟩:=yx wn;obtain⟨t3,a6⟩:=yx (q0y (q28 F qg mode X b*p2 (q0I X b-F)*p2 (q09 E-1)) (p2 (1-q09 E)*p2 (F-q0I X b)));rw[<- a6];have a7:=vv c6.o;rw[<- a6] at a7;clear a6;go_wp2_with fail;refine hK.out _ _ ⟨(l.o.below f.o).c0,(l.o.below f.o).c1⟩ (fun a0=>?_);clear hK;refine q07 ?_;by_cases hu:q2k E F qg mode X b=qg
  focus
   have g0:qj (t3<0)=qg:=k03 (a7.o.2 hu);have a5:qi (q1b E F qg mode X b=5):=vv (by rw[a2.o,k0q hu]);clear hu;obtain⟨n,p,s⟩:=(l.o.below f.o)
  rotate_left 1
  focus
   have g0:qj (t3<0)=qa:=k00 (fun h=>hu (a7.o.1 h));have a5:qi (q1b E F qg mode X b=1):=vv (by rw[a2.o,k0t hu]);clear hu;obtain⟨n,p,s⟩:=(l.o.below f.o)
 all_goals
  go_wp2_with fail;refine(f4.o _ (N.o.fs (Fs.of_nil f.o))).mono ?_;rintro e wn ⟨gG,rfl,i0,g1,c⟩;have g2:=vv g1
  try have q:=vv (q.o.below c)
  try have r:=vv (r.o.below c)
  have m:=vv (m.o.below c);have j:=vv (j.o.below c);have i:=f.o.trans (c.mono f.o.size);have f:=vv i;clear c i;obtain⟨wc,rfl⟩:=yx wn;go_wp2_with fail;refine(B.CmpR gY gG _ _ _ _ _ m.o g2.o z.o.1 z.o.2.1 z.o.2.2.1 z.o.2.2.2).mono ?_;rintro e wn ⟨rfl,c⟩
  try have q:=vv (q.o.below c)
  try have r:=vv (r.o.below c)
  have m:=vv (m.o.below c);have j:=vv (j.o.below c);have i:=f.o.trans (c.mono f.o.size);have f:=vv i;clear c i;obtain⟨wc,rfl⟩:=yx wn;obtain⟨t2,a8⟩:=yx (q0y (q2m E F qg mode X b*p2 (q0x E X b-F)*p2 (F-q09 E)) ((2^(F+1)-1)*p2 (q09 E-F)*p2 (F-q0x E X b)));rw[<- a8];have a9:=vv c7.o;rw[<- a8] at a9;obtain⟨n,p,s⟩:=(l.o.below f.o);clear a8;by_cases ho:over E F qg mode X b=qg
  ·have g3:qj (0<t2)=qg:=k03 (a9.o.2 ho);have I:=vv (c9.o ho);clear ho;go_wp2_with fail;refine(f6.o _).mono ?_;rintro e wn ⟨rfl,c⟩;have f:=vn f c;clear n p s c;go_wp2;go_ret2;rw[I.o];exact⟨q4f (a1.o _ e6.o) rfl,y.o.trans (f.o.mono y.o.size)⟩
  ·have g3:qj (0<t2)=qa:=k00 (fun h=>ho (a9.o.1 h));have I:=vv (d0.o (by simpa using ho));have e3:=vv (q9w (by simpa using ho));clear ho;go_wp2_with fail;refine(f3.o _ _ m.o e3.o (N.o.fs (Fs.of_nil f.o))).mono ?_;rintro e wn ⟨rfl,c⟩;have f:=vn f c;clear n p s c;go_wp2;go_ret2;rw[I.o.1,a5.o,I.o.2];exact⟨q4f (a1.o _ (e7.o e3.o I.o.1)) rfl,y.o.trans (f.o.mono y.o.size)⟩
abbrev q0N(A:Option qo)(n c:Nat):Value:=.agg #[.slice A n c]
abbrev q0f(neg:Bool)(A:Option qo)(n c:Nat)(B:Option qo)(m d:Nat):Value:=.agg #[.bool neg,.slice A n c,.slice B m d]
abbrev q17(neg:Bool)(A:Option qo)(n c:Nat)(e:Int):Value:=.agg #[.bool neg,.slice A n c,.int .i64 e]
def q1G(n:Nat)(xs:List Nat):Bool:=qj (n<=16384) && (qj (n=0) || decide (nth xs (n-1)≠0))
theorem May(A:Option qo)(n c:Nat)(xs:List Nat)(w:qh)(hr:Rd w A n c xs):qk qb 111 #[q0N A n c] w fun e w'=>e=.returned (.bool (q1G n xs))/\qe w.heap.size w w':=by
 have i:=hr.sm;rcases k0A 16384 n with h|h
 ·have a:qi (q1G n xs=qa):=vv (by unfold q1G;rw[k00 (by omega)];rfl);clear hr;go_enter func111,ntmps111;go_wp2;go_ret;exact⟨q38 a.o.symm,(qc _ _).alloc lr _⟩
 ·rcases k01 n with d|d
  ·subst d;have a:qi (q1G 0 xs=qg):=vv rfl;clear hr;go_enter func111,ntmps111;go_wp2;go_ret;exact⟨q38 a.o.symm,(qc _ _).alloc lr _⟩
  ·obtain⟨m,rfl⟩:∃m,n=m+1:=⟨n-1,by omega⟩;obtain⟨b,off,rfl,q,g⟩:=hr.cell (by omega);have hx:=g m (by omega);clear g;have a:qi (q1G (m+1) xs=!qj (nth xs m=0)):=vv (by unfold q1G;rw[k03 h,k00 (p:=m+1=0) (by omega)];simp);have hi:(m:Int)+1<=16384:=by omega
   have l:((m:Int)+1==0)=qa:=by rw[k08];omega
   clear hr h d i;by_cases hz:nth xs m=0
   ·have j:(((nth xs m:Nat):Int)==0)=qg:=by rw[hz];rfl
    have k:(((nth xs m:Nat):Int) != 0)=qa:=by rw[hz];rfl
    have f:=vv hz;clear hz;go_enter func111,ntmps111;go_wp2;go_ret;exact⟨q38 (by rw[a.o,f.o];rfl),(qc _ _).alloc lr _⟩
   ·have j:(((nth xs m:Nat):Int)==0)=qa:=by rw[k08];omega
    have k:(((nth xs m:Nat):Int) != 0)=qg:=by rw[bne_iff_ne];omega
    have f:=vv hz;clear hz;go_enter func111,ntmps111;go_wp2;go_ret;exact⟨q38 (by rw[a.o,k00 f.o];rfl),(qc _ _).alloc lr _⟩
theorem qcm(A:Option qo)(n c:Nat)(xs:List Nat)(w:qh)(hr:Rd w A n c xs):qk qb 77 #[q0N A n c] w (q18 ((val xs:Nat):Int) w):=by
 have u:=vv hr;clear hr;go_enter func77,ntmps77;obtain⟨b,a⟩:=yx (w.alloc (.cells #[.slice A n c] 37));have d:qe w.heap.size w b:=by rw[a];exact(qc _ w).alloc lr _
 have q:b.cell? ⟨w.heap.size,0,qd⟩=qf (.slice A n c):=by rw[a];simp only[World.cell?];rw[qm];rfl
 have r:w.heap.size<b.heap.size:=by rw[a];simp
 have s:=vv a;obtain⟨h,i⟩:=q4k b;have k:b.heap.size=w.heap.size+1:=by rw[a];simp
 rw[k] at h;have x:=(i.cell (p:=⟨w.heap.size,0,qd⟩) r).trans q;have l:=vv h;have j:=vv (d.trans (i.mono d.size));have y:=d.size;clear a h i d k;go_wp2_with fail;rw[<- s.o];refine(B.SetWords _ 0 0 A n c xs _ l.o (u.o.below j.o rfl)).mono ?_;rintro e z g;have g:=g.f l.o;have t:=vv (g.below j.o j.o.size (by omega));obtain⟨rfl,m,-⟩:=g;have v:=vv m;clear m;go_wp2;go_ret;exact⟨_,rfl,by omega,v.o,t.o⟩
theorem qdP(n b:Int)(w:qh)(h1:-4611686018427387904<=n)(h2:n<=4611686018427387904)(h3:0<=b)(h4:b<=4611686018427387904):qk qb 199 #[.int .i64 n,.int .i64 b] w fun e w'=>e=.returned (.int .i64 (q3M n (b+1500)))/\w=w':=by go_enter func199,ntmps199;go_wp2;go_ret;exact⟨q0J rfl,rfl⟩
end R5
namespace AB
open Go Go.RowKit
end AB
namespace B
open AB
open Go Go.RowKit
theorem Exp0(g o gx ox gy oy:Nat)(v x:Int)(w:qh)(h:IntAt w g o v)(hx:IntAt w gx ox x)(hy:IntAt w gy oy 0):qk qb 200 #[.pointer (qf ⟨g,o,qd⟩),.pointer (qf ⟨gx,ox,qd⟩),.pointer (qf ⟨gy,oy,qd⟩),.pointer qd] w (q5C g o 1 w):=by
 have q:=vv h;have E:=vv hx;have F:=vv hy;have I:=hy.lt;have b:qi (∀(w:qh) t,qe w.heap.size w (w.alloc (.cells #[.bool qa,.slice qd 0 0] t))):=vv fun w t=>(qc _ w).alloc lr _
 have G:=vv (IntAt.zero w 82);clear h hx hy;go_enter func200,ntmps200;go_wp2_with fail;refine(NewInt 1 _ (by omega) (by omega)).mono ?_;rintro e d ⟨r,rfl,m,i,j⟩;have s:=vv i;have k:=vv ((b.o w 82).trans (j.mono (Below.size (b.o w 82))));have u:=vv (G.o.below j);have J:=i.lt;have K:w.heap.size<r:=by simp at m;omega
 have y:=k.o.size;clear i j m;go_wp2_with fail;have l:=vv (k.o.trans ((b.o d 82).mono k.o.size));have n:=vv (IntAt.zero d 82);refine(Set _ 0 gx ox 0 _ _ n.o (E.o.below l.o)).mono ?_;rintro e N a;have a:=a.f n.o;have c:=vv (a.below l.o (l.o.size) y);have z:=vv ((s.o.below (b.o d 82)).fs1 a.2.2 (by omega));have p:=vv ((u.o.below (b.o d 82)).fs1 a.2.2 (by omega));obtain⟨rfl,-,-⟩:=a;have C:=vv (F.o.below c.o);go_wp2_with fail;refine(Sign gy oy _ _ C.o).mono ?_;rintro e O ⟨rfl,rfl⟩;rw[k2a];obtain⟨P,Q,L⟩:=p.o.nil;have M:=p.o.lt;go_wp2_with fail;refine(Set g o r 0 _ _ _ (q.o.below c.o) z.o).mono ?_;rintro e R a;have H:=vv ((a.f (q.o.below c.o)).after c.o);obtain⟨rfl,D,-⟩:=a;go_wp2;go_ret;exact⟨rfl,D,H.o⟩
theorem ExpN(g o gx ox gy oy:Nat)(v:Int)(x y:Nat)(w:qh)(h:IntAt w g o v)(hx:IntAt w gx ox (x:Int))(hy:IntAt w gy oy (y:Int))(hx0:0<x)(hs:Sz (x^y))(hsy:Sz y):qk qb 200 #[.pointer (qf ⟨g,o,qd⟩),.pointer (qf ⟨gx,ox,qd⟩),.pointer (qf ⟨gy,oy,qd⟩),.pointer qd] w (q5C g o ((x^y:Nat):Int) w):=by
 rcases k01 y with rfl|a
 ·exact Exp0 g o gx ox gy oy v x w h hx hy
 ·exact Exp g o gx ox gy oy v x y w h hx hy hx0 a hs hsy
end B
namespace R5
open Go Go.RowKit
theorem q1i(h:Rd w A n c (toL N))(hn:n<=16384):q1G n (toL N)=qg:=by
 unfold q1G;rw[k03 hn,k2N];rcases k01 n with a|a
 ·rw[a];rfl
 ·have b:0<N:=by
   rcases k01 N with e|e
   ·have:=h.words;rw[e,q0w] at this;omega
   ·exact e
  obtain⟨-,e⟩:=bl_words b;rw[h.words] at e;rw[k00 (p:=n=0) (by omega),Bool.false_or,k03 (by omega)]
structure RatioBox(w:qh)(g:Nat)(neg:Bool)(A:Option qo)(n c:Nat)(B:Option qo)(m d:Nat):Prop where
 c0:w.cell? ⟨g,0,qd⟩=qf (.bool neg)
 c1:w.cell? ⟨g,1,qd⟩=qf (.slice A n c)
 c2:w.cell? ⟨g,2,qd⟩=qf (.slice B m d)
 lt:g<w.heap.size
theorem RatioBox.made(w:qh)(neg:Bool)(A:Option qo)(n c:Nat)(B:Option qo)(m d:Nat)(t:TypeId):RatioBox (w.alloc (.cells #[.bool neg,.slice A n c,.slice B m d] t)) w.heap.size neg A n c B m d:=⟨by simp only[World.cell?];rw[qm];rfl,by simp only[World.cell?];rw[qm];rfl,by simp only[World.cell?];rw[qm];rfl,by simp⟩
theorem RatioBox.below{B:Option qo}{d:Nat}(h:RatioBox w g neg A n c B m d)(hb:qe w.heap.size w w'):RatioBox w' g neg A n c B m d:=⟨(hb.cell (p:=⟨g,0,qd⟩) h.lt).trans h.c0,(hb.cell (p:=⟨g,1,qd⟩) h.lt).trans h.c1,(hb.cell (p:=⟨g,2,qd⟩) h.lt).trans h.c2,k02 h.lt hb.size⟩
theorem qcg(neg:Bool)(A:Option qo)(n c:Nat)(B':Option qo)(m d N:Nat)(w:qh)(ha:Rd w A n c (toL N))(hb:Rd w B' m d (toL 1))(hn:n<=16384)(h0:N=0->neg=qa)(hst:Std w):qk qb 45 #[q0f neg A n c B' m d] w fun e w'=>e=.returned (.int .i64 0)/\qe w.heap.size w w':=by
 have hm:m=1:=hb.words.symm;subst hm;obtain⟨w0,D⟩:=yx (w.alloc (.cells #[.bool neg,.slice A n c,.slice B' 1 d] 39));have a1:qe w.heap.size w w0:=by rw[D];exact(qc _ w).alloc lr _
 have k:RatioBox w0 w.heap.size neg A n c B' 1 d:=by rw[D];exact RatioBox.made w _ _ _ _ _ _ _ _
 have b:=vv k;have a:=vv a1;have b0:=vv D;have HA:=vv ha;have c3:=vv hb;have b1:=vv hst;have a2:=q1i ha hn;have a0:q1G 1 (toL 1)=qg:=q1i hb (by omega);have HM:=vv fun w' (h:qe w.heap.size w w')=>May A n c (toL N) w' (ha.below h rfl)
 have a3:=vv fun w' (h:qe w.heap.size w w')=>May B' 1 d (toL 1) w' (hb.below h rfl)
 rw[a2] at HM;rw[a0] at a3;have HI:=vv fun w' (h:qe w.heap.size w w')=>qcm A n c (toL N) w' (ha.below h rfl)
 have a4:=vv fun w' (h:qe w.heap.size w w')=>qcm B' 1 d (toL 1) w' (hb.below h rfl)
 rw[q04] at HI a4;have b2:qi (Sz N):=vv (by have h1:=q0h N;rw[ha.words,q1z] at h1;have:=q0B h1;unfold Sz;omega);have v:=k.c0;have H:=k.c1;have I:=k.c2;have E:=k.lt;clear ha hb hn hst a2 a0 D a1 k;go_enter func45,ntmps45;go_wp2_with fail;rw[<- b0.o];refine(HM.o _ a.o).mono ?_;rintro e w1 ⟨rfl,L⟩;have b:=vv (b.o.below L);have a:=vn a L;obtain⟨v,H,I,E⟩:=b.o;clear L;go_wp2_with fail;refine(a3.o _ a.o).mono ?_;rintro e w2 ⟨rfl,M⟩;have b:=vv (b.o.below M);have a:=vn a M;obtain⟨v,H,I,E⟩:=b.o;clear M;go_wp2_with fail;refine(HI.o _ a.o).mono ?_;rintro e w3 ⟨Y,rfl,c4,a5,O⟩;have b:=vv (b.o.below O);have a:=vn a O;have J:=vv a5;obtain⟨v,H,I,E⟩:=b.o;clear O a5;go_wp2_with fail;refine(a4.o _ a.o).mono ?_;rintro e w4 ⟨Z,rfl,c5,a6,F⟩;have b:=vv (b.o.below F);have J:=vv (J.o.below F);have HD:=vv a6;have a:=vn a F;have v:=b.o.c0;have E:=b.o.lt;clear F a6 H I;go_wp2_with fail;refine(B.Sign Y 0 _ _ J.o).mono ?_;rintro e w' ⟨rfl,rfl⟩;have fin:∀l,qe w4.heap.size w4 l->∃K g,K=l.alloc qbQ/\g=l.heap.size/\qe w.heap.size w K/\qk qb 115 #[.pointer (qf ⟨g,0,qd⟩),.pointer qd,.pointer qd,.pointer (qf ⟨Y,0,qd⟩),.pointer (qf ⟨Z,0,qd⟩)] K fun e w'=>e=.returned (.pointer (qf ⟨g,0,qd⟩))/\IntAt w' g 0 1/\qe w.heap.size w w':=by
  intro l P;have Q:=a.o.trans (P.mono a.o.size);obtain⟨z1,z2⟩:=q4k l;have G:=Q.trans (z2.mono Q.size);refine⟨_,_,rfl,rfl,G,?_⟩;refine(B.GCD _ 0 Y 0 Z 0 0 _ _ _ _ _ z1 ((J.o.below P).below z2) ((HD.o.below P).below z2) b2.o (by unfold Sz;decide) (b1.o.fs (Fs.of_nil G))).mono ?_;rintro e w' x;have x:=x.f z1;refine⟨x.1,?_,x.below G G.size Q.size⟩;have:=x.2.1
  rwa [show((1:Nat):Int).natAbs=1 from rfl,k1z] at this
 have a7:=vv fin;have HC:qi (q20 1 1=0):=vv rfl;clear fin;rcases k01 N with y|y
 ·have z:((N:Nat):Int).sign=0:=by rw[y];rfl
  rw[z];rw[h0 y] at v;clear z y h0;go_wp2_with fail;refine(B.NewInt 1 _ (by omega) (by omega)).mono ?_;rintro e l ⟨g5,rfl,c6,a8,R⟩;have b3:=vv a8;have b4:=vv (HD.o.below R);have b5:=vv R;clear a8 R;go_wp2_with fail;refine(B.Cmp Z 0 g5 0 _ _ _ b4.o b3.o).mono ?_;rintro e K ⟨rfl,a9⟩;rw[show q20 ((1:Nat):Int) 1=0 from rfl];have b6:=vn b5 a9;clear a9;obtain⟨w7,g,p,q,b7,C⟩:=a7.o _ b6.o;have S:=vv p;have T:=vv q;have HG:=vv C;clear p q C;go_wp2_with fail;rw[<- S.o,<- T.o];refine HG.o.mono ?_;rintro e w8 ⟨rfl,r,s⟩;have i:=vv r;have U:=vv s;clear r s;go_wp2_with fail;refine(B.NewInt 1 _ (by omega) (by omega)).mono ?_;rintro e w9 ⟨g9,rfl,b8,t,j⟩;have V:=vv t;have i:=vv (i.o.below j);have W:=vn U j;clear t j;go_wp2_with fail;refine(B.Cmp g 0 g9 0 _ _ _ i.o V.o).mono ?_;rintro e b9 ⟨rfl,u⟩;rw[HC.o];have X:=vn W u;clear u;go_wp2;go_ret;exact⟨rfl,X.o⟩
 ·have z:((N:Nat):Int).sign=1:=k0o (by omega);rw[z];clear z y h0;obtain⟨w7,g,p,q,b7,C⟩:=a7.o _ (qc _ _);have S:=vv p;have T:=vv q;have HG:=vv C;clear p q C;go_wp2_with fail;rw[<- S.o,<- T.o];refine HG.o.mono ?_;rintro e w8 ⟨rfl,r,s⟩;have i:=vv r;have U:=vv s;clear r s;go_wp2_with fail;refine(B.NewInt 1 _ (by omega) (by omega)).mono ?_;rintro e w9 ⟨g9,rfl,b8,t,j⟩;have V:=vv t;have i:=vv (i.o.below j);have W:=vn U j;clear t j;go_wp2_with fail;refine(B.Cmp g 0 g9 0 _ _ _ i.o V.o).mono ?_;rintro e b9 ⟨rfl,u⟩;rw[HC.o];have X:=vn W u;clear u;go_wp2;go_ret;exact⟨rfl,X.o⟩
theorem qdN(neg:Bool)(A:Option qo)(n c:Nat)(B':Option qo)(m d N:Nat)(w:qh)(ha:Rd w A n c (toL N))(hb:Rd w B' m d (toL 1))(hN:Sz N)(hst:Std w):qk qb 29 #[q0f neg A n c B' m d] w (q1d (sg neg N) 1 w):=by
 obtain⟨w0,F⟩:=yx (w.alloc (.cells #[.bool neg,.slice A n c,.slice B' m d] 39));have Z:qe w.heap.size w w0:=by rw[F];exact(qc _ w).alloc lr _
 have x:RatioBox w0 w.heap.size neg A n c B' m d:=by rw[F];exact RatioBox.made w _ _ _ _ _ _ _ _
 have i:=vv x;have t:=vv Z;have a5:=vv F;have a6:=vv hst;have a7:=vv hN;have HI:=vv fun j (h:qe w.heap.size w j)=>qcm A n c (toL N) j (ha.below h rfl)
 have H:=vv fun j (h:qe w.heap.size w j)=>qcm B' m d (toL 1) j (hb.below h rfl)
 rw[q04] at HI H;have U:=x.c0;have f1:=x.c1;have I:=x.lt;clear ha hb hst F Z x hN;go_enter func29,ntmps29;go_wp2_with fail;rw[<- a5.o];refine(HI.o _ t.o).mono ?_;rintro e w1 ⟨k,rfl,b4,a2,J⟩;have i:=vv (i.o.below J);have t:=vn t J;have G:=vv a2;have b5:=t.o.size;have b3:w.heap.size<k:=by omega
 clear J a2 U f1 I;have U:=i.o.c0;have I:=i.o.lt;have fin:∀wc,qe w.heap.size w wc->RatioBox wc w.heap.size neg A n c B' m d->IntAt wc k 0 (sg neg N) ->∃a b,a=wc.alloc q2l/\b=wc.heap.size/\RatAt a b 0 1/\IntAt a k 0 (sg neg N)/\RatioBox a w.heap.size neg A n c B' m d/\qe w.heap.size w a/\w.heap.size<=b:=by intro wc hb hx hi;obtain⟨z1,V⟩:=q0M wc;exact⟨_,_,rfl,rfl,z1,hi.below V,hx.below V,hb.trans (V.mono hb.size),hb.size⟩
 have a3:=vv fin;have a0:∀a b,RatAt a b 0 1->IntAt a k 0 (sg neg N)->qe w.heap.size w a->w.heap.size<=b->∀l p,qe a.heap.size a l->IntAt l p 0 ((1:Nat):Int) ->qk qb 78 #[.pointer (qf ⟨b,0,qd⟩),.pointer (qf ⟨k,0,qd⟩),.pointer (qf ⟨p,0,qd⟩)] l fun e j=>e=.returned (.pointer (qf ⟨b,0,qd⟩))/\RatAt j b (sg neg N) 1/\qe w.heap.size w j:=by intro a b u hi hb v l p K a8;have L:=hb.trans (K.mono hb.size);refine(B.SetFrac b k p (sg neg N) 1 l (u.below K).sh (hi.below K) a8 (by omega) (a6.o.fs (Fs.of_nil L)) (by rw[q0v];exact a7.o) (by unfold Sz;decide)).mono ?_;rintro e j g;exact⟨g.1,g.2.1,g.below L L.size v⟩
 have a1:=vv a0;clear fin a0;cases neg
 ·obtain⟨a,b,r,y,u,hi,hx,hb,v⟩:=a3.o w1 t.o i.o G.o;have W:=hx.c2;have M:=hx.lt;rw[r] at W M;have O:=vv r;have P:=vv y;have X:=vv u;have Q:=vv hi;have a9:=vv hx;have s:=vv hb;clear r y u hi hx hb;go_wp2_with fail;rw[<- O.o,<- P.o];refine(H.o _ s.o).mono ?_;rintro e l ⟨p,rfl,b0,z,C⟩;have R:=vv z;have S:=vv C;clear z C;go_wp2_with fail;refine(a1.o a b X.o Q.o s.o v l p S.o R.o).mono ?_;rintro e w4 ⟨rfl,E,D⟩;have Y:=vv E;have T:=vv D;clear E D;go_wp2;go_ret;exact⟨_,rfl,v,Y.o,T.o⟩
 ·go_wp2_with fail;refine(B.Neg k 0 k 0 _ _ _ G.o G.o).mono ?_;rintro e a g;have g:=g.f G.o;have a4:RatioBox a w.heap.size qg A n c B' m d:=⟨(g.2.2.cell w.heap.size 0 i.o.lt fun q hq e=>by rw[k0d.1 hq] at e;simp only at e;omega).trans i.o.c0,(g.2.2.cell w.heap.size 1 i.o.lt fun q hq e=>by rw[k0d.1 hq] at e;simp only at e;omega).trans i.o.c1,(g.2.2.cell w.heap.size 2 i.o.lt fun q hq e=>by rw[k0d.1 hq] at e;simp only at e;omega).trans i.o.c2,k02 i.o.lt g.2.2.size⟩;have b1:=vv a4;have b2:qi (IntAt a k 0 (sg qg N)):=vv g.2.1;have s:=vv (g.below t.o t.o.size (by omega));obtain⟨rfl,-,-⟩:=g;clear a4 U I;obtain⟨b6,b,r,y,u,hi,hx,hb,v⟩:=a3.o a s.o b1.o b2.o;have W:=hx.c2;have M:=hx.lt;rw[r] at W M;have O:=vv r;have P:=vv y;have X:=vv u;have Q:=vv hi;have a9:=vv hx;have s:=vv hb;clear r y u hi hx hb;go_wp2_with fail;rw[<- O.o,<- P.o];refine(H.o _ s.o).mono ?_;rintro e l ⟨p,rfl,b0,z,C⟩;have R:=vv z;have S:=vv C;clear z C;go_wp2_with fail;refine(a1.o _ b X.o Q.o s.o v l p S.o R.o).mono ?_;rintro e w4 ⟨rfl,E,D⟩;have Y:=vv E;have T:=vv D;clear E D;go_wp2;go_ret;exact⟨_,rfl,v,Y.o,T.o⟩
theorem q4N(k:Nat):bl (10^k)<=4*k+1:=q0B (by
 have h1:(10:Nat)^k<=16^k:=k1o (by omega) k;have h2:(16:Nat)^k=2^(4*k):=by rw[k14]
 rw[k0a];have:=k0c (4*k);omega)
theorem qdH(gx:Nat)(p n K:Int)(w:qh)(hx:RatAt w gx p 1)(hp:bl p.natAbs<=16777216)(hn1:-4611686018427387904<=n)(hn2:n<=4611686018427387904)(hK:K=q3M n (bl p.natAbs+1+1500))(hst:Std w):qk qb 108 #[.pointer (qf ⟨gx,0,qd⟩),.int .i64 n] w (q1d (p*(t10 K:Nat)) (t10 (-K)) w):=by
 have s:-16778717<=K/\K<=16778717:=by rw[hK];unfold q3M;omega
 have e1:=q7A p;have e2:=q9y p;have HN:=vv fun f (hw:qe w.heap.size w f)=>B.Num gx _ _ f (hx.below hw)
 have HD:=vv fun f (hw:qe w.heap.size w f)=>B.Denom gx _ _ f (hx.below hw)
 rw[e1] at HN;rw[e2] at HD;have HX:=vv hx;have G:=vv hst;have H:=vv fun w=>qdP n ((bl p.natAbs:Int)+1) w hn1 hn2 (by omega) (by omega)
 rw[<- hK] at H;obtain⟨k,hk⟩:∃k:Nat,k=K.natAbs:=⟨_,rfl⟩;have c3:max K (-K)=(k:Int):=by omega
 have a5:k<=16778717:=by omega
 have a6:=q4N k;have c:qi (Sz (10^k)/\Sz k/\Sz p.natAbs/\Sz 1):=vv ⟨by unfold Sz;omega,Sz.small (by omega),by unfold Sz;omega,by unfold Sz;decide⟩;have c4:(k:Int)<=16778717:=by omega
 have c5:=vv hk;have c6:=s.1;have c7:=s.2;have c8:(bl p.natAbs:Int)<=16777216:=by omega
 have a0:qi (0<=K->K=k):=vv (by omega);have a3:qi (K<0->K = -(k:Int)):=vv (by omega);clear hx hst hK s e1 e2 hk hp a6 a5 hn1 hn2;go_enter func108,ntmps108;go_wp2_with fail;refine(HN.o _ (qc _ _)).mono ?_;rintro e w1 ⟨g1,rfl,c9,I,J⟩;have a7:=vv I;have L:=vv J;clear I J;go_wp2_with fail;refine(B.BitLen g1 0 _ _ a7.o).mono ?_;rintro e f ⟨rfl,rfl⟩;go_wp2_with fail;refine(HD.o _ L.o).mono ?_;rintro e a ⟨g2,rfl,d0,M,N⟩;have a8:=vv M;have O:=vn L N;clear M N;go_wp2_with fail;refine(B.BitLen g2 0 _ _ a8.o).mono ?_;rintro e f ⟨rfl,rfl⟩;rw[show bl ((1:Nat):Int).natAbs=1 from rfl];go_wp2_with fail;refine(H.o _).mono ?_;rintro e f ⟨rfl,rfl⟩;have a9:=O.o.size;obtain⟨i,g⟩:=q0M a;obtain⟨y,z⟩:=q4k (a.alloc q2l);have P:(a.alloc q2l).heap.size=a.heap.size+1:=by simp
 rw[P] at y;obtain⟨C,l⟩:=yx ((a.alloc q2l).alloc qbQ);have Q:qe a.heap.size a C:=by rw[l];exact g.trans (z.mono g.size)
 have b0:qi (RatAt C a.heap.size 0 1):=vv (by rw[l];exact i.below z);have b1:qi (IntAt C (a.heap.size+1) 0 0):=vv (by rw[l];exact y);have b2:=vn O Q;have b3:=vv l;clear i g y z P l Q;go_wp2_with fail;rw[<- b3.o];refine(B.NewInt 10 _ (by omega) (by omega)).mono ?_;rintro e w4 ⟨g4,rfl,d1,R,r⟩;have t:=vv R;have b4:=vv (b0.o.below r);have b5:=vv (b1.o.below r);have b6:=vn b2 r;clear R r;go_wp2_with fail;refine(B.NewInt (k:Int) _ (by omega) (by omega)).mono ?_;rintro e w5 ⟨g5,rfl,d2,S,m⟩;have b7:=vv S;have t:=vv (t.o.below m);have b8:=vv (b4.o.below m);have b9:=vv (b5.o.below m);have T:=vn b6 m;clear S m;go_wp2_with fail;refine(B.ExpN (a.heap.size+1) 0 g4 0 g5 0 0 10 k _ b9.o t.o b7.o (by omega) c.o.1 c.o.2.1).mono ?_;rintro e w6 b;have c0:=vv (b8.o.fs1 b.2.2 (by omega));have c1:=vv b.2.1;have U:=vv (b.below T.o T.o.size (by omega));obtain⟨rfl,-,-⟩:=b;go_wp2_with fail;refine(B.SetInt a.heap.size (a.heap.size+1) _ _ c0.o.sh c1.o).mono ?_;rintro e j b;have V:=vv (b.below U.o U.o.size a9);obtain⟨rfl,W,-⟩:=b;have c2:=vv W;have X:=V.o.size;clear W;obtain⟨i,g⟩:=q0M j;obtain⟨w8,u⟩:=yx (j.alloc q2l);rw[<- u] at i g;have Y:=vv i;have Z:=vv (c2.o.below g);have d:=vn V g;have a4:=vv u;clear i g u;by_cases hk0:K<0
 ·have hd:qj (K<0)=qg:=k03 hk0;have q:=vv (a3.o hk0);clear hk0;go_wp2_with fail;rw[<- a4.o];refine(B.QuoR j.heap.size gx a.heap.size p (10^k) 1 1 _ Y.o.sh (HX.o.below d.o) Z.o (k1p (by omega)) (G.o.fs (Fs.of_nil d.o)) c.o.2.2.1 c.o.2.2.2 c.o.1 c.o.2.2.2).mono ?_;rintro e D b;have v:=vv (b.below d.o d.o.size X);obtain⟨rfl,h,-⟩:=b;have x:qi (RatAt D j.heap.size (p*(t10 K:Nat)) (t10 (-K))):=vv (by
   have E:t10 K=1:=by unfold t10;rw[show K.toNat=0 by have:=q.o;omega]
   have F:t10 (-K)=10^k:=by unfold t10;congr 1;have:=q.o;omega
   rw[E,F];rw[k0J] at h;exact h)
  clear h;go_wp2;go_ret;exact⟨_,rfl,by omega,x.o,v.o⟩
 ·have hd:qj (K<0)=qa:=k00 hk0;have q:=vv (a0.o (by omega));clear hk0;go_wp2_with fail;rw[<- a4.o];refine(B.MulR j.heap.size gx a.heap.size p ((10^k:Nat):Int) 1 1 _ Y.o.sh (HX.o.below d.o) Z.o (G.o.fs (Fs.of_nil d.o)) c.o.2.2.1 c.o.2.2.2 (by exact c.o.1) c.o.2.2.2).mono ?_;rintro e D b;have v:=vv (b.below d.o d.o.size X);obtain⟨rfl,h,-⟩:=b;have x:qi (RatAt D j.heap.size (p*(t10 K:Nat)) (t10 (-K))):=vv (by
   have E:t10 (-K)=1:=by unfold t10;rw[show(-K).toNat=0 by have:=q.o;omega]
   have F:t10 K=10^k:=by unfold t10;congr 1;have:=q.o;omega
   rw[E,F];exact h)
  clear h;go_wp2;go_ret;exact⟨_,rfl,by omega,x.o,v.o⟩
def q3J(o:Nat × Nat)(w:qh)(e:Ending)(w':qh):Prop:=e=.returned (.tuple #[.int .u64 (o.1:Int),.int .u8 (o.2:Int),.int .i64 0])/\qe w.heap.size w w'
def q0G(E F:Nat)(below neg:Bool)(mode a b:Nat):Nat × Nat:=
 if a=0 then(sgb E F neg,0) else(sgb E F below+(out E F below mode a b).1,(out E F below mode a b).2)
theorem qdM(gx E F a b:Nat)(below neg:Bool)(mode:Nat)(w:qh)(h1:2<=E)(h2:E<=11)(h3:1<=F)(h4:F<=52)(hx:RatAt w gx (sg below a) b)(sX:bl a<=1073741824)(sb:bl b<=1073741824)(hst:Std w)(hm:mode<=4):qk qb 107 #[fm E F,.pointer (qf ⟨gx,0,qd⟩),.bool neg,.int .u8 (mode:Int)] w (q56 0 (q0G E F below neg mode a b) w):=by
 rcases k01 a with d|d
 ·subst d;have g:sg below 0=0:=by cases below<;>rfl
  rw[g] at hx;refine(q9l gx b E F neg mode w h1 h2 h3 h4 hx).mono ?_;rintro e f ⟨rfl,c⟩;exact⟨by simp [q0G],c⟩
 ·have h:q0G E F below neg mode a b=(sgb E F below+(out E F below mode a b).1,(out E F below mode a b).2):=k0t (by omega);rw[h];cases below
  ·refine(qaV gx b E F a neg mode w h1 h2 h3 h4 hx d sX sb hst hm).mono ?_;rintro e f ⟨rfl,c⟩;exact⟨by simp,c⟩
  ·refine(qaW gx b E F a neg mode w h1 h2 h3 h4 hx d sX sb hst hm).mono ?_;rintro e f ⟨rfl,c⟩;exact⟨by simp,c⟩
theorem q3r{below:Bool}(c n:Int)(h1:2<=E)(h2:E<=11)(h3:1<=F)(h4:F<=52)(hc:1200<=c):q0G E F below neg mode (N*t10 (q3M n (bl N+1+c))) (t10 (-q3M n (bl N+1+c)))=q0G E F below neg mode (N*t10 n) (t10 (-n)):=by
 rcases k01 N with d|d
 ·subst d;simp [q0G]
 ·have k:=q7q (E:=E) (F:=F) (neg:=below) (mode:=mode) (a:=N) (b:=1) c n h1 h2 h3 h4 d (by omega) hc;rw[k0J,k0J,show bl 1=1 from rfl] at k;have f:=k0j d (q2r (q3M n (bl N+1+c)));have p2:=k0j d (q2r n);unfold q0G;rw[k0t (by omega),k0t (by omega)];have e:out E F below mode (N*t10 (q3M n (bl N+1+c))) (t10 (-q3M n (bl N+1+c)))=out E F below mode (N*t10 n) (t10 (-n)):=k;rw[e]
theorem qaS(E F:Nat)(below neg:Bool)(mode:Nat)(A:Option qo)(n c:Nat)(B':Option qo)(m d N:Nat)(x:Int)(w:qh)(h1:2<=E)(h2:E<=11)(h3:1<=F)(h4:F<=52)(hm:mode<=4)
  (ha:Rd w A n c (toL N)) (hb:Rd w B' m d (toL 1)) (hn:n<=16384) (h0:N=0->below=qa) (hx1:-4611686018427387904<=x) (hx2:x<=4611686018427387904) (hst:Std w) :
  qk qb 42 #[fm E F,q0f below A n c B' m d,.int .i64 x,.bool neg,.int .u8 (mode:Int)] w (q3J (q0G E F below neg mode (N*t10 x) (t10 (-x))) w):=by
 have W:bl N<=524288:=by have O:=q0h N;rw[ha.words,q1z] at O;have:=q0B O;omega
 obtain⟨k,p⟩:=yx (w.alloc (.cells #[.int .i64 (E:Int),.int .i64 (F:Int)] 23));obtain⟨r,s⟩:=yx (k.alloc (.cells #[.bool below,.slice A n c,.slice B' m d] 39));have C:qe w.heap.size w k:=by rw[p];exact(qc _ w).alloc lr _
 have D:qe k.heap.size k r:=by rw[s];exact(qc _ k).alloc lr _
 have H:k.heap.size=w.heap.size+1:=by rw[p];simp
 have q:FmAt r w.heap.size E F:=(show FmAt k w.heap.size E F by rw[p];exact FmAt.made w _ _ _).below D;have l:RatioBox r (w.heap.size+1) below A n c B' m d:=by rw[<- H,s];exact RatioBox.made k _ _ _ _ _ _ _ _
 have P:qe w.heap.size w r:=C.trans (D.mono C.size);have b:=vv q;have a:=vv l;have f:=vv P;have X:qi (r=(w.alloc (.cells #[.int .i64 (E:Int),.int .i64 (F:Int)] 23)).alloc (.cells #[.bool below,.slice A n c,.slice B' m d] 39)):=vv (by rw[s,p]);have I:=vv hst;have Y:=vv fun w=>qdR E F w h1 h2 h3 h4
 have Z:=vv fun w' (h:qe w.heap.size w w')=>qcg below A n c B' m d N w' (ha.below h rfl) (hb.below h rfl) hn h0 (hst.fs (Fs.of_nil h))
 have a0:=vv fun w' (h:qe w.heap.size w w')=>qdN below A n c B' m d N w' (ha.below h rfl) (hb.below h rfl) (by unfold Sz;omega) (hst.fs (Fs.of_nil h))
 obtain⟨K,i⟩:=yx (q3M x (bl N+1+1500));have a1:=vv fun g w' (hg:RatAt w' g (sg below N) 1) (hs:Std w')=>qdH g (sg below N) x K w' hg (by rw[q0v];omega) hx1 hx2 (by rw[q0v];exact i) hs
 have a2:-16778717<=K/\K<=16778717:=by rw[i];unfold q3M;omega
 have a3:=q4N K.toNat;have a4:=q4N (-K).toNat;have J:=q0n N (t10 K);have a5:qi (sg below N*((t10 K:Nat):Int)=sg below (N*t10 K)):=vv (by
  cases below
  ·show(N:Int)*_=((N*t10 K:Nat):Int);rw[k07]
  ·show -(N:Int)*_ = -((N*t10 K:Nat):Int);rw[k07,k0N])
 have a6:=vv fun g w' (hg:RatAt w' g (sg below (N*t10 K)) (t10 (-K))) (hs:Std w')=>qdM g E F (N*t10 K) (t10 (-K)) below neg mode w' h1 h2 h3 h4 hg (by unfold t10 at J ⊢;omega) (by unfold t10;omega) hs hm
 have Q:=vv (q3r (E:=E) (F:=F) (N:=N) (below:=below) (neg:=neg) (mode:=mode) 1500 x h1 h2 h3 h4 (by omega));rw[<- i] at Q;have b0:(mode:Int)<=4:=by omega
 have f0:=q.c0;have f1:=q.c1;have R:=l.c0;have S:=l.c1;have T:=l.c2;have l0:=q.lt;have U:=l.lt;clear ha hb hn h0 hx1 hx2 hst W p s C D H q l P i a2 a3 a4 J h1 h2 hm;go_enter func42,ntmps42;go_wp2_with fail;rw[<- X.o];refine(Y.o _).mono ?_;rintro e w2 ⟨rfl,t⟩;have b:=vv (b.o.below t);have a:=vv (a.o.below t);have f:=vn f t;obtain⟨R,S,T,U⟩:=a.o;clear t f0 f1 l0;go_wp2_with fail;refine(Z.o _ f.o).mono ?_;rintro e V ⟨rfl,u⟩;have b:=vv (b.o.below u);have a:=vv (a.o.below u);have f:=vn f u;clear u R S T U;go_wp2_with fail;refine q02 (fun w'=>w'.cell? ⟨w.heap.size,0,qd⟩=qf (.int .i64 (E:Int))/\w'.cell? ⟨w.heap.size,1,qd⟩=qf (.int .i64 (F:Int))/\w'.cell? ⟨w.heap.size+1,0,qd⟩=qf (.bool below)/\w'.cell? ⟨w.heap.size+1,1,qd⟩=qf (.slice A n c)/\w'.cell? ⟨w.heap.size+1,2,qd⟩=qf (.slice B' m d)) 13
  (.still 0 (.still 1 (.still 3 (.still 5 (.still 6 (.one 2 (.one 4 (.one 7 (.still 8 (.still 9 (.still 10 (.still 11 (.still 12 .done))))))))))))) (by kernel_rfl) (by kernel_rfl) (fun _ _ d _ _ h=>by cases d<;>exact h) ⟨b.o.c0,b.o.c1,a.o.c0,a.o.c1,a.o.c2⟩ (fun hS0=>?_)
 iterate 5
  refine q00 (v:=?_) rfl (by rfl) ?_ ?_;rotate_left
  ·intro w a7;go_simp;with_reducible rfl
  simp only[Act.put,sa,sb,sc]
 refine q03 rfl (by rfl) (fun K i=>?_);go_simp;refine(a0.o _ (q05 f.o)).mono ?_;rintro e w4 ⟨g4,rfl,b1,L,j⟩;have j:qe V.heap.size V w4:=⟨j.os,j.tape,j.output,j.size,j.block⟩;have a8:=vv L;have b:=vv (b.o.below j);have a:=vv (a.o.below j);have f:=vn f j;clear L j;go_wp2_with fail;refine i.out _ _ ⟨b.o.c0,b.o.c1,a.o.c0,a.o.c1,a.o.c2⟩ (fun M=>?_);clear i;refine q03 rfl (by rfl) (fun K i=>?_);go_simp;refine(a1.o g4 _ a8.o (I.o.fs (Fs.of_nil f.o))).mono ?_;rintro e w5 ⟨g5,rfl,b2,G,y⟩;rw[a5.o] at G;have a9:=vv G;have b:=vv (b.o.below y);have a:=vv (a.o.below y);have f:=vn f y;clear G y;go_wp2_with fail;refine i.out _ _ ⟨b.o.c0,b.o.c1,a.o.c0,a.o.c1,a.o.c2⟩ (fun M=>?_);clear i;refine q03 rfl (by rfl) (fun K i=>?_);go_simp;refine(a6.o g5 _ a9.o (I.o.fs (Fs.of_nil f.o))).mono ?_;rintro e w6 ⟨rfl,z⟩;rw[Q.o];have b:=vv (b.o.below z);have a:=vv (a.o.below z);have f:=vn f z;clear z;go_wp2_with fail;refine i.out _ _ ⟨b.o.c0,b.o.c1,a.o.c0,a.o.c1,a.o.c2⟩ (fun M=>?_);clear i
 iterate 5
  refine q00 (v:=?_) rfl (by rfl) ?_ ?_;rotate_left
  ·intro w a7;go_simp;with_reducible rfl
  simp only[Act.put,sa,sb,sc]
 refine q0Q rfl ?_;go_wp2;go_ret3;exact⟨by simp,f.o⟩
def twoOk(neg:Bool)(n:Nat)(xs:List Nat)(e:Int):Bool:=
 q1G n xs && qj (e<=1073741824) && qj (-1073741824<=e) && (if n=0 then qj (e=0) && !neg else qj (nth xs 0%2=1))
structure DyadBox(w:qh)(g:Nat)(neg:Bool)(A:Option qo)(n c:Nat)(e:Int):Prop where
 c0:w.cell? ⟨g,0,qd⟩=qf (.bool neg)
 c1:w.cell? ⟨g,1,qd⟩=qf (.slice A n c)
 c2:w.cell? ⟨g,2,qd⟩=qf (.int .i64 e)
 lt:g<w.heap.size
theorem DyadBox.made(w:qh)(neg:Bool)(A:Option qo)(n c:Nat)(e:Int)(t:TypeId):DyadBox (w.alloc (.cells #[.bool neg,.slice A n c,.int .i64 e] t)) w.heap.size neg A n c e:=⟨by simp only[World.cell?];rw[qm];rfl,by simp only[World.cell?];rw[qm];rfl,by simp only[World.cell?];rw[qm];rfl,by simp⟩
theorem DyadBox.below{e:Int}(h:DyadBox w g neg A n c e)(hb:qe w.heap.size w w'):DyadBox w' g neg A n c e:=⟨(hb.cell (p:=⟨g,0,qd⟩) h.lt).trans h.c0,(hb.cell (p:=⟨g,1,qd⟩) h.lt).trans h.c1,(hb.cell (p:=⟨g,2,qd⟩) h.lt).trans h.c2,k02 h.lt hb.size⟩
end R5
namespace A
open AB
open Go Go.RowKit
theorem SetBytes(g o:Nat)(v:Int)(A:Option qo)(m c N:Nat)(w:qh)(h:IntAt w g o v)(hb:Bd w A m c N)(hm:m<=4294967296):qk qb 209 #[.pointer (qf ⟨g,o,qd⟩),.slice A m c] w (q0C g o (N:Int) w):=by
 obtain⟨L,U⟩:=yx ((m+3)/4);have J:L<=35184372088832:=by omega
 have b4:(L:Int)<=35184372088832:=by omega
 have a2:((m:Int)+3)/4=(L:Int):=by omega
 have b5:(m:Int)<=4294967296:=by omega
 have b6:=mk L J;have V:=vv h;have K:=vv hb;have HL:=vv U;have H1:qi (Own (w.alloc (.cells (madeCells #[.int .u32 0] L) 54)) w.heap.size 54 (List.replicate L 0)):=vv (Own.made w L 54);have H3:qi (qe w.heap.size w (w.alloc (.cells (madeCells #[.int .u32 0] L) 54))):=vv ((qc _ w).alloc lr _);clear h hb U;go_enter func209,ntmps209;go_wp2;clear a2;go_loopw [16] (fun t wr=>∃(i:Nat) (W:List Nat),t=.int .i64 i/\i<=m/\Own wr w.heap.size 54 W/\W.length=L/\val W=hi N (m-i)/\qe w.heap.size w wr) (fun t _=>m-(intOf t).toNat)
 case atStart=>exact⟨0,List.replicate L 0,rfl,k0x _,H1.o,k0K,by rw[q0e,Nat.sub_zero,q9A K.o.lt],H3.o⟩
 case round =>
  obtain⟨i,W,rfl,a3,a,u,f,j⟩:=hrel;have a0:=vv a;have M:=vv u;have X:=vv j;by_cases him:i<m
  ·obtain⟨k,z⟩:=yx (m-1-i);have O:val W=hi N (k+1):=by rw[f];congr 1;omega
   have b7:(m:Int)-1-(i:Int)=(k:Int):=by omega
   obtain⟨b,off,e,P,Q⟩:=K.o.cell (by omega);subst e;have R:=(j.cell (p:=⟨b,off+i,qd⟩) P).trans (Q i him);rw[<- z] at R;obtain⟨q,hq⟩:=yx (k/4);have b8:q<L:=by have:=HL.o;omega
   have y:q<W.length:=by omega
   have b9:(k:Int)/4=(q:Int):=by omega
   have b1:(k:Int)<=4294967296:=by omega
   have b2:(q:Int)<(L:Int):=by omega
   obtain⟨r,hr⟩:=yx (k%4);have c0:(k:Int).tmod 4=(r:Int):=by rw[k1X (by omega)];omega
   have c1:IntKind.i64.wrap (q:Int)=(q:Int):=by rw[qp];omega
   have c2:(0:Int)<=(q:Int):=by omega
   obtain⟨Y,l,E,n⟩:=q53 a.2 y (show k=4*q+r by omega) (by omega) O;have S:=a.cell y;have c3:=a.frozen q;have c4:=a.lt;have F:=vv (a.set (x:=nth W q+bt N k*256^r) y l rfl);have a4:=qaJ N k;obtain⟨C,G⟩:=yx (bt N k);obtain⟨x,hx⟩:=yx (nth W q);rw[<- G,<- hx] at Y l n F;rw[<- G] at E a4 R;rw[<- hx] at S;have c5:IntKind.u32.wrap (C:Int)=(C:Int):=by rw[qq];omega
   obtain⟨D,H⟩:=yx (C*256^r);rw[<- H] at Y l E n F;obtain⟨s,Z⟩:=yx (8*r);have c6:IntKind.i64.wrap (8*(r:Int))=(s:Int):=by rw[qp];omega
   have c7:(0:Int)<=(s:Int):=by omega
   have b3:(s:Int)<=32:=by omega
   have c8:IntKind.u32.wrap ((C:Int)*2^s)=(D:Int):=by
    have e:(C:Int)*2^s=(D:Int):=by
     have e2:(2:Int)^s=((256^r:Nat):Int):=by rw[Z,k0F,Int.pow_mul];rfl
     rw[e2,H,k07]
    rw[e,qq];omega
   have a5:qi (hi N k=hi N (m-(i+1))):=vv (by rw[z];congr 1;omega);have a6:=vv n;clear P Q j a O f u hr hq z G hx H Z l E n;go_wp2;refine q02 (fun w'=>w'.cell? ⟨w.heap.size,q,qd⟩=qf (.int .u32 (x:Int))) 13
    (.still 0 (.still 1 (.still 2 (.still 3 (.still 4 (.still 5 (.still 6 (.still 7 (.still 8 (.still 9 (.still 10 (.still 11 (.still 12 .done))))))))))))) (by kernel_rfl) (by kernel_rfl) (fun _ _ d _ _ h=>by cases d<;>exact h) S (fun hS0=>?_)
   iterate 13
    refine q00 (v:=?_) rfl (by rfl) ?_ ?_;rotate_left
    ·intro w c9;go_simp;with_reducible rfl
    simp only[Act.put,sa,sb,sc]
   refine q07 ?_;go_wp2;go_roundw
   case rel =>exact⟨i+1,W.set q (x+D),by go_num,by omega,F.o,by rw[k09];exact M.o,a6.o.trans a5.o,(X.o.drew).setCell lr _⟩
   case measure=>simp [intOf];omega
  ·obtain rfl:i=m:=by omega
   rw[Nat.sub_self,q7J] at f;have a7:=vv f;have a8:=vv (V.o.below (j.mono lr));have a1:(i:Int)<=(i:Int):=Int.le_refl _;clear a f u j him a3 a1;go_wp2_with fail;refine(trim (qf ⟨w.heap.size,0,qd⟩) L L W wr (a0.o.rd M.o.symm lr J)).mono ?_;rintro e w' ⟨m',rfl,rfl,I⟩;rw[a7.o] at I;have HR:=vv I;have T:=vv (SetWords g o v _ _ _ (toL N) wr a8.o HR.o);rw[q04] at T;clear I;go_wp2_with fail;refine T.o.mono ?_;rintro e w3 ⟨rfl,hI,hF⟩;have a9:=vv hI;have b0:=vv (Fm.trans (Fm.of_below X.o V.o.lt) hF);clear hI hF;go_wp2;go_ret;exact⟨rfl,a9.o,b0.o⟩
end A
namespace A
open AB
open Go Go.RowKit
theorem qdw:(Tryz.prog.info? 5).map (fun i=>(i.zero,i.size,i.bytes))=qf (qf (.int .u8 0),1,1):=by kernel_rfl
theorem mk8(n:Nat)(h:n<=35184372088832)(w:qh):(Instr.makeSlice 229 (.int .i64 (n:Int)) (.int .i64 (n:Int))).run qb w=.ok (.slice (qf ⟨w.heap.size,0,qd⟩) n n) (w.alloc (.cells (madeCells #[.int .u8 0] n) 5)):=run_make_row' (P:=qb) 229 5 (.int .u8 0) 1 underlying229 qdw rfl .i64 .i64 n (by omega) (by omega) w
theorem lt_bytes(N:Nat):N<256^((bl N+7)/8):=by
 have h:(256:Nat)^((bl N+7)/8)=2^(8*((bl N+7)/8)):=by rw[k14]
 rw[h];exact k02 (q0S N) (k04 (by decide) (by omega))
theorem bl_words(N:Nat):bl N<=32*words N:=q0B (by have h:=q0h N;rwa [show(4294967296:Nat)^words N=2^(32*words N) by rw[k14]] at h)
theorem Bytes(g o:Nat)(u:Int)(w:qh)(h:IntAt w g o u)(sN:bl u.natAbs<=4294967296):qk qb 287 #[.pointer (qf ⟨g,o,qd⟩)] w fun e w'=>∃A m,e=.returned (.slice A m m)/\m=(bl u.natAbs+7)/8/\Bd w' A m m u.natAbs/\qe w.heap.size w w':=by
 have v:=vv fun w' (h:IntAt w' g o u)=>BitLen g o u w' h
 obtain⟨N,R⟩:=yx (u.natAbs);have F:=h.lt;obtain⟨A,n,c,h0,h1,d,S⟩:=h.ex;rw[<- R] at v sN d ⊢;obtain⟨m,T⟩:=yx ((bl N+7)/8);have Z:bl N<=32*n:=by have:=bl_words N;rwa [d.words] at this
 have y:=lt_bytes N;rw[<- T] at y ⊢;have G:m<=35184372088832:=by omega
 have b4:=mk8 m G;have H:((bl N:Int)+7)/8=(m:Int):=by omega
 obtain⟨b0,I⟩:=yx (bl N);rw[<- I] at v H sN;have b5:(b0:Int)<=4294967296:=by omega
 have b6:(m:Int)<=1000000000:=by omega
 have J:m<=4*n:=by omega
 have HI:=vv h;have V:=vv d;have HZ:=vv S;have a1:=vv y;have a2:=vv J;have b7:=vv d.sm;have H1:qi (q2n (w.alloc (.cells (madeCells #[.int .u8 0] m) 5)) w.heap.size 5 (List.replicate m 0)):=vv (q2n.made w m 5);have H3:qi (qe w.heap.size w (w.alloc (.cells (madeCells #[.int .u8 0] m) 5))):=vv ((qc _ w).alloc lr _);clear h d S T Z y J R I;go_enter func287,ntmps287;go_wp2_with fail;refine(v.o _ HI.o).mono ?_;rintro e w' ⟨rfl,rfl⟩;go_wp2;clear H;go_loopw [13] (fun t wr=>∃(i:Nat) (U:List Nat),t=.int .i64 i/\i<=m/\q2n wr w.heap.size 5 U/\U.length=m/\(∀j,j<i->nth U j=bt N (m-1-j))/\qe w.heap.size w wr) (fun t _=>m-(intOf t).toNat)
 case atStart=>exact⟨0,List.replicate m 0,rfl,k0x _,H1.o,k0K,fun j hj=>absurd hj (by omega),H3.o⟩
 case round =>
  obtain⟨i,U,rfl,K,a,z,D,f⟩:=hrel;have a0:=vv a;have L:=vv z;have M:=vv D;have W:=vv f;by_cases him:i<m
  ·obtain⟨k,X⟩:=yx (m-1-i);have b8:(m:Int)-1-(i:Int)=(k:Int):=by omega
   obtain⟨q,hq⟩:=yx (k/4);have a3:q<n:=by have:=a2.o;omega
   obtain⟨b,off,e,O,P⟩:=V.o.cell (by omega);subst e;have a4:=(f.cell (p:=⟨b,off+q,qd⟩) O).trans (P q a3);have j1:=(f.cell (p:=⟨g,o+1,qd⟩) F).trans h1;have a7:g<wr.heap.size:=k02 F f.size;have b9:(k:Int)/4=(q:Int):=by omega
   obtain⟨r,d⟩:=yx (k%4);have a5:(k:Int)%4=(r:Int):=by omega
   have a8:(k:Int).tmod 4=(r:Int):=by rw[k1X (by omega)];exact a5
   have c0:(r:Int)<=3:=by omega
   have a9:(q:Int)<(n:Int):=by omega
   have Q:nth (toL N) q<4294967296:=V.o.nth_lt q;have l:=q2a (q24 N) q r (by omega);rw[q04,show 4*q+r=k by omega] at l;obtain⟨x,hx⟩:=yx (nth (toL N) q);obtain⟨C,E⟩:=yx (bt N k);rw[<- hx] at a4 Q l;rw[<- E] at l;obtain⟨s,Y⟩:=yx (8*r);have c1:8*(r:Int)=(s:Int):=by omega
   have b1:(s:Int)<=24:=by omega
   have c2:(x:Int)/2^s%256=(C:Int):=by
    have e2:(2:Int)^s=((256^r:Nat):Int):=by rw[Y,k0F,Int.pow_mul];rfl
    rw[e2,<- l,k1M,k1L];rfl
   have c3:=a.cell (i:=i) (by omega);have c4:=a.frozen i;have c5:=a.lt;have HS:=vv (a.set (i:=i) (x:=C) (by omega) rfl);have a6:qi (∀j,j<i+1->nth (U.set i C) j=bt N (m-1-j)):=vv (fun j hj=>by
    rw[q0K U i C j (by omega)];split
    ·rename_i e;rw[e,E,X]
    ·exact M.o j (by omega))
   have c6:(x:Int)<=4294967295:=by omega
   have b2:(k:Int)<=1000000000:=by omega
   have b3:(i:Int)<(m:Int):=by omega
   clear O P f a D z d hq X E hx Y l Q K him;go_wp2;go_roundw
   case rel=>exact⟨i+1,U.set i C,by go_num,by omega,HS.o,by rw[k09];exact L.o,a6.o,(W.o).setCell lr _⟩
   case measure=>simp [intOf];omega
  ·obtain rfl:i=m:=by omega
   clear a z D f him K;go_wp2;go_ret;exact⟨_,_,rfl,rfl,a0.o.bd L.o.symm lr G a1.o M.o,W.o⟩
end A
namespace A
open AB
open Go Go.RowKit
def Mul:=@AB.Mul 94
def added_same:=@AB.added_same 335
def added_ge:=@AB.added_ge 335
def added_lt:=@AB.added_lt 335
def added:=@AB.added 335
end A
namespace A
open AB
open Go Go.RowKit
def Add:=@AB.Add 292
def Sub:=@AB.Sub 319
def Lsh:=@AB.Lsh 172
def Uint64:=@AB.Uint64 269
def NewInt:=@AB.NewInt 93
end A
namespace A
open AB
open Go Go.RowKit
def Cmp_ff:=@AB.Cmp_ff 204
def Cmp_tt:=@AB.Cmp_tt 204
def Cmp_ne:=@AB.Cmp_ne 204
def Cmp:=@AB.Cmp 204
def Bit0:=@AB.Bit0 320
end A
namespace A
open AB
open Go Go.RowKit
def QuoRem:=@AB.QuoRem 318
def DivMod_up:=@AB.DivMod_up 260
def DivMod_low:=@AB.DivMod_low 260
def DivMod:=@AB.DivMod 260
def Div:=@AB.Div 231
end A
namespace A
open AB
open Go Go.RowKit
theorem Exp(g o gx ox gy oy:Nat)(v:Int)(x y:Nat)(w:qh)(h:IntAt w g o v)(hx:IntAt w gx ox (x:Int))(hy:IntAt w gy oy (y:Int))(hx0:0<x)(hy0:0<y)(hs:Sz (x^y))(hsy:Sz y):qk qb 92 #[.pointer (qf ⟨g,o,qd⟩),.pointer (qf ⟨gx,ox,qd⟩),.pointer (qf ⟨gy,oy,qd⟩),.pointer qd] w (q5C g o ((x^y:Nat):Int) w):=by
 have U:=vv h;have HX:=vv hx;have HY:=vv hy;have b6:=hy.lt;have E:qi (∀q,q<=y->Sz (x^q)):=vv fun q hq=>hs.mono (k04 hx0 hq)
 have a3:qi ((y:Int).sign=1):=vv (k0o (by omega));have a4:=vv hsy;have c0:=vv hx0;have a5:=vv hy0;have s:qi (∀(w:qh) t,qe w.heap.size w (w.alloc (.cells #[.bool qa,.slice qd 0 0] t))):=vv fun w t=>(qc _ w).alloc lr _
 have HZ:=vv (IntAt.zero w 142);clear h hx hy hs hsy hx0 hy0;go_enter func92,ntmps92;go_wp2_with fail;refine(NewInt 1 _ (by omega) (by omega)).mono ?_;rintro e r ⟨k,rfl,P,H,I⟩;have a6:=vv H;have J:=vv ((s.o w 142).trans (I.mono (Below.size (s.o w 142))));have a7:=vv (HZ.o.below I);have b7:=H.lt;have b8:w.heap.size<k:=by simp at P;omega
 have a0:=J.o.size;clear H I P;go_wp2_with fail;have K:=vv (J.o.trans ((s.o r 142).mono J.o.size));have Q:=vv (IntAt.zero r 142);refine(Set _ 0 gx ox 0 _ _ Q.o (HX.o.below K.o)).mono ?_;rintro e V c;have c:=c.f Q.o;have L:=vv (c.below K.o (K.o.size) a0);have a8:=vv ((a6.o.below (s.o r 142)).fs1 c.2.2 (by omega));have a9:=vv ((a7.o.below (s.o r 142)).fs1 c.2.2 (by omega));have b0:=vv c.2.1;obtain⟨rfl,-,-⟩:=c;have M:=vv (HY.o.below L.o);go_wp2_with fail;refine(Sign gy oy _ _ M.o).mono ?_;rintro e W ⟨rfl,rfl⟩;rw[a3.o];obtain⟨B,m,d,k0,k1,F,G⟩:=M.o.ex;have O:=vv F;have X:=F.words;have HM:=vv X;have c1:=F.sz a4.o;have a2:=M.o.lt;clear F G k0 X;go_wp2_with fail;refine(copied _ _ _ _ _ O.o).mono ?_;rintro e W ⟨rfl,Y,u⟩;have b1:qi (ExpInv w w.heap.size k r.heap.size (qf ⟨V.heap.size,0,qd⟩) m x y 0 W):=vv
  ⟨a9.o.below u,by simpa using a8.o.below u,b0.o.below u,Y.rd O.o.len.symm lr O.o.sm,fun a e=>by cases e;rfl,L.o.trans (u.mono L.o.size)⟩
 clear Y u;go_wp2;go_loopw [13] (fun i wr=>∃(z:Int) (j:Nat),i=.int .i64 z/\z+1=j/\j<=32*m/\ExpInv w w.heap.size k r.heap.size (qf ⟨V.heap.size,0,qd⟩) m x y (y/2^j) wr) (fun i _=>(intOf i+1).toNat)
 case atStart =>refine⟨_,32*m,rfl,by omega,lr,?_⟩;have R:=q0h y;have b2:words y=m:=HM.o;rw[b2,q1z] at R;rw[k0R R];exact b1.o
 case round =>
  obtain⟨z,j,rfl,G,hj,Z⟩:=hrel;have l:=vv Z;clear Z;rcases k01 j with rfl|b9
  ·obtain rfl:z = -1:=by omega
   clear G;go_wp2_with fail;have S:=l.o.o;rw[k0E,k1d] at S;refine(Set g o k 0 _ _ _ (U.o.below l.o.bel) S).mono ?_;rintro e w5 c;have hF:=vv ((c.f (U.o.below l.o.bel)).after l.o.bel);obtain⟨rfl,b3,-⟩:=c;go_wp2;go_ret;exact⟨rfl,b3,hF.o⟩
  ·obtain⟨i,rfl⟩:∃i,j=i+1:=⟨j-1,by omega⟩;obtain rfl:z=(i:Int):=by omega
   clear G;have i1:(0:Int)<=(i:Int):=by omega
   have i2:(i:Int)<32*(m:Int):=by omega
   go_wp2_with fail;refine(Mul k 0 k 0 k 0 _ _ _ _ l.o.o l.o.o l.o.o (by simpa using E.o _ (k0e _ _)) (by simpa using E.o _ (k0e _ _))).mono ?_;rintro e w4 c;have n:=vv (l.o.step c (q':=2*(y/2^(i+1))) (by rw[<- k07,<- k0i];congr 2;omega) (by omega) (by omega) (by omega));obtain⟨rfl,-,-⟩:=c;obtain⟨b,off,b4,c2,hc⟩:=n.o.words.cell (by omega);cases b4;have T:=hc (i/32) (by omega);rw[k0W] at T;clear hc;have C:=q44 (nth (toL y) (i/32)) (i%32) (n.o.words.nth_lt _);rw[q5j] at C;have HQ:=vv (q1C y i);by_cases hb:y/2^i%2=1
   ·rw[k03 hb] at C;have D:qi (y/2^i=2*(y/2^(i+1))+1):=vv (by have:=HQ.o;omega);clear hb;go_wp2_with fail;refine(Mul k 0 k 0 r.heap.size 0 _ _ _ _ n.o.o n.o.o n.o.base (by simpa using E.o _ (by have:=k0e y (2^i);have:=D.o;omega)) (by simpa using E.o 1 a5.o)).mono ?_;rintro e w5 c;have p:=vv (n.o.step c (q':=y/2^i) (by rw[D.o,k0i x _ 1,k1W,k07]) (by omega) (by omega) (by omega));obtain⟨rfl,-,-⟩:=c;obtain⟨A5,c5,b5⟩:=p.o.by_.nil;have a1:=p.o.by_.lt;clear T C;go_wp2;go_roundw
    case rel=>exact⟨_,i,rfl,by omega,by omega,p.o⟩
    case measure=>simp [intOf]
   ·rw[k00 hb] at C;have D:qi (y/2^i=2*(y/2^(i+1))):=vv (by have:=HQ.o;omega);clear hb;have N:=n.o;rw[<- D.o] at N;have p:=vv N;obtain⟨A5,c5,b5⟩:=p.o.by_.nil;have a1:=p.o.by_.lt;clear N;go_wp2;go_roundw
    case rel=>exact⟨_,i,rfl,by omega,by omega,p.o⟩
    case measure=>simp [intOf]
end A
namespace A
open AB
open Go Go.RowKit
theorem Exp0(g o gx ox gy oy:Nat)(v x:Int)(w:qh)(h:IntAt w g o v)(hx:IntAt w gx ox x)(hy:IntAt w gy oy 0):qk qb 92 #[.pointer (qf ⟨g,o,qd⟩),.pointer (qf ⟨gx,ox,qd⟩),.pointer (qf ⟨gy,oy,qd⟩),.pointer qd] w (q5C g o 1 w):=by
 have q:=vv h;have E:=vv hx;have F:=vv hy;have I:=hy.lt;have b:qi (∀(w:qh) t,qe w.heap.size w (w.alloc (.cells #[.bool qa,.slice qd 0 0] t))):=vv fun w t=>(qc _ w).alloc lr _
 have G:=vv (IntAt.zero w 142);clear h hx hy;go_enter func92,ntmps92;go_wp2_with fail;refine(NewInt 1 _ (by omega) (by omega)).mono ?_;rintro e d ⟨r,rfl,m,i,j⟩;have s:=vv i;have k:=vv ((b.o w 142).trans (j.mono (Below.size (b.o w 142))));have u:=vv (G.o.below j);have J:=i.lt;have K:w.heap.size<r:=by simp at m;omega
 have y:=k.o.size;clear i j m;go_wp2_with fail;have l:=vv (k.o.trans ((b.o d 142).mono k.o.size));have n:=vv (IntAt.zero d 142);refine(Set _ 0 gx ox 0 _ _ n.o (E.o.below l.o)).mono ?_;rintro e N a;have a:=a.f n.o;have c:=vv (a.below l.o (l.o.size) y);have z:=vv ((s.o.below (b.o d 142)).fs1 a.2.2 (by omega));have p:=vv ((u.o.below (b.o d 142)).fs1 a.2.2 (by omega));obtain⟨rfl,-,-⟩:=a;have C:=vv (F.o.below c.o);go_wp2_with fail;refine(Sign gy oy _ _ C.o).mono ?_;rintro e O ⟨rfl,rfl⟩;rw[k2a];obtain⟨P,Q,L⟩:=p.o.nil;have M:=p.o.lt;go_wp2_with fail;refine(Set g o r 0 _ _ _ (q.o.below c.o) z.o).mono ?_;rintro e R a;have H:=vv ((a.f (q.o.below c.o)).after c.o);obtain⟨rfl,D,-⟩:=a;go_wp2;go_ret;exact⟨rfl,D,H.o⟩
theorem ExpN(g o gx ox gy oy:Nat)(v:Int)(x y:Nat)(w:qh)(h:IntAt w g o v)(hx:IntAt w gx ox (x:Int))(hy:IntAt w gy oy (y:Int))(hx0:0<x)(hs:Sz (x^y))(hsy:Sz y):qk qb 92 #[.pointer (qf ⟨g,o,qd⟩),.pointer (qf ⟨gx,ox,qd⟩),.pointer (qf ⟨gy,oy,qd⟩),.pointer qd] w (q5C g o ((x^y:Nat):Int) w):=by
 rcases k01 y with rfl|a
 ·exact Exp0 g o gx ox gy oy v x w h hx hy
 ·exact Exp g o gx ox gy oy v x y w h hx hy hx0 a hs hsy
end A
namespace A
open AB
open Go Go.RowKit
def below:=@AB.below 279
def SetInt:=@AB.SetInt 228
def Num:=@AB.Num 211
theorem Denom(g:Nat)(p:Int)(d:Nat)(w:qh)(h:RatAt w g p d):qk qb 203 #[.pointer (qf ⟨g,0,qd⟩)] w (q18 (ld p d:Nat) w):=by
 have z:=h.lt;have i:qi (∀t,qe w.heap.size w (w.alloc (.cells #[.bool qa,.slice qd 0 0] t))):=vv fun t=>(qc _ w).alloc lr _
 have s:=vv h;clear h;go_enter func203,ntmps203;go_wp2_with fail;refine(below g p d _ (s.o.below (i.o _))).mono ?_;rintro e C ⟨A,n,c,rfl,l,D,b⟩;have u:=vv ((IntAt.zero w 142).below b);have j:=vv l;have q:=vv ((i.o 142).trans (b.mono (i.o _).size));clear l b;go_wp2_with fail;refine(copied _ _ _ _ _ j.o).mono ?_;rintro e E ⟨rfl,m,f⟩;have v:=vv m;have r:=vv (u.o.below f);have k:=vn q f;clear m f;go_wp2_with fail;refine(set_of _ 0 0 (ld p d:Nat) _ _ n n (ld p d) _ r.o (v.o.rd j.o.len.symm lr j.o.sm) (fun a e=>by cases e;rfl) rfl (q2D (by omega))).mono ?_;rintro e F ⟨rfl,x,y⟩;go_wp2;go_ret;exact⟨_,rfl,lr,x,y.below k.o k.o.size lr⟩
def RSign:=@AB.RSign 212
end A
namespace A
open AB
open Go Go.RowKit
def Rset_zero:=@AB.Rset_zero 214
theorem q4A(g:Nat)(b:Bool)(A B:Option qo)(n c m d:Nat)(xs ys:List Nat)(w:qh)(h:RatSh w g)(ha:Rd w A n c xs)(hb:Rd w B m d ys)(hD:0<val ys)(h0:0<val xs)(hza:∀a,A=qf a->a.off=0)(hzb:∀a,B=qf a->a.off=0)
  (hst:Std w) (hn:n<549755813888) (hm:m<549755813888) :
  qk qb 214 #[.pointer (qf ⟨g,0,qd⟩),.bool b,.slice A n c,.slice B m d] w (q1M g (sg b (val xs)) (val ys) w):=by
 have HH:=vv h;obtain⟨v,z⟩:=h.int;have Q:=vv z;have b9:=z.lt;have HA:=vv (trim A n c xs w ha);have HB:=vv (trim B m d ys w hb);have HD:=vv hD;have H0:=vv h0;have X:=vv hst;have Y:=vv ha.lim;have Z:=vv hb.lim;have a3:=vv ha.len;have a4:=vv hb.len;have C:=vv (q0g (n:=val xs) hD);have E:=vv (q9p (b:=b) (N:=val xs) hD);have F:qi (0<val ys/Nat.gcd (val xs) (val ys)):=vv (k1i (k13 hD (k0y _ _)) C.o);clear z h ha hb hD h0 hst;go_enter func214,ntmps214;go_wp2_with fail;refine HA.o.mono ?_;rintro e w' ⟨l,rfl,rfl,i⟩;have c0:l<=n:=i.trim_le Y.o (by rw[a3.o];exact lr);have c3:0<l:=by
  rcases k01 l with e|e
  ·have:=i.words;rw[e] at this;have:=q06.1 this;have:=H0.o;omega
  ·exact e
 have c5:=i.sm;have R:=vv i;clear i;go_wp2_with fail;refine HB.o.mono ?_;rintro e w' ⟨D,rfl,rfl,i⟩;have c6:D<=m:=i.trim_le Z.o (by rw[a4.o];exact lr);have G:=vv i;clear i;have c7:((l:Int)==0)=qa:=by simp;omega
 go_wp2_with fail;refine(q1D A B l D c d _ _ _ R.o G.o X.o (by omega) (by omega)).mono ?_;rintro e w1 ⟨S,T,U,rfl,V,a5,y⟩;have H:=vv V;have I:=vv y;have a6:=vv (R.o.below y rfl);have a1:=vv (G.o.below y rfl);clear V;go_wp2_with fail;refine q02 (fun _=>True) 7
  (.still 0 (.still 1 (.still 2 (.still 3 (.still 4 (.still 5 (.one 6 .done))))))) (by kernel_rfl) (by kernel_rfl) (fun _ _ d _ _ h=>by cases d<;>exact h) trivial (fun hS0=>?_)
 clear hS0
 iterate 6
  refine q00 (v:=?_) rfl (by rfl) ?_ ?_;rotate_left
  ·intro w c8;go_simp;with_reducible rfl
  simp only[Act.put,sa,sb,sc]
 refine q03 rfl (by rfl) (fun K hK=>?_);go_simp;refine(by_ A S l T c U _ _ _ a6.o.drew H.o.drew C.o (by omega)).mono ?_;rintro e w2 ⟨W,k2,c2,rfl,q,J,r⟩;have s:qi (qe w.heap.size w w2):=vv ((q05 I.o).trans (r.mono (by simpa using I.o.size)));have L:∀a,W=qf a->a.off=0:=fun a e=>by
  rcases J with j|j
  ·exact(j a e).2
  ·exact hza a (j ▸ e)
 have HQ:=vv q;have a7:=vv L;have a8:=vv (H.o.drew.below r rfl);have a0:=vv (a1.o.drew.below r rfl);clear q L J r;go_wp2_with fail;refine hK.out _ _ trivial (fun a2=>?_);clear hK;refine q07 ?_;go_wp2_with fail;refine(set_of g 0 v (sg b (val xs/Nat.gcd (val xs) (val ys))) _ W k2 c2 _ _ (Q.o.below s.o) HQ.o a7.o (q0v _ _) (q1l _ _)).mono ?_;rintro e w3 k;have k:=k.f (Q.o.below s.o);have a9:=vv k.2.2;have b0:=vv ((HH.o.below s.o).num k);have b1:=vv (a8.o.fs (fun a e=>(a5 a e).2) k.2.2);have b2:=vv (a0.o.fs hzb k.2.2);obtain⟨rfl,-,-⟩:=k;go_wp2_with fail;refine(by_ B S D T d U _ _ _ b2.o b1.o C.o (by omega)).mono ?_;rintro e w4 ⟨A4,k4,c4,rfl,q,M,t⟩;have O:∀a,A4=qf a->a.off=0:=fun a e=>by
  rcases M with j|j
  ·exact(j a e).2
  ·exact hzb a (j ▸ e)
 have b3:=vv q;have b4:=vv O;obtain⟨hi,x,hx⟩:=b0.o;have u:=hi.below t;have b5:=(t.cell (p:=⟨g,2,qd⟩) hi.lt).trans hx;have b8:=u.lt;have c9:=u.fz 2;have P:=vv u;have b6:=vv b5;have b7:qi (Fs [(g,0,2)] w w4):=vv (((a9.o.after s.o).trans (Fs.of_nil t)).drop (fun p hp _=>by simpa using hp) (fun p hp=>by simpa using hp));clear q O M t hi u hx;go_wp2;go_ret;refine⟨rfl,RatAt.made P.o ⟨x,b6.o⟩ (b3.o.den F.o b4.o) HD.o F.o E.o.1 E.o.2,fs3 ?_⟩;exact b7.o.trans (Fs.set2 P.o _)
end A
namespace A
open AB
open Go Go.RowKit
theorem q9L(g:Nat)(b:Bool)(A B:Option qo)(n c m d:Nat)(xs ys:List Nat)(w:qh)(h:RatSh w g)(ha:Rd w A n c xs)(hb:Rd w B m d ys)(hD:0<val ys)(hza:∀a,A=qf a->a.off=0)(hzb:∀a,B=qf a->a.off=0)
  (hst:Std w) (hn:n<549755813888) (hm:m<549755813888) :
  qk qb 214 #[.pointer (qf ⟨g,0,qd⟩),.bool b,.slice A n c,.slice B m d] w (q1M g (sg b (val xs)) (val ys) w):=by
 rcases k01 (val xs) with e|e
 ·exact Rset_zero g b A B n c m d xs ys w h ha hb hD e
 ·exact q4A g b A B n c m d xs ys w h ha hb hD e hza hzb hst hn hm
theorem SetFrac(g gx gy:Nat)(u:Int)(D:Nat)(w:qh)(h:RatSh w g)(hx:IntAt w gx 0 u)(hy:IntAt w gy 0 (D:Int))(hD:0<D)(hst:Std w)(hn:Sz u.natAbs)(hm:Sz D):qk qb 122 #[.pointer (qf ⟨g,0,qd⟩),.pointer (qf ⟨gx,0,qd⟩),.pointer (qf ⟨gy,0,qd⟩)] w (q1M g u D w):=by
 have r:=hx.lt;have s:=hy.lt;obtain⟨A,n,c,F,G,H,hz⟩:=hx.ex;obtain⟨B,m,d,y,I,P,hy⟩:=hy.ex;rw[k00 (by omega)] at y;have C:Rd w B m d (toL D):=P;have J:=vv H;have L:=vv C;have HH:=vv h;have R:=vv hst;have HD:=vv hD;have HN:=vv (H.sz hn);have HM:=vv (C.sz hm);clear H hz P C hy h hx hn hm hst hD;have fin:∀i b k l,qe w.heap.size w i->qe i.heap.size i b->Rd b k n n (toL u.natAbs)->Rd b l m m (toL D)->(∀a,k=qf a->a.off=0)->(∀a,l=qf a->a.off=0) ->qk qb 214 #[.pointer (qf ⟨g,0,qd⟩),.bool (qj (u<0)),.slice k n n,.slice l m m] b (q1M g u D w):=by intro i b k l N S ha hb T U;have E:=N.trans (S.mono N.size);refine(q9L g _ k l n n m m _ _ b (HH.o.below E) ha hb (by rw[q04];exact HD.o) T U (R.o.fs (Fs.of_nil E)) (by have:=HN.o;omega) (by have:=HM.o;omega)).mono ?_;rintro e q ⟨he,z,M⟩;rw[q04,q04,q4Q] at z;exact⟨he,z,M.after E⟩
 have V:=vv fin;clear fin;go_enter func122,ntmps122;go_wp2_with fail;refine q02 (fun q=>q.cell? ⟨gx,0,qd⟩=qf (.bool (qj (u<0)))/\q.cell? ⟨gx,1,qd⟩=qf (.slice A n c)/\q.cell? ⟨gy,0,qd⟩=qf (.bool qa)/\q.cell? ⟨gy,1,qd⟩=qf (.slice B m d)) 20
  (.still 0 (.still 1 (.still 2 (.still 3 (.still 4 (.still 5 (.still 6 (.still 7 (.still 8 (.still 9 (.still 10 (.still 11 (.still 12 (.still 13 (.still 15 (.still 16 (.still 17 (.still 18 (.one 14 (.one 19 .done)))))))))))))))))))) (by kernel_rfl) (by kernel_rfl) (fun _ _ d _ _ h=>by cases d<;>exact h) ⟨F,G,y,I⟩ (fun hS0=>?_)
 iterate 18
  refine q00 (v:=?_) rfl (by rfl) ?_ ?_;rotate_left
  ·intro w a0;go_simp;with_reducible rfl
  simp only[Act.put,sa,sb,sc]
 refine q03 rfl (by rfl) (fun K hK=>?_);go_simp;refine(copied _ _ _ _ _ J.o.drew).mono ?_;rintro e i ⟨rfl,Q,j⟩;have HO:=vv (Q.rd J.o.len.symm lr J.o.sm);have f:qi (qe w.heap.size w i):=vv ⟨j.os,j.tape,j.output,j.size,j.block⟩;clear Q j;go_wp2_with fail;refine hK.out _ _ ⟨(f.o.cell (p:=⟨gx,0,qd⟩) r).trans F,(f.o.cell (p:=⟨gx,1,qd⟩) r).trans G,(f.o.cell (p:=⟨gy,0,qd⟩) s).trans y,(f.o.cell (p:=⟨gy,1,qd⟩) s).trans I⟩ (fun W=>?_);clear hK;refine q03 rfl (by rfl) (fun K hK=>?_);go_simp;refine(copied _ _ _ _ _ (L.o.below f.o rfl)).mono ?_;rintro e b ⟨rfl,O,t⟩;have X:=vv (O.rd L.o.len.symm lr L.o.sm);have Y:=vv (HO.o.below t rfl);have Z:=vv t;have x:=vn f t;clear O t;go_wp2_with fail;refine hK.out _ _ ⟨(x.o.cell (p:=⟨gx,0,qd⟩) r).trans F,(x.o.cell (p:=⟨gx,1,qd⟩) r).trans G,(x.o.cell (p:=⟨gy,0,qd⟩) s).trans y,(x.o.cell (p:=⟨gy,1,qd⟩) s).trans I⟩ (fun W=>?_);clear hK;refine q07 ?_;go_wp2_with fail;refine(V.o i b _ _ f.o Z.o Y.o X.o (fun a e=>by cases e;rfl) (fun a e=>by cases e;rfl)).mono ?_;rintro e w3 ⟨rfl,z,M⟩;have HR:=vv z;go_wp2;go_ret;exact⟨rfl,HR.o,M⟩
def SetInt64R:=@AB.SetInt64R 220
end A
end Go.Proofs.YtabcgemembkkcaaGreatDoor
