/- Lemmas. -/
import Derived.Test.YthopehoklmgphaaGreatDoorPartAZ
set_option linter.all false
set_option maxHeartbeats 4000000
set_option maxRecDepth 100000
open Go.Proofs.Tryz
open Bool renaming false->qa,true->qe
open Go renaming RowKit.Below.refl->qb,World->qi,IntWalk.i64_in->qk,Calls->ql,heap_alloc_new->qm,IntKind.wrap_u64->qn,Addr->qo,IntKind.wrap_i64->qp,IntKind.wrap_u32->qq
open Go.Proofs.Tryz renaming prog->qc
open Go.RowKit renaming Below->qd,Hid->qh
open Decidable renaming decide->qf
open Option renaming none->qg,some->qj
namespace Go.Proofs.YthopehoklmgphaaGreatDoor
variable{w w':qi}{g E F m a b c mode n N:Nat}{neg:Bool}{A:Option qo}
namespace R5
open Go Go.RowKit
theorem qdX(g a b:Nat)(q:Int)(neg:Bool)(mode:Nat)(w:qi)(hx:RatAt w g (a:Int) b)(hq:-2147483648<=q)(hq':q<=2147483648)(sa:bl a<=1073741824)(sb:bl b<=1073741824)(hst:Std w)(hm:mode<=4):ql qc 163 #[.pointer (qj ⟨g,0,qg⟩),.int .i64 q,.bool neg,.int .u8 (mode:Int)] w (q1z ((rnd neg mode (a*p2 (-q)) (b*p2 q)*p2 q:Nat):Int) (p2 (-q)) w):=by
 have HX:=vv hx;have m:=vv hst;have a5:=hx.lt;have J:bl (p2 q)<=2147483649:=by unfold p2;rw[q1F];omega
 have K:bl (p2 (-q))<=2147483649:=by unfold p2;rw[q1F];omega
 have hA:=q0D a (p2 (-q));have hB:=q0D b (p2 q);have L:bl (rnd neg mode (a*p2 (-q)) (b*p2 q))<=3758096384:=by have h1:=qbn neg mode (a*p2 (-q)) (b*p2 q);have h2:=k0y (a*p2 (-q)) (b*p2 q);have h3:=q5w (k06 h1 (Nat.add_le_add_right h2 1));have h4:=q6b (a*p2 (-q)) 1;have h5:bl 1=1:=rfl;omega
 have d:qh (Sz a/\Sz b/\Sz (p2 q)/\Sz (p2 (-q))/\Sm (a*p2 (-q))/\Sm (b*p2 q)/\Sz (rnd neg mode (a*p2 (-q)) (b*p2 q))):=vv (by unfold Sz Sm;exact⟨by omega,by omega,by omega,by omega,by omega,by omega,by omega⟩);have M:=vv fun w=>q3k (-q) w (by omega) (by omega)
 have N:=vv fun w=>q3k q w (by omega) (by omega)
 have I:qh (- -q=q):=vv (by omega);have t:qh (((a:Int)*((p2 (-q):Nat):Int))=((a*p2 (-q):Nat):Int)/\(((rnd neg mode (a*p2 (-q)) (b*p2 q):Nat):Int)*((p2 q:Nat):Int))=((rnd neg mode (a*p2 (-q)) (b*p2 q)*p2 q:Nat):Int)/\1*p2 (-q)=p2 (-q)):=vv ⟨by rw[k0a],by rw[k0a],k0N _⟩;clear hx hst sa sb J K hA hB L;go_enter func163,ntmps163;go_wp2_with fail;obtain⟨f,h⟩:=q0y w;obtain⟨w0,u⟩:=yx (w.alloc q28);rw[<- u] at f h ⊢;have O:=vv f;have P:=vv h;clear f h u;refine(M.o _).mono ?_;rintro e w1 ⟨g1,rfl,a6,v,n⟩;have Q:=vv v;have R:=vv (O.o.below n);have j:=vn P n;clear v n;go_wp2_with fail;refine(B.MulR w.heap.size g g1 _ _ _ _ _ R.o.sh (HX.o.below j.o) Q.o (m.o.fs (Fs.of_nil j.o)) (by exact d.o.1) d.o.2.1 (by exact d.o.2.2.2.1) (by rw[I.o];exact d.o.2.2.1)).mono ?_;rintro e w2 c;rw[I.o,t.o.1] at c;have x:=vv (c.below j.o j.o.size lr);obtain⟨rfl,y,-⟩:=c;have S:=vv y;clear y;go_wp2_with fail;refine(q54 w.heap.size (a*p2 (-q)) (b*p2 q) neg mode _ S.o d.o.2.2.2.2.1 d.o.2.2.2.2.2.1 (m.o.fs (Fs.of_nil x.o)) hm).mono ?_;rintro e i ⟨g3,rfl,a7,p,z⟩;have T:=vv p;have C:=vn x z;have a3:=p.lt;have a4:=C.o.size;clear p z;go_wp2_with fail;obtain⟨f,h,l⟩:=q6U i;obtain⟨w4,D⟩:=yx ((i.alloc q28).alloc q28);rw[<- D] at f h l ⊢;have U:=vv f;have V:=vv h;have W:=vv (T.o.below l);have E:=vn C l;clear f h l D;refine(B.SetInt (i.heap.size+1) g3 _ _ V.o.sh W.o).mono ?_;rintro e w5 c;have X:=vv (U.o.fs1 c.2.2 (by omega));have Y:=vv (c.below E.o E.o.size (by omega));obtain⟨rfl,F,-⟩:=c;have r:=vv F;clear F;go_wp2_with fail;refine(N.o _).mono ?_;rintro e w6 ⟨g6,rfl,a8,G,k⟩;have Z:=vv G;have r:=vv (r.o.below k);have a0:=vv (X.o.below k);have s:=vn Y k;clear G k;go_wp2_with fail;refine(B.MulR i.heap.size (i.heap.size+1) g6 _ _ _ _ _ a0.o.sh r.o Z.o (m.o.fs (Fs.of_nil s.o)) (by exact d.o.2.2.2.2.2.2) (by unfold Sz;decide) (by exact d.o.2.2.1) d.o.2.2.2.1).mono ?_;rintro e w7 c;rw[t.o.2.1,t.o.2.2] at c;have a1:=vv (c.below s.o s.o.size (by omega));obtain⟨rfl,H,-⟩:=c;have a2:=vv H;clear H;go_wp2;go_ret;exact⟨_,rfl,by omega,a2.o,a1.o⟩
theorem qbf(E:Nat)(F:Int)(w:qi)(h1:2<=E)(h2:E<=11):ql qc 166 #[fm E F] w (q1z ((p2 (1-q0d E):Nat):Int) (p2 (q0d E-1)) w):=by
 have m:=q1c h1;have n:=q2l h2;have i:=vv fun w=>q3k (1-q0d E) w (by omega) (by omega)
 have j:qh (-(1-q0d E)=q0d E-1):=vv (by omega);have k:=vv fun w=>qd1 E F w h1 h2
 clear h1 h2;go_enter func166,ntmps166;go_wp2_with fail;refine(k.o _).mono ?_;rintro e l ⟨rfl,a⟩;have b:qh (qd w.heap.size w l):=vv (((qb _ w).alloc lr _).trans (a.mono (by simp)));clear a;go_wp2_with fail;refine(i.o _).mono ?_;rintro e p ⟨g,rfl,q,d,c⟩;have r:=b.o.size;have f:=vv d;have h:=vn b c;rw[j.o] at f;clear d c;go_wp2;go_ret;exact⟨_,rfl,by omega,f.o,h.o⟩
theorem qbC(E F:Nat)(neg:Bool)(mode:Nat)(w:qi)(h1:2<=E)(h2:E<=11)(h3:1<=F)(h4:F<=52)(hm:mode<=4):ql qc 168 #[fm E F,.bool neg,.int .u8 (mode:Int)] w fun e w'=>e=.returned (.int .u64 ((if q19 neg mode then q2i E F-1 else q2i E F:Nat):Int))/\qd w.heap.size w w':=by
 have c:qh (IntKind.u64.wrap (IntKind.u64.wrap (2^(E+F))-IntKind.u64.wrap (2^F))=((q2i E F:Nat):Int)/\IntKind.u64.wrap (((q2i E F:Nat):Int)-1)=((q2i E F-1:Nat):Int)):=by
  have h:2^(F+1)<=2^(E+F):=k05 (by omega) (by omega);have i:2^(E+F)<=2^63:=k05 (by omega) (by omega);have j:=k0m F;rw[k0f] at h;refine vv ⟨?_,?_⟩
  ·rw[q6Q (by omega),q6Q (by omega),qn];unfold q2i;omega
  ·rw[qn];unfold q2i;omega
 rcases(by omega:mode=0\/mode=1\/mode=2\/mode=3\/mode=4) with a|a|a|a|a<;>cases neg
 ·have b:qh (q19 qa mode=qa):=vv (by rw[a];rfl);have d:((mode:Int)==2)=qa:=by rw[a];rfl
  have f:((mode:Int)==3)=qa:=by rw[a];rfl
  have g:((mode:Int)==4)=qa:=by rw[a];rfl
  rw[b.o,if_neg (by decide)];clear b a hm h1;go_enter func168,ntmps168;go_wp2;go_ret;exact⟨q0o (by rw[c.o.1]),(qb _ _).alloc lr _⟩
 ·have b:qh (q19 qe mode=qa):=vv (by rw[a];rfl);have d:((mode:Int)==2)=qa:=by rw[a];rfl
  have f:((mode:Int)==3)=qa:=by rw[a];rfl
  have g:((mode:Int)==4)=qa:=by rw[a];rfl
  rw[b.o,if_neg (by decide)];clear b a hm h1;go_enter func168,ntmps168;go_wp2;go_ret;exact⟨q0o (by rw[c.o.1]),(qb _ _).alloc lr _⟩
 ·have b:qh (q19 qa mode=qa):=vv (by rw[a];rfl);have d:((mode:Int)==2)=qa:=by rw[a];rfl
  have f:((mode:Int)==3)=qa:=by rw[a];rfl
  have g:((mode:Int)==4)=qa:=by rw[a];rfl
  rw[b.o,if_neg (by decide)];clear b a hm h1;go_enter func168,ntmps168;go_wp2;go_ret;exact⟨q0o (by rw[c.o.1]),(qb _ _).alloc lr _⟩
 ·have b:qh (q19 qe mode=qa):=vv (by rw[a];rfl);have d:((mode:Int)==2)=qa:=by rw[a];rfl
  have f:((mode:Int)==3)=qa:=by rw[a];rfl
  have g:((mode:Int)==4)=qa:=by rw[a];rfl
  rw[b.o,if_neg (by decide)];clear b a hm h1;go_enter func168,ntmps168;go_wp2;go_ret;exact⟨q0o (by rw[c.o.1]),(qb _ _).alloc lr _⟩
 ·have b:qh (q19 qa mode=qe):=vv (by rw[a];rfl);have d:((mode:Int)==2)=qe:=by rw[a];rfl
  have f:((mode:Int)==3)=qa:=by rw[a];rfl
  have g:((mode:Int)==4)=qa:=by rw[a];rfl
  rw[b.o,if_pos rfl];clear b a hm h1;go_enter func168,ntmps168;go_wp2;go_ret;exact⟨q0o (by rw[c.o.1,c.o.2]),(qb _ _).alloc lr _⟩
 ·have b:qh (q19 qe mode=qe):=vv (by rw[a];rfl);have d:((mode:Int)==2)=qe:=by rw[a];rfl
  have f:((mode:Int)==3)=qa:=by rw[a];rfl
  have g:((mode:Int)==4)=qa:=by rw[a];rfl
  rw[b.o,if_pos rfl];clear b a hm h1;go_enter func168,ntmps168;go_wp2;go_ret;exact⟨q0o (by rw[c.o.1,c.o.2]),(qb _ _).alloc lr _⟩
 ·have b:qh (q19 qa mode=qa):=vv (by rw[a];rfl);have d:((mode:Int)==2)=qa:=by rw[a];rfl
  have f:((mode:Int)==3)=qe:=by rw[a];rfl
  have g:((mode:Int)==4)=qa:=by rw[a];rfl
  rw[b.o,if_neg (by decide)];clear b a hm h1;go_enter func168,ntmps168;go_wp2;go_ret;exact⟨q0o (by rw[c.o.1]),(qb _ _).alloc lr _⟩
 ·have b:qh (q19 qe mode=qe):=vv (by rw[a];rfl);have d:((mode:Int)==2)=qa:=by rw[a];rfl
  have f:((mode:Int)==3)=qe:=by rw[a];rfl
  have g:((mode:Int)==4)=qa:=by rw[a];rfl
  rw[b.o,if_pos rfl];clear b a hm h1;go_enter func168,ntmps168;go_wp2;go_ret;exact⟨q0o (by rw[c.o.1,c.o.2]),(qb _ _).alloc lr _⟩
 ·have b:qh (q19 qa mode=qe):=vv (by rw[a];rfl);have d:((mode:Int)==2)=qa:=by rw[a];rfl
  have f:((mode:Int)==3)=qa:=by rw[a];rfl
  have g:((mode:Int)==4)=qe:=by rw[a];rfl
  rw[b.o,if_pos rfl];clear b a hm h1;go_enter func168,ntmps168;go_wp2;go_ret;exact⟨q0o (by rw[c.o.1,c.o.2]),(qb _ _).alloc lr _⟩
 ·have b:qh (q19 qe mode=qa):=vv (by rw[a];rfl);have d:((mode:Int)==2)=qa:=by rw[a];rfl
  have f:((mode:Int)==3)=qa:=by rw[a];rfl
  have g:((mode:Int)==4)=qe:=by rw[a];rfl
  rw[b.o,if_neg (by decide)];clear b a hm h1;go_enter func168,ntmps168;go_wp2;go_ret;exact⟨q0o (by rw[c.o.1]),(qb _ _).alloc lr _⟩
structure FmAt(w:qi)(g:Nat)(E F:Int):Prop where
 c0:w.cell? ⟨g,0,qg⟩=qj (.int .i64 E)
 c1:w.cell? ⟨g,1,qg⟩=qj (.int .i64 F)
 lt:g<w.heap.size
theorem FmAt.made(w:qi)(E F:Int)(t:TypeId):FmAt (w.alloc (.cells #[.int .i64 E,.int .i64 F] t)) w.heap.size E F:=⟨by simp only[World.cell?];rw[qm];rfl,by simp only[World.cell?];rw[qm];rfl,by simp⟩
theorem FmAt.below{E F:Int}(h:FmAt w g E F)(hb:qd w.heap.size w w'):FmAt w' g E F:=⟨(hb.cell (p:=⟨g,0,qg⟩) h.lt).trans h.c0,(hb.cell (p:=⟨g,1,qg⟩) h.lt).trans h.c1,k01 h.lt hb.size⟩
theorem qbN(h:F<=52):wrap64 (wrap64 (2^(F+1))-1)=((2^(F+1)-1:Nat):Int):=by
 have a:=q72 (k:=F+1) (by omega);have b:=k0m (F+1);have c:((2^(F+1):Nat):Int)=(2:Int)^(F+1):=by rw[k0v];rfl
 unfold wrap64;omega
theorem q7s(E F:Nat)(w:qi)(h1:2<=E)(h2:E<=11)(h3:1<=F)(h4:F<=52)(hst:Std w):ql qc 167 #[fm E F] w (q1z (((2^(F+1)-1)*p2 (q0d E-F):Nat):Int) (p2 (F-q0d E)) w):=by
 have a5:=q1c h1;have a6:=q2l h2;have HW:=vv (qbN h4);have P:qh (IntKind.i64.wrap (q0d E-(F:Int))=q0d E-F):=vv (qk _ (by omega));have Q:=vv fun w=>qd1 E F w h1 h2
 have L:=vv fun w=>q3k (q0d E-F) w (by omega) (by omega)
 have a1:2^(F+1)<=2^62:=k05 (by omega) (by omega);have I:qh (-9223372036854775808<=((2^(F+1)-1:Nat):Int)/\((2^(F+1)-1:Nat):Int)<=9223372036854775807):=vv (by omega);have R:qh (Sz (2^(F+1)-1)/\Sz 1/\Sz (p2 (q0d E-F))/\Sz (p2 (-(q0d E-F)))):=vv ⟨Sz.small (by omega),by unfold Sz;decide,(Sm.p2 (by omega)).sz,(Sm.p2 (by omega)).sz⟩;have Y:qh ((((2^(F+1)-1:Nat):Int)*((p2 (q0d E-F):Nat):Int))=(((2^(F+1)-1)*p2 (q0d E-F):Nat):Int)/\1*p2 (-(q0d E-F))=p2 (-(q0d E-F))/\p2 (-(q0d E-F))=p2 (F-q0d E)):=vv ⟨by rw[k0a],k0N _,by congr 1;omega⟩;obtain⟨C,S⟩:=yx (w.alloc (.cells #[.int .i64 (E:Int),.int .i64 (F:Int)] 23));have T:qh (qd w.heap.size w C):=vv (by rw[S];exact(qb _ w).alloc lr _);have k:qh (FmAt C w.heap.size E F):=vv (by rw[S];exact FmAt.made w _ _ _);have a2:=vv (hst.fs (Fs.of_nil T.o));have a3:=vv S;clear a1 S hst h1 h2;go_enter func167,ntmps167;go_wp2_with fail;rw[HW.o,<- a3.o];refine q02 (fun w'=>w'.cell? ⟨w.heap.size,0,qg⟩=qj (.int .i64 (E:Int))/\w'.cell? ⟨w.heap.size,1,qg⟩=qj (.int .i64 (F:Int))) 10
  (.still 2 (.still 4 (.still 6 (.still 7 (.two 0 (.one 1 (.one 3 (.one 5 (.still 8 (.one 9 .done))))) 1 (.two 0 (.one 3 (.one 5 (.still 8 (.one 9 .done)))) 3 (.two 0 (.one 5 (.still 8 (.one 9 .done))) 5 (.still 8 (.two 0 (.one 9 .done) 9 (.one 0 .done))))))))))
  (by kernel_rfl) (by kernel_rfl) (fun _ _ d _ _ h=>by cases d<;>exact h) ⟨k.o.c0,k.o.c1⟩ (fun hS0=>?_)
 iterate 4
  refine q01 (v:=?_) rfl (by rfl) ?_ ?_;rotate_left
  ·intro w U;go_simp;with_reducible rfl
  simp only[Act.put,sa,sb,sc]
 have Z:qd C.heap.size C C.drew:=q07 (qb _ _);obtain⟨wc,a0⟩:=yx (C.drew);rw[<- a0] at Z hS0 ⊢;have b:=vv Z;clear Z a0;refine q13 rfl (by rfl) rfl (by rfl) (fun K hK=>?_) (fun K hK=>?_)
 focus
  go_simp;obtain⟨p,a⟩:=q0y wc;obtain⟨n,t⟩:=yx (wc.heap.size);have J:C.heap.size<=n:=by have:=b.o.size;omega
  have u:∀g,g<wc.heap.size->g≠n:=fun g h=>by omega
  have x:=vv u;obtain⟨wn,q⟩:=yx (wc.alloc q28);rw[<- q] at p a ⊢;rw[<- t] at p ⊢
  try have y:qh (m≠n):=vv (x.o m i.o.lt)
  try have y:qh (m≠n):=vv (x.o m j.o.lt)
  clear u q t
  try have f:=vv (f.o.below a)
  try have i:=vv (i.o.below a)
  try have j:=vv (j.o.below a)
  try have l:=vv (l.o.below a)
  have c:=b.o.trans (a.mono b.o.size);have b:=vv c;clear a c;obtain⟨wc,rfl⟩:=yx wn;have f:=vv p;clear p;go_wp2_with fail;refine hK.out _ _ ⟨(k.o.below b.o).c0,(k.o.below b.o).c1⟩ (fun r=>?_);clear hK;refine q04 rfl (by rfl) (fun K hK=>?_);go_simp;obtain⟨D,a⟩:=q0y wc;obtain⟨m,M⟩:=yx (wc.heap.size);have V:C.heap.size<=m:=by have:=b.o.size;omega
  have N:∀g,g<wc.heap.size->g≠m:=fun g h=>by omega
  have X:=vv N;obtain⟨wn,q⟩:=yx (wc.alloc q28);rw[<- q] at D a ⊢;rw[<- M] at D ⊢
  try have y:qh (m≠n):=vv (Ne.symm (X.o n f.o.lt))
  clear N q M
  try have f:=vv (f.o.below a)
  try have i:=vv (i.o.below a)
  try have j:=vv (j.o.below a)
  try have l:=vv (l.o.below a)
  have c:=b.o.trans (a.mono b.o.size);have b:=vv c;clear a c;obtain⟨wc,rfl⟩:=yx wn;have i:=vv D;clear D;go_wp2_with fail;refine hK.out _ _ ⟨(k.o.below b.o).c0,(k.o.below b.o).c1⟩ (fun r=>?_);clear hK;refine q04 rfl (by rfl) (fun K hK=>?_);go_simp;refine(B.SetInt64R m _ _ i.o.sh I.o.1 I.o.2).mono ?_;rintro e wn s
  try have f:=vv (f.o.fs1 s.2.2 y.o)
  have c:=s.below b.o b.o.size V;have b:=vv c;obtain⟨rfl,G,-⟩:=s;have j:=vv G;clear G c i;obtain⟨wc,rfl⟩:=yx wn;go_wp2_with fail;refine hK.out _ _ ⟨(k.o.below b.o).c0,(k.o.below b.o).c1⟩ (fun r=>?_);clear hK;refine q04 rfl (by rfl) (fun K hK=>?_);go_simp;refine(Q.o _).mono ?_;rintro e wn ⟨rfl,a⟩
  try have f:=vv (f.o.below a)
  try have i:=vv (i.o.below a)
  try have j:=vv (j.o.below a)
  try have l:=vv (l.o.below a)
  have c:=b.o.trans (a.mono b.o.size);have b:=vv c;clear a c;obtain⟨wc,rfl⟩:=yx wn;go_wp2_with fail;refine hK.out _ _ ⟨(k.o.below b.o).c0,(k.o.below b.o).c1⟩ (fun r=>?_);clear hK;have H:=P.o
  iterate 1
   refine q01 (v:=?_) rfl (by rfl) ?_ ?_;rotate_left
   ·intro w U;go_simp;with_reducible rfl
   simp only[Act.put,sa,sb,sc]
  clear H;refine q04 rfl (by rfl) (fun K hK=>?_);go_simp;refine(L.o _).mono ?_;rintro e wn ⟨O,rfl,W,z,a⟩
  try have f:=vv (f.o.below a)
  try have i:=vv (i.o.below a)
  try have j:=vv (j.o.below a)
  try have l:=vv (l.o.below a)
  have c:=b.o.trans (a.mono b.o.size);have b:=vv c;clear a c;obtain⟨wc,rfl⟩:=yx wn;have l:=vv z;clear z;go_wp2_with fail;refine hK.out _ _ ⟨(k.o.below b.o).c0,(k.o.below b.o).c1⟩ (fun r=>?_);clear hK
 rotate_left 1
 focus
  go_simp;obtain⟨D,a⟩:=q0y wc;obtain⟨m,M⟩:=yx (wc.heap.size);have V:C.heap.size<=m:=by have:=b.o.size;omega
  have N:∀g,g<wc.heap.size->g≠m:=fun g h=>by omega
  have X:=vv N;obtain⟨wn,q⟩:=yx (wc.alloc q28);rw[<- q] at D a ⊢;rw[<- M] at D ⊢
  try have y:qh (m≠n):=vv (Ne.symm (X.o n f.o.lt))
  clear N q M
  try have f:=vv (f.o.below a)
  try have i:=vv (i.o.below a)
  try have j:=vv (j.o.below a)
  try have l:=vv (l.o.below a)
  have c:=b.o.trans (a.mono b.o.size);have b:=vv c;clear a c;obtain⟨wc,rfl⟩:=yx wn;have i:=vv D;clear D;go_wp2_with fail;refine hK.out _ _ ⟨(k.o.below b.o).c0,(k.o.below b.o).c1⟩ (fun r=>?_);clear hK;refine q13 rfl (by rfl) rfl (by rfl) (fun K hK=>?_) (fun K hK=>?_)
  focus
   go_simp;obtain⟨p,a⟩:=q0y wc;obtain⟨n,t⟩:=yx (wc.heap.size);have J:C.heap.size<=n:=by have:=b.o.size;omega
   have u:∀g,g<wc.heap.size->g≠n:=fun g h=>by omega
   have x:=vv u;obtain⟨wn,q⟩:=yx (wc.alloc q28);rw[<- q] at p a ⊢;rw[<- t] at p ⊢
   try have y:qh (m≠n):=vv (x.o m i.o.lt)
   try have y:qh (m≠n):=vv (x.o m j.o.lt)
   clear u q t
   try have f:=vv (f.o.below a)
   try have i:=vv (i.o.below a)
   try have j:=vv (j.o.below a)
   try have l:=vv (l.o.below a)
   have c:=b.o.trans (a.mono b.o.size);have b:=vv c;clear a c;obtain⟨wc,rfl⟩:=yx wn;have f:=vv p;clear p;go_wp2_with fail;refine hK.out _ _ ⟨(k.o.below b.o).c0,(k.o.below b.o).c1⟩ (fun r=>?_);clear hK;refine q04 rfl (by rfl) (fun K hK=>?_);go_simp;refine(B.SetInt64R m _ _ i.o.sh I.o.1 I.o.2).mono ?_;rintro e wn s
   try have f:=vv (f.o.fs1 s.2.2 y.o)
   have c:=s.below b.o b.o.size V;have b:=vv c;obtain⟨rfl,G,-⟩:=s;have j:=vv G;clear G c i;obtain⟨wc,rfl⟩:=yx wn;go_wp2_with fail;refine hK.out _ _ ⟨(k.o.below b.o).c0,(k.o.below b.o).c1⟩ (fun r=>?_);clear hK;refine q04 rfl (by rfl) (fun K hK=>?_);go_simp;refine(Q.o _).mono ?_;rintro e wn ⟨rfl,a⟩
   try have f:=vv (f.o.below a)
   try have i:=vv (i.o.below a)
   try have j:=vv (j.o.below a)
   try have l:=vv (l.o.below a)
   have c:=b.o.trans (a.mono b.o.size);have b:=vv c;clear a c;obtain⟨wc,rfl⟩:=yx wn;go_wp2_with fail;refine hK.out _ _ ⟨(k.o.below b.o).c0,(k.o.below b.o).c1⟩ (fun r=>?_);clear hK;have H:=P.o
   iterate 1
    refine q01 (v:=?_) rfl (by rfl) ?_ ?_;rotate_left
    ·intro w U;go_simp;with_reducible rfl
    simp only[Act.put,sa,sb,sc]
   clear H;refine q04 rfl (by rfl) (fun K hK=>?_);go_simp;refine(L.o _).mono ?_;rintro e wn ⟨O,rfl,W,z,a⟩
   try have f:=vv (f.o.below a)
   try have i:=vv (i.o.below a)
   try have j:=vv (j.o.below a)
   try have l:=vv (l.o.below a)
   have c:=b.o.trans (a.mono b.o.size);have b:=vv c;clear a c;obtain⟨wc,rfl⟩:=yx wn;have l:=vv z;clear z;go_wp2_with fail;refine hK.out _ _ ⟨(k.o.below b.o).c0,(k.o.below b.o).c1⟩ (fun r=>?_);clear hK
  rotate_left 1
  focus
   go_simp;refine(B.SetInt64R m _ _ i.o.sh I.o.1 I.o.2).mono ?_;rintro e wn s
   try have f:=vv (f.o.fs1 s.2.2 y.o)
   have c:=s.below b.o b.o.size V;have b:=vv c;obtain⟨rfl,G,-⟩:=s;have j:=vv G;clear G c i;obtain⟨wc,rfl⟩:=yx wn;go_wp2_with fail;refine hK.out _ _ ⟨(k.o.below b.o).c0,(k.o.below b.o).c1⟩ (fun r=>?_);clear hK;refine q13 rfl (by rfl) rfl (by rfl) (fun K hK=>?_) (fun K hK=>?_)
   focus
    go_simp;obtain⟨p,a⟩:=q0y wc;obtain⟨n,t⟩:=yx (wc.heap.size);have J:C.heap.size<=n:=by have:=b.o.size;omega
    have u:∀g,g<wc.heap.size->g≠n:=fun g h=>by omega
    have x:=vv u;obtain⟨wn,q⟩:=yx (wc.alloc q28);rw[<- q] at p a ⊢;rw[<- t] at p ⊢
    try have y:qh (m≠n):=vv (x.o m i.o.lt)
    try have y:qh (m≠n):=vv (x.o m j.o.lt)
    clear u q t
    try have f:=vv (f.o.below a)
    try have i:=vv (i.o.below a)
    try have j:=vv (j.o.below a)
    try have l:=vv (l.o.below a)
    have c:=b.o.trans (a.mono b.o.size);have b:=vv c;clear a c;obtain⟨wc,rfl⟩:=yx wn;have f:=vv p;clear p;go_wp2_with fail;refine hK.out _ _ ⟨(k.o.below b.o).c0,(k.o.below b.o).c1⟩ (fun r=>?_);clear hK;refine q04 rfl (by rfl) (fun K hK=>?_);go_simp;refine(Q.o _).mono ?_;rintro e wn ⟨rfl,a⟩
    try have f:=vv (f.o.below a)
    try have i:=vv (i.o.below a)
    try have j:=vv (j.o.below a)
    try have l:=vv (l.o.below a)
    have c:=b.o.trans (a.mono b.o.size);have b:=vv c;clear a c;obtain⟨wc,rfl⟩:=yx wn;go_wp2_with fail;refine hK.out _ _ ⟨(k.o.below b.o).c0,(k.o.below b.o).c1⟩ (fun r=>?_);clear hK;have H:=P.o
    iterate 1
     refine q01 (v:=?_) rfl (by rfl) ?_ ?_;rotate_left
     ·intro w U;go_simp;with_reducible rfl
     simp only[Act.put,sa,sb,sc]
    clear H;refine q04 rfl (by rfl) (fun K hK=>?_);go_simp;refine(L.o _).mono ?_;rintro e wn ⟨O,rfl,W,z,a⟩
    try have f:=vv (f.o.below a)
    try have i:=vv (i.o.below a)
    try have j:=vv (j.o.below a)
    try have l:=vv (l.o.below a)
    have c:=b.o.trans (a.mono b.o.size);have b:=vv c;clear a c;obtain⟨wc,rfl⟩:=yx wn;have l:=vv z;clear z;go_wp2_with fail;refine hK.out _ _ ⟨(k.o.below b.o).c0,(k.o.below b.o).c1⟩ (fun r=>?_);clear hK
   rotate_left 1
   focus
    go_simp;refine(Q.o _).mono ?_;rintro e wn ⟨rfl,a⟩
    try have f:=vv (f.o.below a)
    try have i:=vv (i.o.below a)
    try have j:=vv (j.o.below a)
    try have l:=vv (l.o.below a)
    have c:=b.o.trans (a.mono b.o.size);have b:=vv c;clear a c;obtain⟨wc,rfl⟩:=yx wn;go_wp2_with fail;refine hK.out _ _ ⟨(k.o.below b.o).c0,(k.o.below b.o).c1⟩ (fun r=>?_);clear hK;have H:=P.o
    iterate 1
     refine q01 (v:=?_) rfl (by rfl) ?_ ?_;rotate_left
     ·intro w U;go_simp;with_reducible rfl
     simp only[Act.put,sa,sb,sc]
    clear H;refine q13 rfl (by rfl) rfl (by rfl) (fun K hK=>?_) (fun K hK=>?_)
    focus
     go_simp;obtain⟨p,a⟩:=q0y wc;obtain⟨n,t⟩:=yx (wc.heap.size);have J:C.heap.size<=n:=by have:=b.o.size;omega
     have u:∀g,g<wc.heap.size->g≠n:=fun g h=>by omega
     have x:=vv u;obtain⟨wn,q⟩:=yx (wc.alloc q28);rw[<- q] at p a ⊢;rw[<- t] at p ⊢
     try have y:qh (m≠n):=vv (x.o m i.o.lt)
     try have y:qh (m≠n):=vv (x.o m j.o.lt)
     clear u q t
     try have f:=vv (f.o.below a)
     try have i:=vv (i.o.below a)
     try have j:=vv (j.o.below a)
     try have l:=vv (l.o.below a)
     have c:=b.o.trans (a.mono b.o.size);have b:=vv c;clear a c;obtain⟨wc,rfl⟩:=yx wn;have f:=vv p;clear p;go_wp2_with fail;refine hK.out _ _ ⟨(k.o.below b.o).c0,(k.o.below b.o).c1⟩ (fun r=>?_);clear hK;refine q04 rfl (by rfl) (fun K hK=>?_);go_simp;refine(L.o _).mono ?_;rintro e wn ⟨O,rfl,W,z,a⟩
     try have f:=vv (f.o.below a)
     try have i:=vv (i.o.below a)
     try have j:=vv (j.o.below a)
     try have l:=vv (l.o.below a)
     have c:=b.o.trans (a.mono b.o.size);have b:=vv c;clear a c;obtain⟨wc,rfl⟩:=yx wn;have l:=vv z;clear z;go_wp2_with fail;refine hK.out _ _ ⟨(k.o.below b.o).c0,(k.o.below b.o).c1⟩ (fun r=>?_);clear hK
    rotate_left 1
    focus
     go_simp;refine(L.o _).mono ?_;rintro e wn ⟨O,rfl,W,z,a⟩
     try have f:=vv (f.o.below a)
     try have i:=vv (i.o.below a)
     try have j:=vv (j.o.below a)
     try have l:=vv (l.o.below a)
     have c:=b.o.trans (a.mono b.o.size);have b:=vv c;clear a c;obtain⟨wc,rfl⟩:=yx wn;have l:=vv z;clear z;go_wp2_with fail;refine hK.out _ _ ⟨(k.o.below b.o).c0,(k.o.below b.o).c1⟩ (fun r=>?_);clear hK;refine q04 rfl (by rfl) (fun K hK=>?_);go_simp;obtain⟨p,a⟩:=q0y wc;obtain⟨n,t⟩:=yx (wc.heap.size);have J:C.heap.size<=n:=by have:=b.o.size;omega
     have u:∀g,g<wc.heap.size->g≠n:=fun g h=>by omega
     have x:=vv u;obtain⟨wn,q⟩:=yx (wc.alloc q28);rw[<- q] at p a ⊢;rw[<- t] at p ⊢
     try have y:qh (m≠n):=vv (x.o m i.o.lt)
     try have y:qh (m≠n):=vv (x.o m j.o.lt)
     clear u q t
     try have f:=vv (f.o.below a)
     try have i:=vv (i.o.below a)
     try have j:=vv (j.o.below a)
     try have l:=vv (l.o.below a)
     have c:=b.o.trans (a.mono b.o.size);have b:=vv c;clear a c;obtain⟨wc,rfl⟩:=yx wn;have f:=vv p;clear p;go_wp2_with fail;refine hK.out _ _ ⟨(k.o.below b.o).c0,(k.o.below b.o).c1⟩ (fun r=>?_);clear hK
 all_goals
  refine q0a ?_;go_wp2_with fail;refine(B.MulR n m O _ _ _ _ _ f.o.sh j.o l.o (a2.o.fs (Fs.of_nil b.o)) (by exact R.o.1) R.o.2.1 (by exact R.o.2.2.1) R.o.2.2.2).mono ?_;rintro e wn s;rw[Y.o.1,Y.o.2.1,Y.o.2.2] at s;have a4:=vv (T.o.trans ((s.below b.o b.o.size J).mono T.o.size));obtain⟨rfl,hR,-⟩:=s;have HR:=vv hR;clear hR;go_wp2;go_ret;exact⟨_,rfl,k06 T.o.size J,HR.o,a4.o⟩
theorem FmAt.like{E F:Int}(h:FmAt w g E F)(e:w'.heap=w.heap):FmAt w' g E F:=⟨by rw[<- h.c0];simp only[World.cell?,e],by rw[<- h.c1];simp only[World.cell?,e],by rw[e];exact h.lt⟩
theorem q8f(gx m E F:Nat)(w:qi)(h1:2<=E)(h2:E<=11)(h3:1<=F)(h4:F<=52)(hx:RatAt w gx ((m*p2 (1-q0d E-F):Nat):Int) (p2 (F-(1-q0d E))))(hm:m<2^F)(hst:Std w):ql qc 169 #[fm E F,.pointer (qj ⟨gx,0,qg⟩)] w fun e w'=>e=.returned (.int .u64 (m:Int))/\qd w.heap.size w w':=by
 have b2:=q1c h1;have b3:=q2l h2;have N:=vv fun w=>qd1 E F w h1 h2
 have a4:=vv fun w=>qbf E F w h1 h2
 have G:=vv fun w=>q3k (q0d E-1+F) w (by omega) (by omega)
 have x:qh (IntKind.i64.wrap (q0d E-1)=q0d E-1/\IntKind.i64.wrap (q0d E-1+(F:Int))=q0d E-1+F):=vv ⟨qk _ (by omega),qk _ (by omega)⟩;have a0:2^F<=2^52:=k05 (by omega) h4;have Y:m*p2 (1-q0d E-F)=m:=by rw[q0n (n:=1-q0d E-F) (by omega),k0H]
 have y:qh (Sz (m*p2 (1-q0d E-F))/\Sz (p2 (F-(1-q0d E)))):=vv ⟨by rw[Y];exact Sz.small (by omega),(Sm.p2 (by omega)).sz⟩;have O:qh (Sz (p2 (q0d E-1+F))/\Sz (p2 (-(q0d E-1+F)))):=vv ⟨(Sm.p2 (by omega)).sz,(Sm.p2 (by omega)).sz⟩;have P:qh (Sz (p2 (1-q0d E))/\Sz (p2 (q0d E-1))):=vv ⟨(Sm.p2 (by omega)).sz,(Sm.p2 (by omega)).sz⟩;have HC:qh ((((m*p2 (1-q0d E-F):Nat):Int)*((p2 (q0d E-1+F):Nat):Int))=((m*p2 (1-q0d E-F)*p2 (q0d E-1+F):Nat):Int)):=vv (by rw[k0a _ (p2 (q0d E-1+F))]);have a5:=vv (q8B (E:=E) (F:=F) (m:=m) h1);have a1:qh (m<18446744073709551616):=vv (by omega);have Q:q15 (m*p2 (1-q0d E-F)*p2 (q0d E-1)) (p2 (1-q0d E)*p2 (F-(1-q0d E))) = -1:=by have h:=(q5W (F:=F) (m:=m) (l:=1-q0d E) h1 (Int.le_refl _) (fun h=>absurd h (Int.lt_irrefl _))).2 ⟨rfl,hm⟩;have:=q6H (m*p2 (1-q0d E-F)*p2 (q0d E-1)) (p2 (1-q0d E)*p2 (F-(1-q0d E)));omega
 have a2:=vv Q;obtain⟨u,z⟩:=yx (w.alloc (.cells #[.int .i64 (E:Int),.int .i64 (F:Int)] 23));have C:qh (qd w.heap.size w u):=vv (by rw[z];exact(qb _ w).alloc lr _);have f:qh (FmAt u w.heap.size E F):=vv (by rw[z];exact FmAt.made w _ _ _);have a6:=vv (hst.fs (Fs.of_nil C.o));have Z:=vv (hx.below C.o);have a7:=vv z;clear z hst hx h1 h2 hm a0 Y Q;go_enter func169,ntmps169;have a3:=f.o.lt;have f0:=f.o.c0;have f1:=f.o.c1;go_wp2_with fail;rw[<- a7.o];go_wp2_with fail;refine(a4.o _).mono ?_;rintro e w1 ⟨g1,rfl,b4,R,S⟩;have a8:=vv R;have T:=vv S;clear R S;go_wp2_with fail;refine(B.CmpR gx g1 _ _ _ _ _ (Z.o.below T.o) a8.o y.o.1 y.o.2 P.o.1 P.o.2).mono ?_;rintro e w2 ⟨rfl,U⟩;rw[a2.o];have a:=vn T U;clear U f0 f1 a3;go_wp2_with fail;refine q02 (fun w'=>w'.cell? ⟨w.heap.size,0,qg⟩=qj (.int .i64 (E:Int))/\w'.cell? ⟨w.heap.size,1,qg⟩=qj (.int .i64 (F:Int))) 9
  (.still 1 (.still 2 (.still 5 (.still 6 (.two 0 (.one 3 (.still 4 (.still 7 (.one 8 .done)))) 3 (.still 4 (.still 7 (.two 0 (.one 8 .done) 8 (.one 0 .done)))))))))
  (by kernel_rfl) (by kernel_rfl) (fun _ _ d _ _ h=>by cases d<;>exact h) ⟨(f.o.below a.o).c0,(f.o.below a.o).c1⟩ (fun hS0=>?_)
 iterate 4
  refine q01 (v:=?_) rfl (by rfl) ?_ ?_;rotate_left
  ·intro w D;go_simp;with_reducible rfl
  simp only[Act.put,sa,sb,sc]
 have J:=q07 a.o;obtain⟨wc,V⟩:=yx (w2.drew);rw[<- V] at J hS0 ⊢;have a:=vv J;clear J V;refine q13 rfl (by rfl) rfl (by rfl) (fun K hK=>?_) (fun K hK=>?_)
 focus
  go_simp;obtain⟨j,b⟩:=q0y wc;obtain⟨t,k⟩:=yx (wc.heap.size);have H:u.heap.size<=t:=by have:=a.o.size;omega
  obtain⟨wn,p⟩:=yx (wc.alloc q28);rw[<- p] at j b ⊢;rw[<- k] at j ⊢;clear p k
  try have g:=vv (g.o.below b)
  try have i:=vv (i.o.below b)
  have c:=a.o.trans (b.mono a.o.size);have a:=vv c;clear b c;obtain⟨wc,rfl⟩:=yx wn;have g:=vv j;clear j;go_wp2_with fail;refine hK.out _ _ ⟨(f.o.below a.o).c0,(f.o.below a.o).c1⟩ (fun r=>?_);clear hK;refine q04 rfl (by rfl) (fun K hK=>?_);go_simp;refine(N.o _).mono ?_;rintro e wn ⟨rfl,b⟩
  try have g:=vv (g.o.below b)
  try have i:=vv (i.o.below b)
  have c:=a.o.trans (b.mono a.o.size);have a:=vv c;clear b c;obtain⟨wc,rfl⟩:=yx wn;go_wp2_with fail;refine hK.out _ _ ⟨(f.o.below a.o).c0,(f.o.below a.o).c1⟩ (fun r=>?_);clear hK;have s:=x.o.1
  iterate 1
   refine q01 (v:=?_) rfl (by rfl) ?_ ?_;rotate_left
   ·intro w D;go_simp;with_reducible rfl
   simp only[Act.put,sa,sb,sc]
  clear s;have s:=x.o.2
  iterate 1
   refine q01 (v:=?_) rfl (by rfl) ?_ ?_;rotate_left
   ·intro w D;go_simp;with_reducible rfl
   simp only[Act.put,sa,sb,sc]
  clear s;refine q04 rfl (by rfl) (fun K hK=>?_);go_simp;refine(G.o _).mono ?_;rintro e wn ⟨L,rfl,W,q,b⟩
  try have g:=vv (g.o.below b)
  try have i:=vv (i.o.below b)
  have c:=a.o.trans (b.mono a.o.size);have a:=vv c;clear b c;obtain⟨wc,rfl⟩:=yx wn;have i:=vv q;clear q;go_wp2_with fail;refine hK.out _ _ ⟨(f.o.below a.o).c0,(f.o.below a.o).c1⟩ (fun r=>?_);clear hK
 rotate_left 1
 focus
  go_simp;refine(N.o _).mono ?_;rintro e wn ⟨rfl,b⟩
  try have g:=vv (g.o.below b)
  try have i:=vv (i.o.below b)
  have c:=a.o.trans (b.mono a.o.size);have a:=vv c;clear b c;obtain⟨wc,rfl⟩:=yx wn;go_wp2_with fail;refine hK.out _ _ ⟨(f.o.below a.o).c0,(f.o.below a.o).c1⟩ (fun r=>?_);clear hK;have s:=x.o.1
  iterate 1
   refine q01 (v:=?_) rfl (by rfl) ?_ ?_;rotate_left
   ·intro w D;go_simp;with_reducible rfl
   simp only[Act.put,sa,sb,sc]
  clear s;have s:=x.o.2
  iterate 1
   refine q01 (v:=?_) rfl (by rfl) ?_ ?_;rotate_left
   ·intro w D;go_simp;with_reducible rfl
   simp only[Act.put,sa,sb,sc]
  clear s;refine q13 rfl (by rfl) rfl (by rfl) (fun K hK=>?_) (fun K hK=>?_)
  focus
   go_simp;obtain⟨j,b⟩:=q0y wc;obtain⟨t,k⟩:=yx (wc.heap.size);have H:u.heap.size<=t:=by have:=a.o.size;omega
   obtain⟨wn,p⟩:=yx (wc.alloc q28);rw[<- p] at j b ⊢;rw[<- k] at j ⊢;clear p k
   try have g:=vv (g.o.below b)
   try have i:=vv (i.o.below b)
   have c:=a.o.trans (b.mono a.o.size);have a:=vv c;clear b c;obtain⟨wc,rfl⟩:=yx wn;have g:=vv j;clear j;go_wp2_with fail;refine hK.out _ _ ⟨(f.o.below a.o).c0,(f.o.below a.o).c1⟩ (fun r=>?_);clear hK;refine q04 rfl (by rfl) (fun K hK=>?_);go_simp;refine(G.o _).mono ?_;rintro e wn ⟨L,rfl,W,q,b⟩
   try have g:=vv (g.o.below b)
   try have i:=vv (i.o.below b)
   have c:=a.o.trans (b.mono a.o.size);have a:=vv c;clear b c;obtain⟨wc,rfl⟩:=yx wn;have i:=vv q;clear q;go_wp2_with fail;refine hK.out _ _ ⟨(f.o.below a.o).c0,(f.o.below a.o).c1⟩ (fun r=>?_);clear hK
  rotate_left 1
  focus
   go_simp;refine(G.o _).mono ?_;rintro e wn ⟨L,rfl,W,q,b⟩
   try have g:=vv (g.o.below b)
   try have i:=vv (i.o.below b)
   have c:=a.o.trans (b.mono a.o.size);have a:=vv c;clear b c;obtain⟨wc,rfl⟩:=yx wn;have i:=vv q;clear q;go_wp2_with fail;refine hK.out _ _ ⟨(f.o.below a.o).c0,(f.o.below a.o).c1⟩ (fun r=>?_);clear hK;refine q04 rfl (by rfl) (fun K hK=>?_);go_simp;obtain⟨j,b⟩:=q0y wc;obtain⟨t,k⟩:=yx (wc.heap.size);have H:u.heap.size<=t:=by have:=a.o.size;omega
   obtain⟨wn,p⟩:=yx (wc.alloc q28);rw[<- p] at j b ⊢;rw[<- k] at j ⊢;clear p k
   try have g:=vv (g.o.below b)
   try have i:=vv (i.o.below b)
   have c:=a.o.trans (b.mono a.o.size);have a:=vv c;clear b c;obtain⟨wc,rfl⟩:=yx wn;have g:=vv j;clear j;go_wp2_with fail;refine hK.out _ _ ⟨(f.o.below a.o).c0,(f.o.below a.o).c1⟩ (fun r=>?_);clear hK
 all_goals
  refine q0a ?_;go_wp2_with fail;refine(B.MulR t gx L _ _ _ _ _ g.o.sh (Z.o.below a.o) i.o (a6.o.fs (Fs.of_nil a.o)) (by exact y.o.1) y.o.2 (by exact O.o.1) O.o.2).mono ?_;rintro e wn M;rw[HC.o] at M;have a9:=vv (M.below a.o a.o.size H);obtain⟨rfl,hR,-⟩:=M;have HR:=vv hR;clear hR;go_wp2_with fail;refine(B.Num t _ _ _ HR.o).mono ?_;rintro e w5 ⟨g5,rfl,b5,I,X⟩;rw[a5.o] at I;have b0:=vv I;have b1:=vn a9 X;clear I X;go_wp2_with fail;refine(B.Uint64 g5 0 _ _ b0.o (by rw[k0b];exact a1.o)).mono ?_;rintro e w' ⟨rfl,rfl⟩;go_wp2;go_ret;exact⟨by simp,C.o.trans (b1.o.mono C.o.size)⟩
theorem q7r(gx X Y n K R E F:Nat)(e':Int)(w:qi)(h1:2<=E)(h2:E<=11)(h3:1<=F)(h4:F<=52)(hx:RatAt w gx ((X:Nat):Int) Y)(hX:0<X)(sX:Sm X)(sY:Sm Y)
  (hc:¬q15 (X*p2 (q0d E-1)) (p2 (1-q0d E)*Y)<0) (he:q0V X Y=e') (hlp:lp ((X*p2 (F-e'):Nat):Int) (Y*p2 (-(F-e')))=n) (hK:e'+q0d E=K) (hK2:K<=4000) (hn:n<18446744073709551616) (hR:K*2^F+n=R+2^F) (hR2:K*2^F+n<18446744073709551616) (hst:Std w) :
  ql qc 169 #[fm E F,.pointer (qj ⟨gx,0,qg⟩)] w fun e w'=>e=.returned (.int .u64 (R:Int))/\qd w.heap.size w w':=by
 have c9:=q1c h1;have d0:=q2l h2;have a7:=vv fun w=>qd1 E F w h1 h2
 have a8:=vv fun w=>qbf E F w h1 h2
 have d1:-2000<=e':=by omega
 have d2:e'<=4000:=by omega
 have a9:=vv fun w=>q3k (F-e') w (by omega) (by omega)
 have b0:qh (IntKind.i64.wrap (e'+q0d E)=(K:Int)):=vv (by rw[hK];exact qk _ (by omega));have g:qh (Sz X/\Sz Y):=vv ⟨sX.sz,sY.sz⟩;have L:qh (Sm X/\Sm Y):=vv ⟨sX,sY⟩;have M:qh (Sz (p2 (F-e'))/\Sz (p2 (-(F-e')))):=vv ⟨(Sm.p2 (by omega)).sz,(Sm.p2 (by omega)).sz⟩;have N:qh (Sz (p2 (1-q0d E))/\Sz (p2 (q0d E-1))):=vv ⟨(Sm.p2 (by omega)).sz,(Sm.p2 (by omega)).sz⟩;have HC:qh ((X:Int)*((p2 (F-e'):Nat):Int)=((X*p2 (F-e'):Nat):Int)):=vv (by rw[k0a]);have b1:=vv hlp;have a1:=vv hn;have HE:=vv he;have b2:=vv hX;have b3:=vv hc;have a2:qh (IntKind.u64.wrap (IntKind.u64.wrap (IntKind.u64.wrap ((K:Int)*2^F)+(n:Int))-IntKind.u64.wrap (2^F))=(R:Int)):=by
  refine vv ?_;have e1:(K:Int)*2^F=((K*2^F:Nat):Int):=by rw[k0a,k0v];rfl
  rw[e1,q6Q (by omega),qn,qn,qn];clear e1;generalize K*2^F=P at *
  generalize 2^F=T at *
  omega
 obtain⟨w0,i⟩:=yx (w.alloc (.cells #[.int .i64 (E:Int),.int .i64 (F:Int)] 23));have j:qh (qd w.heap.size w w0):=vv (by rw[i];exact(qb _ w).alloc lr _);have b:qh (FmAt w0 w.heap.size E F):=vv (by rw[i];exact FmAt.made w _ _ _);have b4:=vv (hst.fs (Fs.of_nil j.o));have z:=vv (hx.below j.o);have b5:=vv i;clear i hst hx h1 h2 sX sY he hlp hK hn hR hR2 hX;go_enter func169,ntmps169;have a3:=b.o.lt;have p:=b.o.c0;have f:=b.o.c1;clear hc;go_wp2_with fail;rw[<- b5.o];go_wp2_with fail;refine(a8.o _).mono ?_;rintro e w1 ⟨g1,rfl,d3,O,Q⟩;have b6:=vv O;have S:=vv Q;clear O Q;go_wp2_with fail;refine(B.CmpR gx g1 _ _ _ _ _ (z.o.below S.o) b6.o g.o.1 g.o.2 N.o.1 N.o.2).mono ?_;rintro e w2 ⟨rfl,U⟩;obtain⟨t,C⟩:=yx (q15 (X*p2 (q0d E-1)) (p2 (1-q0d E)*Y));have b7:qf (t<0)=qa:=by rw[C];exact k00 (by have:=b3.o;omega)
 rw[<- C];have c:=vn S U;clear U p f a3 C;go_wp2_with fail;refine(log gx X Y _ (z.o.below c.o) b2.o L.o.1 L.o.2).mono ?_;rintro e D ⟨rfl,V⟩;rw[HE.o];have c:=vn c V;have f:=(b.o.below c.o).c1;have c7:=(b.o.below c.o).lt;clear V b7;go_wp2_with fail;obtain⟨G,q⟩:=q0y D;obtain⟨w4,W⟩:=yx (D.alloc q28);rw[<- W] at G q ⊢;have H:=vv G;have Z:=vn c q;have b8:=c.o.size;have b9:=(b.o.below Z.o).c1;clear G q W f;go_wp2_with fail;refine(a9.o _).mono ?_;rintro e w5 ⟨g5,rfl,d4,a5,r⟩;have c2:=vv a5;have H:=vv (H.o.below r);have k:=vn Z r;clear a5 r b9;go_wp2_with fail;refine(B.MulR D.heap.size gx g5 _ _ _ _ _ H.o.sh (z.o.below k.o) c2.o (b4.o.fs (Fs.of_nil k.o)) (by exact g.o.1) g.o.2 (by exact M.o.1) M.o.2).mono ?_;rintro e w6 I;rw[HC.o] at I;have l:=vv (I.below k.o k.o.size b8);obtain⟨rfl,hR,-⟩:=I;have J:=vv hR;have p:=(b.o.below l.o).c0;have f:=(b.o.below l.o).c1;have a6:=vv (b.o.below l.o);have c8:=a6.o.lt;clear hR;go_wp2_with fail;refine q02 (fun w'=>w'.cell? ⟨w.heap.size,0,qg⟩=qj (.int .i64 (E:Int))/\w'.cell? ⟨w.heap.size,1,qg⟩=qj (.int .i64 (F:Int))) 18
  (.still 0 (.still 1 (.still 5 (.still 6 (.still 7 (.still 9 (.still 13 (.still 14 (.still 15 (.still 16 (.one 2 (.still 3 (.still 4 (.still 8 (.one 10 (.one 11 (.still 12 (.still 17 .done)))))))))))))))))) (by kernel_rfl) (by kernel_rfl) (fun _ _ d _ _ h=>by cases d<;>exact h) ⟨p,f⟩ (fun hS0=>?_)
 iterate 10
  refine q01 (v:=?_) rfl (by rfl) ?_ ?_;rotate_left
  ·intro w s;go_simp;with_reducible rfl
  simp only[Act.put,sa,sb,sc]
 refine q04 rfl (by rfl) (fun K hK=>?_);go_simp;refine(a7.o _).mono ?_;rintro e w7 ⟨rfl,a⟩;have a:qd w6.heap.size w6 w7:=⟨a.os,a.tape,a.output,a.size,a.block⟩;have J:=vv (J.o.below a);have u:=vv (a6.o.below a);have c3:=vn l a;clear a p f;go_wp2_with fail;refine hK.out _ _ ⟨u.o.c0,u.o.c1⟩ (fun a0=>?_);clear hK;have c4:=b0.o
 iterate 1
  refine q01 (v:=?_) rfl (by rfl) ?_ ?_;rotate_left
  ·intro w s;go_simp;with_reducible rfl
  simp only[Act.put,sa,sb,sc]
 clear c4
 iterate 2
  refine q01 (v:=?_) rfl (by rfl) ?_ ?_;rotate_left
  ·intro w s;go_simp;with_reducible rfl
  simp only[Act.put,sa,sb,sc]
 refine q04 rfl (by rfl) (fun K hK=>?_);go_simp;refine(B.Num _ _ _ _ J.o).mono ?_;rintro e w8 ⟨g8,rfl,d5,x,y⟩;rw[b1.o] at x;have c5:=vv x;have m:=vv (u.o.below y);have c6:=vn c3 y;clear x y;go_wp2_with fail;refine hK.out _ _ ⟨m.o.c0,m.o.c1⟩ (fun a0=>?_);clear hK;refine q04 rfl (by rfl) (fun K hK=>?_);go_simp;refine(B.Uint64 g8 0 _ _ c5.o (by rw[k0b];exact a1.o)).mono ?_;rintro e w' ⟨rfl,rfl⟩;go_wp2_with fail;refine hK.out _ _ ⟨m.o.c0,m.o.c1⟩ (fun a0=>?_);clear hK
 iterate 2
  refine q01 (v:=?_) rfl (by rfl) ?_ ?_;rotate_left
  ·intro w s;go_simp;with_reducible rfl
  simp only[Act.put,sa,sb,sc]
 refine q0a ?_;go_wp2;go_ret;have a4:min F 64=F:=by omega
 exact⟨q0o (by rw[a4];exact a2.o),j.o.trans (c6.o.mono j.o.size)⟩
theorem q4s(n:Int)(h:n<=4000):bl (p2 n)<=4001:=by unfold Go.Proofs.YthopehoklmgphaaGreatDoor.p2;rw[q1F];omega
theorem q6I{k:Nat}(h:m<=2^k):bl m<=k+1:=q1g (by rw[k0f];have:=k0m k;omega)
theorem qeN(gx m E F:Nat)(l:Int)(w:qi)(h1:2<=E)(h2:E<=11)(h3:1<=F)(h4:F<=52)(hx:RatAt w gx ((m*p2 (l-F):Nat):Int) (p2 (F-l)))(hl:1-q0d E<=l)(hl2:l<=q0d E)(hm:m<=2^(F+1))(hm2:1-q0d E<l->2^F<=m)(hst:Std w):ql qc 169 #[fm E F,.pointer (qj ⟨gx,0,qg⟩)] w fun e w'=>e=.returned (.int .u64 ((m+(l+q0d E-1).toNat*2^F:Nat):Int))/\qd w.heap.size w w':=by
 have o:=q1c h1;have p:=q2l h2;have j:=q5W (F:=F) (m:=m) h1 hl hm2;have q:2^F<=2^52:=k05 (by omega) h4;have r:=k0m F;by_cases hs:l=1-q0d E/\m<2^F
 ·obtain⟨rfl,hm⟩:=hs;have:=q8f gx m E F w h1 h2 h3 h4 hx hm hst;rw[show(1-q0d E+q0d E-1).toNat=0 by omega,k1K,k0S];exact this
 have n:2^F<=m:=by
  rcases k1f (1-q0d E) l with h|h
  ·exact hm2 h
  ·rcases k0M m (2^F) with k|k
   ·exact absurd ⟨by omega,k⟩ hs
   ·exact k
 have d:¬q15 (m*p2 (l-F)*p2 (q0d E-1)) (p2 (1-q0d E)*p2 (F-l))<0:=fun h=>hs (j.1 h)
 have f:Sm (m*p2 (l-F)):=by have u:=q0D m (p2 (l-F));have v:=q4s (l-F) (by omega);have x:=q6I hm;unfold Sm;omega
 have g:Sm (p2 (F-l)):=Sm.p2 (by omega);have c:0<m*p2 (l-F):=k0w (by omega) (q0r _);have s:(l+q0d E-1).toNat*2^F<=2045*2^F:=k0r _ (by omega);have t:2^(F+1)=2*2^F:=by rw[k0f,k0h]
 rcases k0M m (2^(F+1)) with i|i
 ·have b:(l+q0d E).toNat=(l+q0d E-1).toNat+1:=by omega
  have a:(l+q0d E).toNat*2^F=(l+q0d E-1).toNat*2^F+2^F:=by rw[b,k0U,k0N]
  exact q7r gx _ _ m (l+q0d E).toNat _ E F l w h1 h2 h3 h4 hx c f g d (q73 n i) qay (by omega) (by omega) (by omega) (by rw[a];omega) (by rw[a];omega) hst
 ·obtain rfl:m=2^(F+1):=by omega
  have b:(l+1+q0d E).toNat=(l+q0d E-1).toNat+2:=by omega
  have a:(l+1+q0d E).toNat*2^F=(l+q0d E-1).toNat*2^F+2*2^F:=by rw[b,k0U]
  exact q7r gx _ _ (2^F) (l+1+q0d E).toNat _ E F (l+1) w h1 h2 h3 h4 hx c f g d q8T q8S (by omega) (by omega) (by omega) (by rw[a];omega) (by rw[a];omega) hst
theorem q9g:(bl a:Int)-bl b-1<=q0V a b/\q0V a b<=(bl a:Int)-bl b:=by unfold q0V;split<;>omega
def q6d(S:Nat)(o:Nat × Nat)(w:qi)(e:Ending)(w':qi):Prop:=e=.returned (.tuple #[.int .u64 ((S+o.1:Nat):Int),.int .u8 (o.2:Int)])/\qd w.heap.size w w'
theorem q4C{k l:IntKind}{a b c d:Int}(h:a=b)(h':c=d):Ending.returned (.tuple #[.int k a,.int l c])=.returned (.tuple #[.int k b,.int l d]):=by rw[h,h']
def sgb(E F:Nat)(b:Bool):Nat:=if b then 2^(E+F) else 0
theorem qbe(gx b E F:Nat)(neg:Bool)(mode:Nat)(w:qi)(h1:2<=E)(h2:E<=11)(h3:1<=F)(h4:F<=52)(hx:RatAt w gx 0 b):ql qc 106 #[fm E F,.pointer (qj ⟨gx,0,qg⟩),.bool neg,.int .u8 (mode:Int)] w (q6d (sgb E F neg) (0,0) w):=by
 obtain⟨d,f⟩:=yx (w.alloc (.cells #[.int .i64 (E:Int),.int .i64 (F:Int)] 23));have c:qh (qd w.heap.size w d):=vv (by rw[f];exact(qb _ w).alloc lr _);have n:qh (FmAt d w.heap.size E F):=vv (by rw[f];exact FmAt.made w _ _ _);have g:=vv (B.RSign gx 0 b d (hx.below c.o));have j:=vv f;have k:=vv fun w=>Sign E F w h1 h2 h3 h4
 have l:=vv fun a (hb:qd d.heap.size d a)=>B.RSign gx 0 b a ((hx.below c.o).below hb)
 clear hx f h1 h2 h3 h4;obtain⟨p,q,m⟩:=n.o;go_enter func106,ntmps106;go_wp2_with fail;rw[<- j.o];refine g.o.mono ?_;rintro e a ⟨rfl,rfl⟩;rw[Int.sign_zero];go_wp2_with fail;refine g.o.mono ?_;rintro e a ⟨rfl,rfl⟩;rw[Int.sign_zero];cases neg
 ·go_wp2_with fail;refine g.o.mono ?_;rintro e a ⟨rfl,rfl⟩;rw[Int.sign_zero];go_wp2;go_ret2;exact⟨by simp [sgb],c.o⟩
 ·go_wp2_with fail;refine(k.o _).mono ?_;rintro e r ⟨rfl,h⟩;have i:=vv h;clear p q m h;go_wp2_with fail;refine(l.o _ i.o).mono ?_;rintro e a ⟨rfl,rfl⟩;rw[Int.sign_zero];go_wp2;go_ret2;exact⟨by simp [sgb],c.o.trans (i.o.mono c.o.size)⟩
theorem q5i(h:over E F neg mode a b=qe):out E F neg mode a b=(if q19 neg mode then q2i E F-1 else q2i E F,3):=by unfold out;rw[if_pos h]
theorem qbo(h:over E F neg mode a b=qa):out E F neg mode a b=(q1Z E F neg mode a b,q1u E F neg mode a b):=by unfold out;rw[h];rfl
theorem qbr(h:over E F neg mode a b=qa):q0K E a b<=q0d E:=by unfold over at h;rw[Bool.or_eq_false_iff,k0A] at h;have:=h.1;omega
theorem q9P(h:out E F neg mode a b=(q1Z E F neg mode a b,q1u E F neg mode a b)):mant E F neg mode a b+(q0K E a b+q0d E-1).toNat*2^F<2^(E+F):=by
 have f:2^F<=2^(E+F):=k05 (by omega) (by omega);have g:=k0m F;by_cases ho:over E F neg mode a b=qe
 ·have c:=q5i ho;rw[h] at c;have d:q1Z E F neg mode a b=if q19 neg mode then q2i E F-1 else q2i E F:=k0g Prod.fst c;show q1Z E F neg mode a b<_;rw[d];unfold q2i;split<;>omega
 ·unfold over at ho;have e:¬q2i E F<=q1Z E F neg mode a b:=fun k=>ho (by rw[k03 k,Bool.or_true])
  show q1Z E F neg mode a b<_;unfold q2i at e;omega
theorem qcN(gx b E F X:Nat)(neg:Bool)(mode:Nat)(w:qi)(h1:2<=E)(h2:E<=11)(h3:1<=F)(h4:F<=52)(hx:RatAt w gx (X:Int) b)(hX:0<X)(sX:bl X<=1073741824)(sb:bl b<=1073741824)(hst:Std w)(hm:mode<=4):ql qc 106 #[fm E F,.pointer (qj ⟨gx,0,qg⟩),.bool neg,.int .u8 (mode:Int)] w (q6d (sgb E F qa) (out E F qa mode X b) w):=by
 have J:qh ((X:Int).sign=1):=vv (k0G (by omega));have b0:qh (((X:Int).natAbs:Int)=(X:Int)):=vv (by omega);have g1:=q1c h1;have g2:=q2l h2;have t:=hx.pos;have e2:=q9g (a:=X) (b:=b);have e3:-1073741900<=q0K E X b/\q0K E X b<=1073742900:=by unfold q0K;omega
 have Y:=q49 (E:=E) (F:=F) (neg:=qa) (mode:=mode) hX t;have d3:=q6D (F:=F) (neg:=qa) (mode:=mode) hX t;obtain⟨S,hS⟩:∃S:Nat,S=2^(E+F):=⟨_,rfl⟩;obtain⟨V,Q⟩:∃V:Nat,V=if q19 qa mode then q2i E F-1 else q2i E F:=⟨_,rfl⟩;obtain⟨W,R⟩:∃W:Nat,W=mant E F qa mode X b+(q0K E X b+q0d E-1).toNat*2^F:=⟨_,rfl⟩;have d4:2^(E+F)<=2^63:=k05 (by omega) (by omega);have a1:qh (∀v:Nat,v<2^(E+F)->IntKind.u64.wrap ((v:Int))=((sgb E F qa+v:Nat):Int)):=vv fun v hv=>by rw[<- hS] at d4 hv;rw[qn];show _=((0+v:Nat):Int);omega
 have e4:qh (V<2^(E+F)):=vv (by have:=k0m F;have g3:2^F<=2^(E+F):=k05 (by omega) (by omega);rw[Q];unfold q2i;split<;>omega);have e5:qh (q0K E X b<=q0d E->out E F qa mode X b=(q1Z E F qa mode X b,q1u E F qa mode X b)->W<2^(E+F)):=vv fun _ ho=>R ▸ q9P ho
 have Z:qh (IntKind.i64.wrap (1-q0d E)=1-q0d E/\IntKind.i64.wrap (q0K E X b-(F:Int))=q0K E X b-F/\IntKind.i64.wrap (q0V X b-(F:Int))=q0V X b-F):=vv ⟨qk _ (by omega),qk _ (by omega),qk _ (by omega)⟩;have c4:qh (max (q0V X b) (1-q0d E)=q0K E X b):=vv rfl;have HU:qh (∀g w,RatAt w g (X:Int) b->Std w->ql qc 163 #[.pointer (qj ⟨g,0,qg⟩),.int .i64 (q0K E X b-F),.bool qa,.int .u8 (mode:Int)] w (q1z ((mant E F qa mode X b*p2 (q0K E X b-F):Nat):Int) (p2 (F-q0K E X b)) w)):=vv fun g w hg hs=>by have:=qdX g X b (q0K E X b-F) qa mode w hg (by omega) (by omega) sX sb hs hm;rw[show -(q0K E X b-(F:Int))=F-q0K E X b by omega] at this;exact this
 have e6:qh (∀g w,RatAt w g (X:Int) b->Std w->ql qc 163 #[.pointer (qj ⟨g,0,qg⟩),.int .i64 (q0V X b-F),.bool qa,.int .u8 (mode:Int)] w (q1z ((q2t F qa mode X b*p2 (q0V X b-F):Nat):Int) (p2 (F-q0V X b)) w)):=vv fun g w hg hs=>by have:=qdX g X b (q0V X b-F) qa mode w hg (by omega) (by omega) sX sb hs hm;rw[show -(q0V X b-(F:Int))=F-q0V X b by omega] at this;exact this
 have hM:bl (mant E F qa mode X b)<=F+2:=q6I Y;have e7:bl (q2t F qa mode X b)<=F+2:=q6I d3;have b1:bl (p2 (q0K E X b-F))<=1073742902:=by unfold Go.Proofs.YthopehoklmgphaaGreatDoor.p2;rw[q1F];omega
 have b2:bl (p2 (F-q0K E X b))<=1073742902:=by unfold Go.Proofs.YthopehoklmgphaaGreatDoor.p2;rw[q1F];omega
 have b3:bl (p2 (q0V X b-F))<=1073742902:=by unfold Go.Proofs.YthopehoklmgphaaGreatDoor.p2;rw[q1F];omega
 have b4:bl (p2 (F-q0V X b))<=1073742902:=by unfold Go.Proofs.YthopehoklmgphaaGreatDoor.p2;rw[q1F];omega
 have b5:bl (p2 (q0d E-F))<=4001:=q4s _ (by omega);have b6:bl (p2 (F-q0d E))<=4001:=q4s _ (by omega);have b7:bl (p2 (1-q0d E))<=4001:=q4s _ (by omega);have b8:bl (p2 (q0d E-1))<=4001:=q4s _ (by omega);have b9:bl (2^(F+1)-1)<=F+2:=q6I (by omega);have c1:=q0D (mant E F qa mode X b) (p2 (q0K E X b-F));have c2:=q0D (q2t F qa mode X b) (p2 (q0V X b-F));have c3:=q0D (2^(F+1)-1) (p2 (q0d E-F));have z:qh (Sz (mant E F qa mode X b*p2 (q0K E X b-F))/\Sz (p2 (F-q0K E X b))/\Sz ((2^(F+1)-1)*p2 (q0d E-F))/\Sz (p2 (F-q0d E))):=vv (by unfold Sz;exact⟨by omega,by omega,by omega,by omega⟩);have L:qh (Sz (q2t F qa mode X b*p2 (q0V X b-F))/\Sz (p2 (F-q0V X b))/\Sz (p2 (1-q0d E))/\Sz (p2 (q0d E-1))):=vv (by unfold Sz;exact⟨by omega,by omega,by omega,by omega⟩);have M:qh (Sm X/\Sm b):=vv (by unfold Sm;exact⟨by omega,by omega⟩);have e8:=vv hX;have c5:=vv (q70 (E:=E) (F:=F) (neg:=qa) (mode:=mode) (a:=X) t);have c6:=vv (q5I (E:=E) (F:=F) (neg:=qa) (mode:=mode) hX t h1);have c7:=vv (q74 (E:=E) (F:=F) (neg:=qa) (mode:=mode) hX t h1);have e9:qh (∀g w,RatAt w g ((mant E F qa mode X b*p2 (q0K E X b-F):Nat):Int) (p2 (F-q0K E X b))->q0K E X b<=q0d E->Std w->ql qc 169 #[fm E F,.pointer (qj ⟨g,0,qg⟩)] w fun e k=>e=.returned (.int .u64 (W:Int))/\qd w.heap.size w k):=vv fun g w hg hl hs=>R ▸
  qeN g _ E F _ w h1 h2 h3 h4 hg q9b hl Y (fun h=>q6r hX t (by have:=q9a h;omega)) hs
 have f2:=vv fun w hs=>q7s E F w h1 h2 h3 h4 hs
 have c8:=vv fun w=>qbf E F w h1 h2
 have f3:=vv fun w=>qd1 E F w h1 h2
 have f4:qh (∀w,ql qc 168 #[fm E F,.bool qa,.int .u8 (mode:Int)] w fun e k=>e=.returned (.int .u64 (V:Int))/\qd w.heap.size w k):=vv fun w=>Q ▸ qbC E F qa mode w h1 h2 h3 h4 hm
 have g4:qh (∀w,ql qc 160 #[fm E F] w fun e k=>e=.returned (.int .u64 (S:Int))/\qd w.heap.size w k):=vv fun w=>hS ▸ Sign E F w h1 h2 h3 h4
 have c9:qh (over E F qa mode X b=qe->out E F qa mode X b=(V,3)):=vv fun h=>Q ▸ q5i h
 have d0:qh (over E F qa mode X b=qa->out E F qa mode X b=(q1Z E F qa mode X b,q1u E F qa mode X b)/\q1Z E F qa mode X b=W):=vv fun h=>⟨qbo h,R ▸ rfl⟩
 obtain⟨s,N⟩:=yx (w.alloc (.cells #[.int .i64 (E:Int),.int .i64 (F:Int)] 23));have u:qh (qd w.heap.size w s):=vv (by rw[N];exact(qb _ w).alloc lr _);have l:qh (FmAt s w.heap.size E F):=vv (by rw[N];exact FmAt.made w _ _ _);have O:=vv (hst.fs (Fs.of_nil u.o));have HX:=vv (hx.below u.o);have f5:=vv N;have P:=vv fun k (hb:qd s.heap.size s k)=>B.RSign gx _ b k ((hx.below u.o).below hb)
 clear hS Q R d4 hx hst N Y d3 hM e7 b1 b2 b3 b4 b5 b6 b7 b8 b9 c1 c2 c3 e3 e2 sX sb hX h1 h2 hm t;have f:qh (qd s.heap.size s s):=vv (qb _ _);obtain⟨q,r,y⟩:=l.o;go_enter func106,ntmps106;go_wp2_with fail;rw[<- f5.o];go_wp2_with fail;refine(P.o _ f.o).mono ?_;rintro e k ⟨rfl,rfl⟩;rw[J.o];go_wp2_with fail;refine(P.o _ f.o).mono ?_;rintro e k ⟨rfl,rfl⟩;rw[J.o];go_wp2_with fail;refine(P.o _ f.o).mono ?_;rintro e k ⟨rfl,rfl⟩;rw[J.o];go_wp2_with fail;refine(P.o _ f.o).mono ?_;rintro e k ⟨rfl,rfl⟩;rw[J.o];obtain⟨wc,a3⟩:∃x:qi,x=s:=⟨_,rfl⟩;have f:qh (qd s.heap.size s wc):=vv (by rw[a3];exact qb _ _);rw[<- a3];clear a3 q r y;go_wp2_with fail;obtain⟨T,c⟩:=q0y wc;obtain⟨D,d5⟩:=yx (wc.heap.size);have d1:s.heap.size<=D:=by have:=f.o.size;omega
 obtain⟨wn,d6⟩:=yx (wc.alloc q28);rw[<- d6] at T c ⊢;rw[<- d5] at T ⊢;have HZ:=vv T;have f:=vn f c;clear d6 d5 T c;refine(B.AbsR D gx _ _ _ HZ.o.sh (HX.o.below f.o)).mono ?_;rintro e wc hP;rw[b0.o] at hP;have i:=hP.below f.o f.o.size d1;have f:=vv i;obtain⟨rfl,d7,-⟩:=hP;have j:=vv d7;clear d7 i;go_wp2_with fail;refine(log D X b _ j.o e8.o M.o.1 M.o.2).mono ?_;rintro e wn ⟨rfl,c⟩;have j:=vv (j.o.below c);have i:=f.o.trans (c.mono f.o.size);have f:=vv i;clear c i;obtain⟨wc,rfl⟩:=yx wn;have q:=(l.o.below f.o).c0;have r:=(l.o.below f.o).c1;go_wp2_with fail;refine q02 (fun k=>k.cell? ⟨w.heap.size,0,qg⟩=qj (.int .i64 (E:Int))/\k.cell? ⟨w.heap.size,1,qg⟩=qj (.int .i64 (F:Int))) 11
  (.still 0 (.still 1 (.still 2 (.still 6 (.still 7 (.still 9 (.still 10 (.one 3 (.still 4 (.still 5 (.still 8 .done))))))))))) (by kernel_rfl) (by kernel_rfl) (fun _ _ d _ _ h=>by cases d<;>exact h) ⟨q,r⟩ (fun hS0=>?_)
 iterate 7
  refine q01 (v:=?_) rfl (by rfl) ?_ ?_;rotate_left
  ·intro w C;go_simp;with_reducible rfl
  simp only[Act.put,sa,sb,sc]
 refine q04 rfl (by rfl) (fun K hK=>?_);go_simp;refine(f3.o _).mono ?_;rintro e wn ⟨rfl,c⟩;have c:qd wc.heap.size wc wn:=⟨c.os,c.tape,c.output,c.size,c.block⟩;clear q r;have j:=vv (j.o.below c);have i:=f.o.trans (c.mono f.o.size);have f:=vv i;clear c i;obtain⟨wc,rfl⟩:=yx wn;go_wp2_with fail;refine hK.out _ _ ⟨(l.o.below f.o).c0,(l.o.below f.o).c1⟩ (fun a0=>?_);clear hK;have G:=Z.o.1
 iterate 1
  refine q01 (v:=?_) rfl (by rfl) ?_ ?_;rotate_left
  ·intro w C;go_simp;with_reducible rfl
  simp only[Act.put,sa,sb,sc]
 clear G
 iterate 1
  refine q01 (v:=?_) rfl (by rfl) ?_ ?_;rotate_left
  ·intro w C;go_simp;with_reducible rfl
  simp only[Act.put,sa,sb,sc]
 rw[c4.o];have G:=Z.o.2.1
 iterate 1
  refine q01 (v:=?_) rfl (by rfl) ?_ ?_;rotate_left
  ·intro w C;go_simp;with_reducible rfl
  simp only[Act.put,sa,sb,sc]
 clear G;refine q0a ?_;go_wp2_with fail;refine(HU.o D _ j.o (O.o.fs (Fs.of_nil f.o))).mono ?_;rintro e wn ⟨gY,rfl,g5,d8,c⟩;have j:=vv (j.o.below c);have i:=f.o.trans (c.mono f.o.size);have f:=vv i;clear c i;obtain⟨wc,rfl⟩:=yx wn;have m:=vv d8;clear d8 hS0;go_wp2_with fail;refine(B.CmpR gY D _ _ _ _ _ m.o j.o z.o.1 z.o.2.1 M.o.1.sz M.o.2.sz).mono ?_;rintro e wn ⟨rfl,c⟩
 try have n:=vv (n.o.below c)
 try have p:=vv (p.o.below c)
 have m:=vv (m.o.below c);have j:=vv (j.o.below c);have i:=f.o.trans (c.mono f.o.size);have f:=vv i;clear c i;obtain⟨wc,rfl⟩:=yx wn;obtain⟨U,a4⟩:=yx (q15 (mant E F qa mode X b*p2 (q0K E X b-F)*b) (X*p2 (F-q0K E X b)));rw[<- a4];have H:=vv c5.o;rw[<- a4] at H;clear a4;by_cases hr:q5g E F X b=0
 focus
  have f6:(U==0)=qe:=by rw[H.o.2 hr];rfl
  have d2:(U != 0)=qa:=by rw[H.o.2 hr];rfl
  have a5:qh (q1u E F qa mode X b=0):=vv (if_pos hr);clear hr;obtain⟨q,r,y⟩:=(l.o.below f.o)
 rotate_left 1
 focus
  have f6:(U==0)=qa:=by rw[k02];exact fun h=>hr (H.o.1 h)
  have d2:(U != 0)=qe:=by rw[k1r];exact fun h=>hr (H.o.1 h)
  have a2:qh (q1u E F qa mode X b=if q1Y E F qa mode X b then 5 else 1):=vv (if_neg hr);clear hr;have q:=(l.o.below f.o).c0;have r:=(l.o.below f.o).c1;go_wp2_with fail;refine q02 (fun k=>k.cell? ⟨w.heap.size,0,qg⟩=qj (.int .i64 (E:Int))/\k.cell? ⟨w.heap.size,1,qg⟩=qj (.int .i64 (F:Int))) 11
   (.still 0 (.still 1 (.still 2 (.still 3 (.still 4 (.still 5 (.still 6 (.still 8 (.one 7 (.one 9 (.one 10 .done))))))))))) (by kernel_rfl) (by kernel_rfl) (fun _ _ d _ _ h=>by cases d<;>exact h) ⟨q,r⟩ (fun hS0=>?_)
  iterate 4
   refine q01 (v:=?_) rfl (by rfl) ?_ ?_;rotate_left
   ·intro w C;go_simp;with_reducible rfl
   simp only[Act.put,sa,sb,sc]
  have G:=Z.o.2.2
  iterate 1
   refine q01 (v:=?_) rfl (by rfl) ?_ ?_;rotate_left
   ·intro w C;go_simp;with_reducible rfl
   simp only[Act.put,sa,sb,sc]
  clear G
  iterate 3
   refine q01 (v:=?_) rfl (by rfl) ?_ ?_;rotate_left
   ·intro w C;go_simp;with_reducible rfl
   simp only[Act.put,sa,sb,sc]
  refine q04 rfl (by rfl) (fun K hK=>?_);go_simp;refine(e6.o D _ j.o.drew ((O.o.fs (Fs.of_nil f.o)).drew)).mono ?_;rintro e wn ⟨gU,rfl,g6,d9,c⟩;have c:qd wc.heap.size wc wn:=⟨c.os,c.tape,c.output,c.size,c.block⟩;clear q r
  try have n:=vv (n.o.below c)
  try have p:=vv (p.o.below c)
  have m:=vv (m.o.below c);have j:=vv (j.o.below c);have i:=f.o.trans (c.mono f.o.size);have f:=vv i;clear c i;obtain⟨wc,rfl⟩:=yx wn;have n:=vv d9;clear d9;go_wp2_with fail;refine hK.out _ _ ⟨(l.o.below f.o).c0,(l.o.below f.o).c1⟩ (fun a0=>?_);clear hK;refine q04 rfl (by rfl) (fun K hK=>?_);go_simp;refine(c8.o _).mono ?_;rintro e wn ⟨gL,rfl,g7,e0,c⟩
  try have n:=vv (n.o.below c)
  try have p:=vv (p.o.below c)
  have m:=vv (m.o.below c);have j:=vv (j.o.below c);have i:=f.o.trans (c.mono f.o.size);have f:=vv i;clear c i;obtain⟨wc,rfl⟩:=yx wn;have p:=vv e0;clear e0;go_wp2_with fail;refine hK.out _ _ ⟨(l.o.below f.o).c0,(l.o.below f.o).c1⟩ (fun a0=>?_);clear hK;refine q04 rfl (by rfl) (fun K hK=>?_);go_simp;refine(B.CmpR gU gL _ _ _ _ _ n.o p.o L.o.1 L.o.2.1 L.o.2.2.1 L.o.2.2.2).mono ?_;rintro e wn ⟨rfl,c⟩
  try have n:=vv (n.o.below c)
  try have p:=vv (p.o.below c)
  have m:=vv (m.o.below c);have j:=vv (j.o.below c);have i:=f.o.trans (c.mono f.o.size);have f:=vv i;clear c i;obtain⟨wc,rfl⟩:=yx wn;obtain⟨t3,a6⟩:=yx (q15 (q2t F qa mode X b*p2 (q0V X b-F)*p2 (q0d E-1)) (p2 (1-q0d E)*p2 (F-q0V X b)));rw[<- a6];have a7:=vv c6.o;rw[<- a6] at a7;clear a6;go_wp2_with fail;refine hK.out _ _ ⟨(l.o.below f.o).c0,(l.o.below f.o).c1⟩ (fun a0=>?_);clear hK;refine q0a ?_;by_cases hu:q1Y E F qa mode X b=qe
  focus
   have f7:qf (t3<0)=qe:=k03 (a7.o.2 hu);have a5:qh (q1u E F qa mode X b=5):=vv (by rw[a2.o,if_pos hu]);clear hu;obtain⟨q,r,y⟩:=(l.o.below f.o)
  rotate_left 1
  focus
   have f7:qf (t3<0)=qa:=k00 (fun h=>hu (a7.o.1 h));have a5:qh (q1u E F qa mode X b=1):=vv (by rw[a2.o,if_neg hu]);clear hu;obtain⟨q,r,y⟩:=(l.o.below f.o)
 all_goals
  go_wp2_with fail;refine(f2.o _ (O.o.fs (Fs.of_nil f.o))).mono ?_;rintro e wn ⟨gG,rfl,g8,f8,c⟩;have f9:=vv f8
  try have n:=vv (n.o.below c)
  try have p:=vv (p.o.below c)
  have m:=vv (m.o.below c);have j:=vv (j.o.below c);have i:=f.o.trans (c.mono f.o.size);have f:=vv i;clear c i;obtain⟨wc,rfl⟩:=yx wn;go_wp2_with fail;refine(B.CmpR gY gG _ _ _ _ _ m.o f9.o z.o.1 z.o.2.1 z.o.2.2.1 z.o.2.2.2).mono ?_;rintro e wn ⟨rfl,c⟩
  try have n:=vv (n.o.below c)
  try have p:=vv (p.o.below c)
  have m:=vv (m.o.below c);have j:=vv (j.o.below c);have i:=f.o.trans (c.mono f.o.size);have f:=vv i;clear c i;obtain⟨wc,rfl⟩:=yx wn;obtain⟨t2,a8⟩:=yx (q15 (mant E F qa mode X b*p2 (q0K E X b-F)*p2 (F-q0d E)) ((2^(F+1)-1)*p2 (q0d E-F)*p2 (F-q0K E X b)));rw[<- a8];have a9:=vv c7.o;rw[<- a8] at a9;obtain⟨q,r,y⟩:=(l.o.below f.o);clear a8;by_cases ho:over E F qa mode X b=qe
  ·have g0:qf (0<t2)=qe:=k03 (a9.o.2 ho);have I:=vv (c9.o ho);clear ho;go_wp2_with fail;refine(f4.o _).mono ?_;rintro e wn ⟨rfl,c⟩;have f:=vn f c;clear q r y c;go_wp2;go_ret2;rw[I.o];exact⟨q4C (a1.o _ e4.o) rfl,u.o.trans (f.o.mono u.o.size)⟩
  ·have g0:qf (0<t2)=qa:=k00 (fun h=>ho (a9.o.1 h));have I:=vv (d0.o (by simpa using ho));have e1:=vv (qbr (by simpa using ho));clear ho;go_wp2_with fail;refine(e9.o _ _ m.o e1.o (O.o.fs (Fs.of_nil f.o))).mono ?_;rintro e wn ⟨rfl,c⟩;have f:=vn f c;clear q r y c;go_wp2;go_ret2;rw[I.o.1,a5.o,I.o.2];exact⟨q4C (a1.o _ (e5.o e1.o I.o.1)) rfl,u.o.trans (f.o.mono u.o.size)⟩
theorem qcO(gx b E F X:Nat)(neg:Bool)(mode:Nat)(w:qi)(h1:2<=E)(h2:E<=11)(h3:1<=F)(h4:F<=52)(hx:RatAt w gx (-(X:Int)) b)(hX:0<X)(sX:bl X<=1073741824)(sb:bl b<=1073741824)(hst:Std w)(hm:mode<=4):ql qc 106 #[fm E F,.pointer (qj ⟨gx,0,qg⟩),.bool neg,.int .u8 (mode:Int)] w (q6d (sgb E F qe) (out E F qe mode X b) w):=by
 have U:qh ((-(X:Int)).sign = -1):=vv (k1O (by omega));have b0:qh (((-(X:Int)).natAbs:Int)=(X:Int)):=vv (by omega);have g4:=q1c h1;have g5:=q2l h2;have u:=hx.pos;have e4:=q9g (a:=X) (b:=b);have e5:-1073741900<=q0K E X b/\q0K E X b<=1073742900:=by unfold q0K;omega
 have Y:=q49 (E:=E) (F:=F) (neg:=qe) (mode:=mode) hX u;have d3:=q6D (F:=F) (neg:=qe) (mode:=mode) hX u;obtain⟨S,O⟩:∃S:Nat,S=2^(E+F):=⟨_,rfl⟩;obtain⟨V,P⟩:∃V:Nat,V=if q19 qe mode then q2i E F-1 else q2i E F:=⟨_,rfl⟩;obtain⟨W,Q⟩:∃W:Nat,W=mant E F qe mode X b+(q0K E X b+q0d E-1).toNat*2^F:=⟨_,rfl⟩;have d4:2^(E+F)<=2^63:=k05 (by omega) (by omega);have a1:qh (∀v:Nat,v<2^(E+F)->IntKind.u64.wrap ((S:Int)+(v:Int))=((sgb E F qe+v:Nat):Int)):=vv fun v hv=>by rw[<- O] at d4 hv;rw[qn];show _=((2^(E+F)+v:Nat):Int);rw[<- O];omega
 have e6:qh (V<2^(E+F)):=vv (by have:=k0m F;have g6:2^F<=2^(E+F):=k05 (by omega) (by omega);rw[P];unfold q2i;split<;>omega);have e7:qh (q0K E X b<=q0d E->out E F qe mode X b=(q1Z E F qe mode X b,q1u E F qe mode X b)->W<2^(E+F)):=vv fun _ ho=>Q ▸ q9P ho
 have Z:qh (IntKind.i64.wrap (1-q0d E)=1-q0d E/\IntKind.i64.wrap (q0K E X b-(F:Int))=q0K E X b-F/\IntKind.i64.wrap (q0V X b-(F:Int))=q0V X b-F):=vv ⟨qk _ (by omega),qk _ (by omega),qk _ (by omega)⟩;have c4:qh (max (q0V X b) (1-q0d E)=q0K E X b):=vv rfl;have HU:qh (∀g w,RatAt w g (X:Int) b->Std w->ql qc 163 #[.pointer (qj ⟨g,0,qg⟩),.int .i64 (q0K E X b-F),.bool qe,.int .u8 (mode:Int)] w (q1z ((mant E F qe mode X b*p2 (q0K E X b-F):Nat):Int) (p2 (F-q0K E X b)) w)):=vv fun g w hg hs=>by have:=qdX g X b (q0K E X b-F) qe mode w hg (by omega) (by omega) sX sb hs hm;rw[show -(q0K E X b-(F:Int))=F-q0K E X b by omega] at this;exact this
 have e8:qh (∀g w,RatAt w g (X:Int) b->Std w->ql qc 163 #[.pointer (qj ⟨g,0,qg⟩),.int .i64 (q0V X b-F),.bool qe,.int .u8 (mode:Int)] w (q1z ((q2t F qe mode X b*p2 (q0V X b-F):Nat):Int) (p2 (F-q0V X b)) w)):=vv fun g w hg hs=>by have:=qdX g X b (q0V X b-F) qe mode w hg (by omega) (by omega) sX sb hs hm;rw[show -(q0V X b-(F:Int))=F-q0V X b by omega] at this;exact this
 have hM:bl (mant E F qe mode X b)<=F+2:=q6I Y;have e9:bl (q2t F qe mode X b)<=F+2:=q6I d3;have b1:bl (p2 (q0K E X b-F))<=1073742902:=by unfold Go.Proofs.YthopehoklmgphaaGreatDoor.p2;rw[q1F];omega
 have b2:bl (p2 (F-q0K E X b))<=1073742902:=by unfold Go.Proofs.YthopehoklmgphaaGreatDoor.p2;rw[q1F];omega
 have b3:bl (p2 (q0V X b-F))<=1073742902:=by unfold Go.Proofs.YthopehoklmgphaaGreatDoor.p2;rw[q1F];omega
 have b4:bl (p2 (F-q0V X b))<=1073742902:=by unfold Go.Proofs.YthopehoklmgphaaGreatDoor.p2;rw[q1F];omega
 have b5:bl (p2 (q0d E-F))<=4001:=q4s _ (by omega);have b6:bl (p2 (F-q0d E))<=4001:=q4s _ (by omega);have b7:bl (p2 (1-q0d E))<=4001:=q4s _ (by omega);have b8:bl (p2 (q0d E-1))<=4001:=q4s _ (by omega);have b9:bl (2^(F+1)-1)<=F+2:=q6I (by omega);have c1:=q0D (mant E F qe mode X b) (p2 (q0K E X b-F));have c2:=q0D (q2t F qe mode X b) (p2 (q0V X b-F));have c3:=q0D (2^(F+1)-1) (p2 (q0d E-F));have z:qh (Sz (mant E F qe mode X b*p2 (q0K E X b-F))/\Sz (p2 (F-q0K E X b))/\Sz ((2^(F+1)-1)*p2 (q0d E-F))/\Sz (p2 (F-q0d E))):=vv (by unfold Sz;exact⟨by omega,by omega,by omega,by omega⟩);have J:qh (Sz (q2t F qe mode X b*p2 (q0V X b-F))/\Sz (p2 (F-q0V X b))/\Sz (p2 (1-q0d E))/\Sz (p2 (q0d E-1))):=vv (by unfold Sz;exact⟨by omega,by omega,by omega,by omega⟩);have L:qh (Sm X/\Sm b):=vv (by unfold Sm;exact⟨by omega,by omega⟩);have f2:=vv hX;have c5:=vv (q70 (E:=E) (F:=F) (neg:=qe) (mode:=mode) (a:=X) u);have c6:=vv (q5I (E:=E) (F:=F) (neg:=qe) (mode:=mode) hX u h1);have c7:=vv (q74 (E:=E) (F:=F) (neg:=qe) (mode:=mode) hX u h1);have f3:qh (∀g w,RatAt w g ((mant E F qe mode X b*p2 (q0K E X b-F):Nat):Int) (p2 (F-q0K E X b))->q0K E X b<=q0d E->Std w->ql qc 169 #[fm E F,.pointer (qj ⟨g,0,qg⟩)] w fun e k=>e=.returned (.int .u64 (W:Int))/\qd w.heap.size w k):=vv fun g w hg hl hs=>Q ▸
  qeN g _ E F _ w h1 h2 h3 h4 hg q9b hl Y (fun h=>q6r hX u (by have:=q9a h;omega)) hs
 have f4:=vv fun w hs=>q7s E F w h1 h2 h3 h4 hs
 have c8:=vv fun w=>qbf E F w h1 h2
 have f5:=vv fun w=>qd1 E F w h1 h2
 have f6:qh (∀w,ql qc 168 #[fm E F,.bool qe,.int .u8 (mode:Int)] w fun e k=>e=.returned (.int .u64 (V:Int))/\qd w.heap.size w k):=vv fun w=>P ▸ qbC E F qe mode w h1 h2 h3 h4 hm
 have f7:qh (∀w,ql qc 160 #[fm E F] w fun e k=>e=.returned (.int .u64 (S:Int))/\qd w.heap.size w k):=vv fun w=>O ▸ Sign E F w h1 h2 h3 h4
 have c9:qh (over E F qe mode X b=qe->out E F qe mode X b=(V,3)):=vv fun h=>P ▸ q5i h
 have d0:qh (over E F qe mode X b=qa->out E F qe mode X b=(q1Z E F qe mode X b,q1u E F qe mode X b)/\q1Z E F qe mode X b=W):=vv fun h=>⟨qbo h,Q ▸ rfl⟩
 obtain⟨t,M⟩:=yx (w.alloc (.cells #[.int .i64 (E:Int),.int .i64 (F:Int)] 23));have y:qh (qd w.heap.size w t):=vv (by rw[M];exact(qb _ w).alloc lr _);have l:qh (FmAt t w.heap.size E F):=vv (by rw[M];exact FmAt.made w _ _ _);have N:=vv (hst.fs (Fs.of_nil y.o));have HX:=vv (hx.below y.o);have f8:=vv M;have a3:=vv fun k (hb:qd t.heap.size t k)=>B.RSign gx _ b k ((hx.below y.o).below hb)
 clear O P Q d4 hx hst M Y d3 hM e9 b1 b2 b3 b4 b5 b6 b7 b8 b9 c1 c2 c3 e5 e4 sX sb hX h1 h2 hm u;have f:qh (qd t.heap.size t t):=vv (qb _ _);obtain⟨n,p,s⟩:=l.o;go_enter func106,ntmps106;go_wp2_with fail;rw[<- f8.o];go_wp2_with fail;refine(a3.o _ f.o).mono ?_;rintro e k ⟨rfl,rfl⟩;rw[U.o];go_wp2_with fail;refine(f7.o _).mono ?_;rintro e w1 ⟨rfl,d5⟩;have f:=vv d5;clear n p s d5;have n:=True.intro;have p:=True.intro;have s:=True.intro;go_wp2_with fail;refine(a3.o _ f.o).mono ?_;rintro e k ⟨rfl,rfl⟩;rw[U.o];go_wp2_with fail;refine(a3.o _ f.o).mono ?_;rintro e k ⟨rfl,rfl⟩;rw[U.o];obtain⟨wc,d6⟩:∃x:qi,x=w1:=⟨_,rfl⟩;rw[<- d6] at f ⊢;clear d6 n p s;go_wp2_with fail;obtain⟨R,c⟩:=q0y wc;obtain⟨D,d7⟩:=yx (wc.heap.size);have d1:t.heap.size<=D:=by have:=f.o.size;omega
 obtain⟨wn,d8⟩:=yx (wc.alloc q28);rw[<- d8] at R c ⊢;rw[<- d7] at R ⊢;have HZ:=vv R;have f:=vn f c;clear d8 d7 R c;refine(B.AbsR D gx _ _ _ HZ.o.sh (HX.o.below f.o)).mono ?_;rintro e wc hP;rw[b0.o] at hP;have i:=hP.below f.o f.o.size d1;have f:=vv i;obtain⟨rfl,d9,-⟩:=hP;have j:=vv d9;clear d9 i;go_wp2_with fail;refine(log D X b _ j.o f2.o L.o.1 L.o.2).mono ?_;rintro e wn ⟨rfl,c⟩;have j:=vv (j.o.below c);have i:=f.o.trans (c.mono f.o.size);have f:=vv i;clear c i;obtain⟨wc,rfl⟩:=yx wn;have n:=(l.o.below f.o).c0;have p:=(l.o.below f.o).c1;go_wp2_with fail;refine q02 (fun k=>k.cell? ⟨w.heap.size,0,qg⟩=qj (.int .i64 (E:Int))/\k.cell? ⟨w.heap.size,1,qg⟩=qj (.int .i64 (F:Int))) 11
  (.still 0 (.still 1 (.still 2 (.still 6 (.still 7 (.still 9 (.still 10 (.one 3 (.still 4 (.still 5 (.still 8 .done))))))))))) (by kernel_rfl) (by kernel_rfl) (fun _ _ d _ _ h=>by cases d<;>exact h) ⟨n,p⟩ (fun hS0=>?_)
 iterate 7
  refine q01 (v:=?_) rfl (by rfl) ?_ ?_;rotate_left
  ·intro w C;go_simp;with_reducible rfl
  simp only[Act.put,sa,sb,sc]
 refine q04 rfl (by rfl) (fun K hK=>?_);go_simp;refine(f5.o _).mono ?_;rintro e wn ⟨rfl,c⟩;have c:qd wc.heap.size wc wn:=⟨c.os,c.tape,c.output,c.size,c.block⟩;clear n p;have j:=vv (j.o.below c);have i:=f.o.trans (c.mono f.o.size);have f:=vv i;clear c i;obtain⟨wc,rfl⟩:=yx wn;go_wp2_with fail;refine hK.out _ _ ⟨(l.o.below f.o).c0,(l.o.below f.o).c1⟩ (fun a0=>?_);clear hK;have G:=Z.o.1
 iterate 1
  refine q01 (v:=?_) rfl (by rfl) ?_ ?_;rotate_left
  ·intro w C;go_simp;with_reducible rfl
  simp only[Act.put,sa,sb,sc]
 clear G
 iterate 1
  refine q01 (v:=?_) rfl (by rfl) ?_ ?_;rotate_left
  ·intro w C;go_simp;with_reducible rfl
  simp only[Act.put,sa,sb,sc]
 rw[c4.o];have G:=Z.o.2.1
 iterate 1
  refine q01 (v:=?_) rfl (by rfl) ?_ ?_;rotate_left
  ·intro w C;go_simp;with_reducible rfl
  simp only[Act.put,sa,sb,sc]
 clear G;refine q0a ?_;go_wp2_with fail;refine(HU.o D _ j.o (N.o.fs (Fs.of_nil f.o))).mono ?_;rintro e wn ⟨gY,rfl,g7,e0,c⟩;have j:=vv (j.o.below c);have i:=f.o.trans (c.mono f.o.size);have f:=vv i;clear c i;obtain⟨wc,rfl⟩:=yx wn;have m:=vv e0;clear e0 hS0;go_wp2_with fail;refine(B.CmpR gY D _ _ _ _ _ m.o j.o z.o.1 z.o.2.1 L.o.1.sz L.o.2.sz).mono ?_;rintro e wn ⟨rfl,c⟩
 try have q:=vv (q.o.below c)
 try have r:=vv (r.o.below c)
 have m:=vv (m.o.below c);have j:=vv (j.o.below c);have i:=f.o.trans (c.mono f.o.size);have f:=vv i;clear c i;obtain⟨wc,rfl⟩:=yx wn;obtain⟨T,a4⟩:=yx (q15 (mant E F qe mode X b*p2 (q0K E X b-F)*b) (X*p2 (F-q0K E X b)));rw[<- a4];have H:=vv c5.o;rw[<- a4] at H;clear a4;by_cases hr:q5g E F X b=0
 focus
  have f9:(T==0)=qe:=by rw[H.o.2 hr];rfl
  have d2:(T != 0)=qa:=by rw[H.o.2 hr];rfl
  have a5:qh (q1u E F qe mode X b=0):=vv (if_pos hr);clear hr;obtain⟨n,p,s⟩:=(l.o.below f.o)
 rotate_left 1
 focus
  have f9:(T==0)=qa:=by rw[k02];exact fun h=>hr (H.o.1 h)
  have d2:(T != 0)=qe:=by rw[k1r];exact fun h=>hr (H.o.1 h)
  have a2:qh (q1u E F qe mode X b=if q1Y E F qe mode X b then 5 else 1):=vv (if_neg hr);clear hr;have n:=(l.o.below f.o).c0;have p:=(l.o.below f.o).c1;go_wp2_with fail;refine q02 (fun k=>k.cell? ⟨w.heap.size,0,qg⟩=qj (.int .i64 (E:Int))/\k.cell? ⟨w.heap.size,1,qg⟩=qj (.int .i64 (F:Int))) 11
   (.still 0 (.still 1 (.still 2 (.still 3 (.still 4 (.still 5 (.still 6 (.still 8 (.one 7 (.one 9 (.one 10 .done))))))))))) (by kernel_rfl) (by kernel_rfl) (fun _ _ d _ _ h=>by cases d<;>exact h) ⟨n,p⟩ (fun hS0=>?_)
  iterate 4
   refine q01 (v:=?_) rfl (by rfl) ?_ ?_;rotate_left
   ·intro w C;go_simp;with_reducible rfl
   simp only[Act.put,sa,sb,sc]
  have G:=Z.o.2.2
  iterate 1
   refine q01 (v:=?_) rfl (by rfl) ?_ ?_;rotate_left
   ·intro w C;go_simp;with_reducible rfl
   simp only[Act.put,sa,sb,sc]
  clear G
  iterate 3
   refine q01 (v:=?_) rfl (by rfl) ?_ ?_;rotate_left
   ·intro w C;go_simp;with_reducible rfl
   simp only[Act.put,sa,sb,sc]
  refine q04 rfl (by rfl) (fun K hK=>?_);go_simp;refine(e8.o D _ j.o.drew ((N.o.fs (Fs.of_nil f.o)).drew)).mono ?_;rintro e wn ⟨gU,rfl,g8,e1,c⟩;have c:qd wc.heap.size wc wn:=⟨c.os,c.tape,c.output,c.size,c.block⟩;clear n p
  try have q:=vv (q.o.below c)
  try have r:=vv (r.o.below c)
  have m:=vv (m.o.below c);have j:=vv (j.o.below c);have i:=f.o.trans (c.mono f.o.size);have f:=vv i;clear c i;obtain⟨wc,rfl⟩:=yx wn;have q:=vv e1;clear e1;go_wp2_with fail;refine hK.out _ _ ⟨(l.o.below f.o).c0,(l.o.below f.o).c1⟩ (fun a0=>?_);clear hK;refine q04 rfl (by rfl) (fun K hK=>?_);go_simp;refine(c8.o _).mono ?_;rintro e wn ⟨gL,rfl,g9,e2,c⟩
  try have q:=vv (q.o.below c)
  try have r:=vv (r.o.below c)
  have m:=vv (m.o.below c);have j:=vv (j.o.below c);have i:=f.o.trans (c.mono f.o.size);have f:=vv i;clear c i;obtain⟨wc,rfl⟩:=yx wn;have r:=vv e2;clear e2;go_wp2_with fail;refine hK.out _ _ ⟨(l.o.below f.o).c0,(l.o.below f.o).c1⟩ (fun a0=>?_);clear hK;refine q04 rfl (by rfl) (fun K hK=>?_);go_simp;refine(B.CmpR gU gL _ _ _ _ _ q.o r.o J.o.1 J.o.2.1 J.o.2.2.1 J.o.2.2.2).mono ?_;rintro e wn ⟨rfl,c⟩
  try have q:=vv (q.o.below c)
  try have r:=vv (r.o.below c)
  have m:=vv (m.o.below c);have j:=vv (j.o.below c);have i:=f.o.trans (c.mono f.o.size);have f:=vv i;clear c i;obtain⟨wc,rfl⟩:=yx wn;obtain⟨t3,a6⟩:=yx (q15 (q2t F qe mode X b*p2 (q0V X b-F)*p2 (q0d E-1)) (p2 (1-q0d E)*p2 (F-q0V X b)));rw[<- a6];have a7:=vv c6.o;rw[<- a6] at a7;clear a6;go_wp2_with fail;refine hK.out _ _ ⟨(l.o.below f.o).c0,(l.o.below f.o).c1⟩ (fun a0=>?_);clear hK;refine q0a ?_;by_cases hu:q1Y E F qe mode X b=qe
  focus
   have g0:qf (t3<0)=qe:=k03 (a7.o.2 hu);have a5:qh (q1u E F qe mode X b=5):=vv (by rw[a2.o,if_pos hu]);clear hu;obtain⟨n,p,s⟩:=(l.o.below f.o)
  rotate_left 1
  focus
   have g0:qf (t3<0)=qa:=k00 (fun h=>hu (a7.o.1 h));have a5:qh (q1u E F qe mode X b=1):=vv (by rw[a2.o,if_neg hu]);clear hu;obtain⟨n,p,s⟩:=(l.o.below f.o)
 all_goals
  go_wp2_with fail;refine(f4.o _ (N.o.fs (Fs.of_nil f.o))).mono ?_;rintro e wn ⟨gG,rfl,i0,g1,c⟩;have g2:=vv g1
  try have q:=vv (q.o.below c)
  try have r:=vv (r.o.below c)
  have m:=vv (m.o.below c);have j:=vv (j.o.below c);have i:=f.o.trans (c.mono f.o.size);have f:=vv i;clear c i;obtain⟨wc,rfl⟩:=yx wn;go_wp2_with fail;refine(B.CmpR gY gG _ _ _ _ _ m.o g2.o z.o.1 z.o.2.1 z.o.2.2.1 z.o.2.2.2).mono ?_;rintro e wn ⟨rfl,c⟩
  try have q:=vv (q.o.below c)
  try have r:=vv (r.o.below c)
  have m:=vv (m.o.below c);have j:=vv (j.o.below c);have i:=f.o.trans (c.mono f.o.size);have f:=vv i;clear c i;obtain⟨wc,rfl⟩:=yx wn;obtain⟨t2,a8⟩:=yx (q15 (mant E F qe mode X b*p2 (q0K E X b-F)*p2 (F-q0d E)) ((2^(F+1)-1)*p2 (q0d E-F)*p2 (F-q0K E X b)));rw[<- a8];have a9:=vv c7.o;rw[<- a8] at a9;obtain⟨n,p,s⟩:=(l.o.below f.o);clear a8;by_cases ho:over E F qe mode X b=qe
  ·have g3:qf (0<t2)=qe:=k03 (a9.o.2 ho);have I:=vv (c9.o ho);clear ho;go_wp2_with fail;refine(f6.o _).mono ?_;rintro e wn ⟨rfl,c⟩;have f:=vn f c;clear n p s c;go_wp2;go_ret2;rw[I.o];exact⟨q4C (a1.o _ e6.o) rfl,y.o.trans (f.o.mono y.o.size)⟩
  ·have g3:qf (0<t2)=qa:=k00 (fun h=>ho (a9.o.1 h));have I:=vv (d0.o (by simpa using ho));have e3:=vv (qbr (by simpa using ho));clear ho;go_wp2_with fail;refine(f3.o _ _ m.o e3.o (N.o.fs (Fs.of_nil f.o))).mono ?_;rintro e wn ⟨rfl,c⟩;have f:=vn f c;clear n p s c;go_wp2;go_ret2;rw[I.o.1,a5.o,I.o.2];exact⟨q4C (a1.o _ (e7.o e3.o I.o.1)) rfl,y.o.trans (f.o.mono y.o.size)⟩
abbrev q4w(A:Option qo)(n c:Nat):Value:=.agg #[.slice A n c]
abbrev q2q(neg:Bool)(A:Option qo)(n c:Nat)(B:Option qo)(m d:Nat):Value:=.agg #[.bool neg,.slice A n c,.slice B m d]
abbrev q5s(neg:Bool)(A:Option qo)(n c:Nat)(e:Int):Value:=.agg #[.bool neg,.slice A n c,.int .i64 e]
def q1I(n:Nat)(xs:List Nat):Bool:=qf (n<=16384) && (qf (n=0) || decide (nth xs (n-1)≠0))
theorem May(A:Option qo)(n c:Nat)(xs:List Nat)(w:qi)(hr:Rd w A n c xs):ql qc 142 #[q4w A n c] w fun e w'=>e=.returned (.bool (q1I n xs))/\qd w.heap.size w w':=by
 have i:=hr.sm;rcases k0M 16384 n with h|h
 ·have a:qh (q1I n xs=qa):=vv (by unfold q1I;rw[k00 (by omega)];rfl);clear hr;go_enter func142,ntmps142;go_wp2;go_ret;exact⟨q1L a.o.symm,(qb _ _).alloc lr _⟩
 ·rcases k04 n with d|d
  ·subst d;have a:qh (q1I 0 xs=qe):=vv rfl;clear hr;go_enter func142,ntmps142;go_wp2;go_ret;exact⟨q1L a.o.symm,(qb _ _).alloc lr _⟩
  ·obtain⟨m,rfl⟩:∃m,n=m+1:=⟨n-1,by omega⟩;obtain⟨b,off,rfl,q,g⟩:=hr.cell (by omega);have hx:=g m (by omega);clear g;have a:qh (q1I (m+1) xs=!qf (nth xs m=0)):=vv (by unfold q1I;rw[k03 h,k00 (p:=m+1=0) (by omega)];simp);have hi:(m:Int)+1<=16384:=by omega
   have l:((m:Int)+1==0)=qa:=by rw[k02];omega
   clear hr h d i;by_cases hz:nth xs m=0
   ·have j:(((nth xs m:Nat):Int)==0)=qe:=by rw[hz];rfl
    have k:(((nth xs m:Nat):Int) != 0)=qa:=by rw[hz];rfl
    have f:=vv hz;clear hz;go_enter func142,ntmps142;go_wp2;go_ret;exact⟨q1L (by rw[a.o,f.o];rfl),(qb _ _).alloc lr _⟩
   ·have j:(((nth xs m:Nat):Int)==0)=qa:=by rw[k02];omega
    have k:(((nth xs m:Nat):Int) != 0)=qe:=by rw[k1r];omega
    have f:=vv hz;clear hz;go_enter func142,ntmps142;go_wp2;go_ret;exact⟨q1L (by rw[a.o,k00 f.o];rfl),(qb _ _).alloc lr _⟩
theorem qdQ(A:Option qo)(n c:Nat)(xs:List Nat)(w:qi)(hr:Rd w A n c xs):ql qc 99 #[q4w A n c] w (q1s ((val xs:Nat):Int) w):=by
 have u:=vv hr;clear hr;go_enter func99,ntmps99;obtain⟨b,a⟩:=yx (w.alloc (.cells #[.slice A n c] 88));have d:qd w.heap.size w b:=by rw[a];exact(qb _ w).alloc lr _
 have q:b.cell? ⟨w.heap.size,0,qg⟩=qj (.slice A n c):=by rw[a];simp only[World.cell?];rw[qm];rfl
 have r:w.heap.size<b.heap.size:=by rw[a];simp
 have s:=vv a;obtain⟨h,i⟩:=q5k b;have k:b.heap.size=w.heap.size+1:=by rw[a];simp
 rw[k] at h;have x:=(i.cell (p:=⟨w.heap.size,0,qg⟩) r).trans q;have l:=vv h;have j:=vv (d.trans (i.mono d.size));have y:=d.size;clear a h i d k;go_wp2_with fail;rw[<- s.o];refine(B.SetWords _ 0 0 A n c xs _ l.o (u.o.below j.o rfl)).mono ?_;rintro e z g;have g:=g.f l.o;have t:=vv (g.below j.o j.o.size (by omega));obtain⟨rfl,m,-⟩:=g;have v:=vv m;clear m;go_wp2;go_ret;exact⟨_,rfl,by omega,v.o,t.o⟩
theorem qeP(n b:Int)(w:qi)(h1:-4611686018427387904<=n)(h2:n<=4611686018427387904)(h3:0<=b)(h4:b<=4611686018427387904):ql qc 103 #[.int .i64 n,.int .i64 b] w fun e w'=>e=.returned (.int .i64 (q2Z n (b+1500)))/\w=w':=by go_enter func103,ntmps103;go_wp2;go_ret;exact⟨q0o rfl,rfl⟩
end R5
namespace AB
open Go Go.RowKit
end AB
namespace B
open AB
open Go Go.RowKit
theorem Exp0(g o gx ox gy oy:Nat)(v x:Int)(w:qi)(h:IntAt w g o v)(hx:IntAt w gx ox x)(hy:IntAt w gy oy 0):ql qc 215 #[.pointer (qj ⟨g,o,qg⟩),.pointer (qj ⟨gx,ox,qg⟩),.pointer (qj ⟨gy,oy,qg⟩),.pointer qg] w (q7o g o 1 w):=by
 have q:=vv h;have E:=vv hx;have F:=vv hy;have I:=hy.lt;have b:qh (∀(w:qi) t,qd w.heap.size w (w.alloc (.cells #[.bool qa,.slice qg 0 0] t))):=vv fun w t=>(qb _ w).alloc lr _
 have G:=vv (IntAt.zero w 181);clear h hx hy;go_enter func215,ntmps215;go_wp2_with fail;refine(NewInt 1 _ (by omega) (by omega)).mono ?_;rintro e d ⟨r,rfl,m,i,j⟩;have s:=vv i;have k:=vv ((b.o w 181).trans (j.mono (Below.size (b.o w 181))));have u:=vv (G.o.below j);have J:=i.lt;have K:w.heap.size<r:=by simp at m;omega
 have y:=k.o.size;clear i j m;go_wp2_with fail;have l:=vv (k.o.trans ((b.o d 181).mono k.o.size));have n:=vv (IntAt.zero d 181);refine(Set _ 0 gx ox 0 _ _ n.o (E.o.below l.o)).mono ?_;rintro e N a;have a:=a.f n.o;have c:=vv (a.below l.o (l.o.size) y);have z:=vv ((s.o.below (b.o d 181)).fs1 a.2.2 (by omega));have p:=vv ((u.o.below (b.o d 181)).fs1 a.2.2 (by omega));obtain⟨rfl,-,-⟩:=a;have C:=vv (F.o.below c.o);go_wp2_with fail;refine(Sign gy oy _ _ C.o).mono ?_;rintro e O ⟨rfl,rfl⟩;rw[Int.sign_zero];obtain⟨P,Q,L⟩:=p.o.nil;have M:=p.o.lt;go_wp2_with fail;refine(Set g o r 0 _ _ _ (q.o.below c.o) z.o).mono ?_;rintro e R a;have H:=vv ((a.f (q.o.below c.o)).after c.o);obtain⟨rfl,D,-⟩:=a;go_wp2;go_ret;exact⟨rfl,D,H.o⟩
theorem ExpN(g o gx ox gy oy:Nat)(v:Int)(x y:Nat)(w:qi)(h:IntAt w g o v)(hx:IntAt w gx ox (x:Int))(hy:IntAt w gy oy (y:Int))(hx0:0<x)(hs:Sz (x^y))(hsy:Sz y):ql qc 215 #[.pointer (qj ⟨g,o,qg⟩),.pointer (qj ⟨gx,ox,qg⟩),.pointer (qj ⟨gy,oy,qg⟩),.pointer qg] w (q7o g o ((x^y:Nat):Int) w):=by
 rcases k04 y with rfl|a
 ·exact Exp0 g o gx ox gy oy v x w h hx hy
 ·exact Exp g o gx ox gy oy v x y w h hx hy hx0 a hs hsy
end B
namespace R5
open Go Go.RowKit
theorem q29(h:Rd w A n c (toL N))(hn:n<=16384):q1I n (toL N)=qe:=by
 unfold q1I;rw[k03 hn,Bool.true_and];rcases k04 n with a|a
 ·rw[a];rfl
 ·have b:0<N:=by
   rcases k04 N with e|e
   ·have:=h.words;rw[e,q1v] at this;omega
   ·exact e
  obtain⟨-,e⟩:=bl_words b;rw[h.words] at e;rw[k00 (p:=n=0) (by omega),Bool.false_or,k03 (by omega)]
structure RatioBox(w:qi)(g:Nat)(neg:Bool)(A:Option qo)(n c:Nat)(B:Option qo)(m d:Nat):Prop where
 c0:w.cell? ⟨g,0,qg⟩=qj (.bool neg)
 c1:w.cell? ⟨g,1,qg⟩=qj (.slice A n c)
 c2:w.cell? ⟨g,2,qg⟩=qj (.slice B m d)
 lt:g<w.heap.size
theorem RatioBox.made(w:qi)(neg:Bool)(A:Option qo)(n c:Nat)(B:Option qo)(m d:Nat)(t:TypeId):RatioBox (w.alloc (.cells #[.bool neg,.slice A n c,.slice B m d] t)) w.heap.size neg A n c B m d:=⟨by simp only[World.cell?];rw[qm];rfl,by simp only[World.cell?];rw[qm];rfl,by simp only[World.cell?];rw[qm];rfl,by simp⟩
theorem RatioBox.below{B:Option qo}{d:Nat}(h:RatioBox w g neg A n c B m d)(hb:qd w.heap.size w w'):RatioBox w' g neg A n c B m d:=⟨(hb.cell (p:=⟨g,0,qg⟩) h.lt).trans h.c0,(hb.cell (p:=⟨g,1,qg⟩) h.lt).trans h.c1,(hb.cell (p:=⟨g,2,qg⟩) h.lt).trans h.c2,k01 h.lt hb.size⟩
theorem qdU(neg:Bool)(A:Option qo)(n c:Nat)(B':Option qo)(m d N:Nat)(w:qi)(ha:Rd w A n c (toL N))(hb:Rd w B' m d (toL 1))(hn:n<=16384)(h0:N=0->neg=qa)(hst:Std w):ql qc 147 #[q2q neg A n c B' m d] w fun e w'=>e=.returned (.int .i64 0)/\qd w.heap.size w w':=by
 have hm:m=1:=hb.words.symm;subst hm;obtain⟨w0,D⟩:=yx (w.alloc (.cells #[.bool neg,.slice A n c,.slice B' 1 d] 151));have a1:qd w.heap.size w w0:=by rw[D];exact(qb _ w).alloc lr _
 have k:RatioBox w0 w.heap.size neg A n c B' 1 d:=by rw[D];exact RatioBox.made w _ _ _ _ _ _ _ _
 have b:=vv k;have a:=vv a1;have b0:=vv D;have HA:=vv ha;have c3:=vv hb;have b1:=vv hst;have a2:=q29 ha hn;have a0:q1I 1 (toL 1)=qe:=q29 hb (by omega);have HM:=vv fun w' (h:qd w.heap.size w w')=>May A n c (toL N) w' (ha.below h rfl)
 have a3:=vv fun w' (h:qd w.heap.size w w')=>May B' 1 d (toL 1) w' (hb.below h rfl)
 rw[a2] at HM;rw[a0] at a3;have HI:=vv fun w' (h:qd w.heap.size w w')=>qdQ A n c (toL N) w' (ha.below h rfl)
 have a4:=vv fun w' (h:qd w.heap.size w w')=>qdQ B' 1 d (toL 1) w' (hb.below h rfl)
 rw[q06] at HI a4;have b2:qh (Sz N):=vv (by have h1:=q0l N;rw[ha.words,q2T] at h1;have:=q1g h1;unfold Sz;omega);have v:=k.c0;have H:=k.c1;have I:=k.c2;have E:=k.lt;clear ha hb hn hst a2 a0 D a1 k;go_enter func147,ntmps147;go_wp2_with fail;rw[<- b0.o];refine(HM.o _ a.o).mono ?_;rintro e w1 ⟨rfl,L⟩;have b:=vv (b.o.below L);have a:=vn a L;obtain⟨v,H,I,E⟩:=b.o;clear L;go_wp2_with fail;refine(a3.o _ a.o).mono ?_;rintro e w2 ⟨rfl,M⟩;have b:=vv (b.o.below M);have a:=vn a M;obtain⟨v,H,I,E⟩:=b.o;clear M;go_wp2_with fail;refine(HI.o _ a.o).mono ?_;rintro e w3 ⟨Y,rfl,c4,a5,O⟩;have b:=vv (b.o.below O);have a:=vn a O;have J:=vv a5;obtain⟨v,H,I,E⟩:=b.o;clear O a5;go_wp2_with fail;refine(a4.o _ a.o).mono ?_;rintro e w4 ⟨Z,rfl,c5,a6,F⟩;have b:=vv (b.o.below F);have J:=vv (J.o.below F);have HD:=vv a6;have a:=vn a F;have v:=b.o.c0;have E:=b.o.lt;clear F a6 H I;go_wp2_with fail;refine(B.Sign Y 0 _ _ J.o).mono ?_;rintro e w' ⟨rfl,rfl⟩;have fin:∀l,qd w4.heap.size w4 l->∃K g,K=l.alloc qdH/\g=l.heap.size/\qd w.heap.size w K/\ql qc 212 #[.pointer (qj ⟨g,0,qg⟩),.pointer qg,.pointer qg,.pointer (qj ⟨Y,0,qg⟩),.pointer (qj ⟨Z,0,qg⟩)] K fun e w'=>e=.returned (.pointer (qj ⟨g,0,qg⟩))/\IntAt w' g 0 1/\qd w.heap.size w w':=by
  intro l P;have Q:=a.o.trans (P.mono a.o.size);obtain⟨z1,z2⟩:=q5k l;have G:=Q.trans (z2.mono Q.size);refine⟨_,_,rfl,rfl,G,?_⟩;refine(B.GCD _ 0 Y 0 Z 0 0 _ _ _ _ _ z1 ((J.o.below P).below z2) ((HD.o.below P).below z2) b2.o (by unfold Sz;decide) (b1.o.fs (Fs.of_nil G))).mono ?_;rintro e w' x;have x:=x.f z1;refine⟨x.1,?_,x.below G G.size Q.size⟩;have:=x.2.1
  rwa [show((1:Nat):Int).natAbs=1 from rfl,k2o] at this
 have a7:=vv fin;have HC:qh (q4y 1 1=0):=vv rfl;clear fin;rcases k04 N with y|y
 ·have z:((N:Nat):Int).sign=0:=by rw[y];rfl
  rw[z];rw[h0 y] at v;clear z y h0;go_wp2_with fail;refine(B.NewInt 1 _ (by omega) (by omega)).mono ?_;rintro e l ⟨g5,rfl,c6,a8,R⟩;have b3:=vv a8;have b4:=vv (HD.o.below R);have b5:=vv R;clear a8 R;go_wp2_with fail;refine(B.Cmp Z 0 g5 0 _ _ _ b4.o b3.o).mono ?_;rintro e K ⟨rfl,a9⟩;rw[show q4y ((1:Nat):Int) 1=0 from rfl];have b6:=vn b5 a9;clear a9;obtain⟨w7,g,p,q,b7,C⟩:=a7.o _ b6.o;have S:=vv p;have T:=vv q;have HG:=vv C;clear p q C;go_wp2_with fail;rw[<- S.o,<- T.o];refine HG.o.mono ?_;rintro e w8 ⟨rfl,r,s⟩;have i:=vv r;have U:=vv s;clear r s;go_wp2_with fail;refine(B.NewInt 1 _ (by omega) (by omega)).mono ?_;rintro e w9 ⟨g9,rfl,b8,t,j⟩;have V:=vv t;have i:=vv (i.o.below j);have W:=vn U j;clear t j;go_wp2_with fail;refine(B.Cmp g 0 g9 0 _ _ _ i.o V.o).mono ?_;rintro e b9 ⟨rfl,u⟩;rw[HC.o];have X:=vn W u;clear u;go_wp2;go_ret;exact⟨rfl,X.o⟩
 ·have z:((N:Nat):Int).sign=1:=k0G (by omega);rw[z];clear z y h0;obtain⟨w7,g,p,q,b7,C⟩:=a7.o _ (qb _ _);have S:=vv p;have T:=vv q;have HG:=vv C;clear p q C;go_wp2_with fail;rw[<- S.o,<- T.o];refine HG.o.mono ?_;rintro e w8 ⟨rfl,r,s⟩;have i:=vv r;have U:=vv s;clear r s;go_wp2_with fail;refine(B.NewInt 1 _ (by omega) (by omega)).mono ?_;rintro e w9 ⟨g9,rfl,b8,t,j⟩;have V:=vv t;have i:=vv (i.o.below j);have W:=vn U j;clear t j;go_wp2_with fail;refine(B.Cmp g 0 g9 0 _ _ _ i.o V.o).mono ?_;rintro e b9 ⟨rfl,u⟩;rw[HC.o];have X:=vn W u;clear u;go_wp2;go_ret;exact⟨rfl,X.o⟩
theorem qfg(neg:Bool)(A:Option qo)(n c:Nat)(B':Option qo)(m d N:Nat)(w:qi)(ha:Rd w A n c (toL N))(hb:Rd w B' m d (toL 1))(hN:Sz N)(hst:Std w):ql qc 149 #[q2q neg A n c B' m d] w (q1z (sg neg N) 1 w):=by
 obtain⟨w0,F⟩:=yx (w.alloc (.cells #[.bool neg,.slice A n c,.slice B' m d] 151));have Z:qd w.heap.size w w0:=by rw[F];exact(qb _ w).alloc lr _
 have x:RatioBox w0 w.heap.size neg A n c B' m d:=by rw[F];exact RatioBox.made w _ _ _ _ _ _ _ _
 have i:=vv x;have t:=vv Z;have a5:=vv F;have a6:=vv hst;have a7:=vv hN;have HI:=vv fun j (h:qd w.heap.size w j)=>qdQ A n c (toL N) j (ha.below h rfl)
 have H:=vv fun j (h:qd w.heap.size w j)=>qdQ B' m d (toL 1) j (hb.below h rfl)
 rw[q06] at HI H;have U:=x.c0;have f1:=x.c1;have I:=x.lt;clear ha hb hst F Z x hN;go_enter func149,ntmps149;go_wp2_with fail;rw[<- a5.o];refine(HI.o _ t.o).mono ?_;rintro e w1 ⟨k,rfl,b4,a2,J⟩;have i:=vv (i.o.below J);have t:=vn t J;have G:=vv a2;have b5:=t.o.size;have b3:w.heap.size<k:=by omega
 clear J a2 U f1 I;have U:=i.o.c0;have I:=i.o.lt;have fin:∀wc,qd w.heap.size w wc->RatioBox wc w.heap.size neg A n c B' m d->IntAt wc k 0 (sg neg N) ->∃a b,a=wc.alloc q28/\b=wc.heap.size/\RatAt a b 0 1/\IntAt a k 0 (sg neg N)/\RatioBox a w.heap.size neg A n c B' m d/\qd w.heap.size w a/\w.heap.size<=b:=by intro wc hb hx hi;obtain⟨z1,V⟩:=q0y wc;exact⟨_,_,rfl,rfl,z1,hi.below V,hx.below V,hb.trans (V.mono hb.size),hb.size⟩
 have a3:=vv fin;have a0:∀a b,RatAt a b 0 1->IntAt a k 0 (sg neg N)->qd w.heap.size w a->w.heap.size<=b->∀l p,qd a.heap.size a l->IntAt l p 0 ((1:Nat):Int) ->ql qc 218 #[.pointer (qj ⟨b,0,qg⟩),.pointer (qj ⟨k,0,qg⟩),.pointer (qj ⟨p,0,qg⟩)] l fun e j=>e=.returned (.pointer (qj ⟨b,0,qg⟩))/\RatAt j b (sg neg N) 1/\qd w.heap.size w j:=by intro a b u hi hb v l p K a8;have L:=hb.trans (K.mono hb.size);refine(B.SetFrac b k p (sg neg N) 1 l (u.below K).sh (hi.below K) a8 (by omega) (a6.o.fs (Fs.of_nil L)) (by rw[q1t];exact a7.o) (by unfold Sz;decide)).mono ?_;rintro e j g;exact⟨g.1,g.2.1,g.below L L.size v⟩
 have a1:=vv a0;clear fin a0;cases neg
 ·obtain⟨a,b,r,y,u,hi,hx,hb,v⟩:=a3.o w1 t.o i.o G.o;have W:=hx.c2;have M:=hx.lt;rw[r] at W M;have O:=vv r;have P:=vv y;have X:=vv u;have Q:=vv hi;have a9:=vv hx;have s:=vv hb;clear r y u hi hx hb;go_wp2_with fail;rw[<- O.o,<- P.o];refine(H.o _ s.o).mono ?_;rintro e l ⟨p,rfl,b0,z,C⟩;have R:=vv z;have S:=vv C;clear z C;go_wp2_with fail;refine(a1.o a b X.o Q.o s.o v l p S.o R.o).mono ?_;rintro e w4 ⟨rfl,E,D⟩;have Y:=vv E;have T:=vv D;clear E D;go_wp2;go_ret;exact⟨_,rfl,v,Y.o,T.o⟩
 ·go_wp2_with fail;refine(B.Neg k 0 k 0 _ _ _ G.o G.o).mono ?_;rintro e a g;have g:=g.f G.o;have a4:RatioBox a w.heap.size qe A n c B' m d:=⟨(g.2.2.cell w.heap.size 0 i.o.lt fun q hq e=>by rw[k0j.1 hq] at e;simp only at e;omega).trans i.o.c0,(g.2.2.cell w.heap.size 1 i.o.lt fun q hq e=>by rw[k0j.1 hq] at e;simp only at e;omega).trans i.o.c1,(g.2.2.cell w.heap.size 2 i.o.lt fun q hq e=>by rw[k0j.1 hq] at e;simp only at e;omega).trans i.o.c2,k01 i.o.lt g.2.2.size⟩;have b1:=vv a4;have b2:qh (IntAt a k 0 (sg qe N)):=vv g.2.1;have s:=vv (g.below t.o t.o.size (by omega));obtain⟨rfl,-,-⟩:=g;clear a4 U I;obtain⟨b6,b,r,y,u,hi,hx,hb,v⟩:=a3.o a s.o b1.o b2.o;have W:=hx.c2;have M:=hx.lt;rw[r] at W M;have O:=vv r;have P:=vv y;have X:=vv u;have Q:=vv hi;have a9:=vv hx;have s:=vv hb;clear r y u hi hx hb;go_wp2_with fail;rw[<- O.o,<- P.o];refine(H.o _ s.o).mono ?_;rintro e l ⟨p,rfl,b0,z,C⟩;have R:=vv z;have S:=vv C;clear z C;go_wp2_with fail;refine(a1.o _ b X.o Q.o s.o v l p S.o R.o).mono ?_;rintro e w4 ⟨rfl,E,D⟩;have Y:=vv E;have T:=vv D;clear E D;go_wp2;go_ret;exact⟨_,rfl,v,Y.o,T.o⟩
theorem q5K(k:Nat):bl (10^k)<=4*k+1:=q1g (by
 have h1:(10:Nat)^k<=16^k:=k2w (by omega) k;have h2:(16:Nat)^k=2^(4*k):=by rw[k18]
 rw[k0f];have:=k0m (4*k);omega)
theorem qff(gx:Nat)(p n K:Int)(w:qi)(hx:RatAt w gx p 1)(hp:bl p.natAbs<=16777216)(hn1:-4611686018427387904<=n)(hn2:n<=4611686018427387904)(hK:K=q2Z n (bl p.natAbs+1+1500))(hst:Std w):ql qc 148 #[.pointer (qj ⟨gx,0,qg⟩),.int .i64 n] w (q1z (p*(t10 K:Nat)) (t10 (-K)) w):=by
 have s:-16778717<=K/\K<=16778717:=by rw[hK];unfold q2Z;omega
 have e1:=qbq p;have e2:=qdE p;have HN:=vv fun f (hw:qd w.heap.size w f)=>B.Num gx _ _ f (hx.below hw)
 have HD:=vv fun f (hw:qd w.heap.size w f)=>B.Denom gx _ _ f (hx.below hw)
 rw[e1] at HN;rw[e2] at HD;have HX:=vv hx;have G:=vv hst;have H:=vv fun w=>qeP n ((bl p.natAbs:Int)+1) w hn1 hn2 (by omega) (by omega)
 rw[<- hK] at H;obtain⟨k,hk⟩:∃k:Nat,k=K.natAbs:=⟨_,rfl⟩;have c3:max K (-K)=(k:Int):=by omega
 have a5:k<=16778717:=by omega
 have a6:=q5K k;have c:qh (Sz (10^k)/\Sz k/\Sz p.natAbs/\Sz 1):=vv ⟨by unfold Sz;omega,Sz.small (by omega),by unfold Sz;omega,by unfold Sz;decide⟩;have c4:(k:Int)<=16778717:=by omega
 have c5:=vv hk;have c6:=s.1;have c7:=s.2;have c8:(bl p.natAbs:Int)<=16777216:=by omega
 have a0:qh (0<=K->K=k):=vv (by omega);have a3:qh (K<0->K = -(k:Int)):=vv (by omega);clear hx hst hK s e1 e2 hk hp a6 a5 hn1 hn2;go_enter func148,ntmps148;go_wp2_with fail;refine(HN.o _ (qb _ _)).mono ?_;rintro e w1 ⟨g1,rfl,c9,I,J⟩;have a7:=vv I;have L:=vv J;clear I J;go_wp2_with fail;refine(B.BitLen g1 0 _ _ a7.o).mono ?_;rintro e f ⟨rfl,rfl⟩;go_wp2_with fail;refine(HD.o _ L.o).mono ?_;rintro e a ⟨g2,rfl,d0,M,N⟩;have a8:=vv M;have O:=vn L N;clear M N;go_wp2_with fail;refine(B.BitLen g2 0 _ _ a8.o).mono ?_;rintro e f ⟨rfl,rfl⟩;rw[show bl ((1:Nat):Int).natAbs=1 from rfl];go_wp2_with fail;refine(H.o _).mono ?_;rintro e f ⟨rfl,rfl⟩;have a9:=O.o.size;obtain⟨i,g⟩:=q0y a;obtain⟨y,z⟩:=q5k (a.alloc q28);have P:(a.alloc q28).heap.size=a.heap.size+1:=by simp
 rw[P] at y;obtain⟨C,l⟩:=yx ((a.alloc q28).alloc qdH);have Q:qd a.heap.size a C:=by rw[l];exact g.trans (z.mono g.size)
 have b0:qh (RatAt C a.heap.size 0 1):=vv (by rw[l];exact i.below z);have b1:qh (IntAt C (a.heap.size+1) 0 0):=vv (by rw[l];exact y);have b2:=vn O Q;have b3:=vv l;clear i g y z P l Q;go_wp2_with fail;rw[<- b3.o];refine(B.NewInt 10 _ (by omega) (by omega)).mono ?_;rintro e w4 ⟨g4,rfl,d1,R,r⟩;have t:=vv R;have b4:=vv (b0.o.below r);have b5:=vv (b1.o.below r);have b6:=vn b2 r;clear R r;go_wp2_with fail;refine(B.NewInt (k:Int) _ (by omega) (by omega)).mono ?_;rintro e w5 ⟨g5,rfl,d2,S,m⟩;have b7:=vv S;have t:=vv (t.o.below m);have b8:=vv (b4.o.below m);have b9:=vv (b5.o.below m);have T:=vn b6 m;clear S m;go_wp2_with fail;refine(B.ExpN (a.heap.size+1) 0 g4 0 g5 0 0 10 k _ b9.o t.o b7.o (by omega) c.o.1 c.o.2.1).mono ?_;rintro e w6 b;have c0:=vv (b8.o.fs1 b.2.2 (by omega));have c1:=vv b.2.1;have U:=vv (b.below T.o T.o.size (by omega));obtain⟨rfl,-,-⟩:=b;go_wp2_with fail;refine(B.SetInt a.heap.size (a.heap.size+1) _ _ c0.o.sh c1.o).mono ?_;rintro e j b;have V:=vv (b.below U.o U.o.size a9);obtain⟨rfl,W,-⟩:=b;have c2:=vv W;have X:=V.o.size;clear W;obtain⟨i,g⟩:=q0y j;obtain⟨w8,u⟩:=yx (j.alloc q28);rw[<- u] at i g;have Y:=vv i;have Z:=vv (c2.o.below g);have d:=vn V g;have a4:=vv u;clear i g u;by_cases hk0:K<0
 ·have hd:qf (K<0)=qe:=k03 hk0;have q:=vv (a3.o hk0);clear hk0;go_wp2_with fail;rw[<- a4.o];refine(B.QuoR j.heap.size gx a.heap.size p (10^k) 1 1 _ Y.o.sh (HX.o.below d.o) Z.o (k1I (by omega)) (G.o.fs (Fs.of_nil d.o)) c.o.2.2.1 c.o.2.2.2 c.o.1 c.o.2.2.2).mono ?_;rintro e D b;have v:=vv (b.below d.o d.o.size X);obtain⟨rfl,h,-⟩:=b;have x:qh (RatAt D j.heap.size (p*(t10 K:Nat)) (t10 (-K))):=vv (by
   have E:t10 K=1:=by unfold t10;rw[show K.toNat=0 by have:=q.o;omega]
   have F:t10 (-K)=10^k:=by unfold t10;congr 1;have:=q.o;omega
   rw[E,F];rw[k0N] at h;exact h)
  clear h;go_wp2;go_ret;exact⟨_,rfl,by omega,x.o,v.o⟩
 ·have hd:qf (K<0)=qa:=k00 hk0;have q:=vv (a0.o (by omega));clear hk0;go_wp2_with fail;rw[<- a4.o];refine(B.MulR j.heap.size gx a.heap.size p ((10^k:Nat):Int) 1 1 _ Y.o.sh (HX.o.below d.o) Z.o (G.o.fs (Fs.of_nil d.o)) c.o.2.2.1 c.o.2.2.2 (by exact c.o.1) c.o.2.2.2).mono ?_;rintro e D b;have v:=vv (b.below d.o d.o.size X);obtain⟨rfl,h,-⟩:=b;have x:qh (RatAt D j.heap.size (p*(t10 K:Nat)) (t10 (-K))):=vv (by
   have E:t10 (-K)=1:=by unfold t10;rw[show(-K).toNat=0 by have:=q.o;omega]
   have F:t10 K=10^k:=by unfold t10;congr 1;have:=q.o;omega
   rw[E,F];exact h)
  clear h;go_wp2;go_ret;exact⟨_,rfl,by omega,x.o,v.o⟩
def q1B(o:Nat × Nat)(w:qi)(e:Ending)(w':qi):Prop:=e=.returned (.tuple #[.int .u64 (o.1:Int),.int .u8 (o.2:Int),.int .i64 0])/\qd w.heap.size w w'
def q0i(E F:Nat)(below neg:Bool)(mode a b:Nat):Nat × Nat:=
 if a=0 then(sgb E F neg,0) else(sgb E F below+(out E F below mode a b).1,(out E F below mode a b).2)
theorem qeL(gx E F a b:Nat)(below neg:Bool)(mode:Nat)(w:qi)(h1:2<=E)(h2:E<=11)(h3:1<=F)(h4:F<=52)(hx:RatAt w gx (sg below a) b)(sX:bl a<=1073741824)(sb:bl b<=1073741824)(hst:Std w)(hm:mode<=4):ql qc 106 #[fm E F,.pointer (qj ⟨gx,0,qg⟩),.bool neg,.int .u8 (mode:Int)] w (q6d 0 (q0i E F below neg mode a b) w):=by
 rcases k04 a with d|d
 ·subst d;have g:sg below 0=0:=by cases below<;>rfl
  rw[g] at hx;refine(qbe gx b E F neg mode w h1 h2 h3 h4 hx).mono ?_;rintro e f ⟨rfl,c⟩;exact⟨by simp [q0i],c⟩
 ·have h:q0i E F below neg mode a b=(sgb E F below+(out E F below mode a b).1,(out E F below mode a b).2):=if_neg (by omega);rw[h];cases below
  ·refine(qcN gx b E F a neg mode w h1 h2 h3 h4 hx d sX sb hst hm).mono ?_;rintro e f ⟨rfl,c⟩;exact⟨by simp,c⟩
  ·refine(qcO gx b E F a neg mode w h1 h2 h3 h4 hx d sX sb hst hm).mono ?_;rintro e f ⟨rfl,c⟩;exact⟨by simp,c⟩
theorem q3V{below:Bool}(c n:Int)(h1:2<=E)(h2:E<=11)(h3:1<=F)(h4:F<=52)(hc:1200<=c):q0i E F below neg mode (N*t10 (q2Z n (bl N+1+c))) (t10 (-q2Z n (bl N+1+c)))=q0i E F below neg mode (N*t10 n) (t10 (-n)):=by
 rcases k04 N with d|d
 ·subst d;simp [q0i]
 ·have k:=q8Y (E:=E) (F:=F) (neg:=below) (mode:=mode) (a:=N) (b:=1) c n h1 h2 h3 h4 d (by omega) hc;rw[k0N,k0N,show bl 1=1 from rfl] at k;have f:=k0w d (q3T (q2Z n (bl N+1+c)));have p2:=k0w d (q3T n);unfold q0i;rw[if_neg (by omega),if_neg (by omega)];have e:out E F below mode (N*t10 (q2Z n (bl N+1+c))) (t10 (-q2Z n (bl N+1+c)))=out E F below mode (N*t10 n) (t10 (-n)):=k;rw[e]
theorem q3p{below:Bool}(c n:Int)(h1:2<=E)(h2:E<=11)(h3:1<=F)(h4:F<=52)(hc:1200<=c):q0i E F below neg mode (N*p2 (q2Z n (bl N+c))) (p2 (-q2Z n (bl N+c)))=q0i E F below neg mode (N*p2 n) (p2 (-n)):=by
 rcases k04 N with b|b
 ·subst b;simp [q0i]
 ·have k:=q8X (E:=E) (F:=F) (neg:=below) (mode:=mode) (a:=N) c n h1 h2 h3 h4 b hc;have d:=k0w b (q0r (q2Z n (bl N+c)));have e:=k0w b (q0r n);unfold q0i;rw[if_neg (by omega),if_neg (by omega),k]
theorem q9U(E F:Nat)(below neg:Bool)(mode:Nat)(A:Option qo)(n c:Nat)(B':Option qo)(m d N:Nat)(x:Int)(w:qi)(h1:2<=E)(h2:E<=11)(h3:1<=F)(h4:F<=52)(hm:mode<=4)
  (ha:Rd w A n c (toL N)) (hb:Rd w B' m d (toL 1)) (hn:n<=16384) (h0:N=0->below=qa) (hx1:-4611686018427387904<=x) (hx2:x<=4611686018427387904) (hst:Std w) :
  ql qc 97 #[fm E F,q2q below A n c B' m d,.int .i64 x,.bool neg,.int .u8 (mode:Int)] w (q1B (q0i E F below neg mode (N*t10 x) (t10 (-x))) w):=by
 have W:bl N<=524288:=by have O:=q0l N;rw[ha.words,q2T] at O;have:=q1g O;omega
 obtain⟨k,p⟩:=yx (w.alloc (.cells #[.int .i64 (E:Int),.int .i64 (F:Int)] 23));obtain⟨r,s⟩:=yx (k.alloc (.cells #[.bool below,.slice A n c,.slice B' m d] 151));have C:qd w.heap.size w k:=by rw[p];exact(qb _ w).alloc lr _
 have D:qd k.heap.size k r:=by rw[s];exact(qb _ k).alloc lr _
 have H:k.heap.size=w.heap.size+1:=by rw[p];simp
 have q:FmAt r w.heap.size E F:=(show FmAt k w.heap.size E F by rw[p];exact FmAt.made w _ _ _).below D;have l:RatioBox r (w.heap.size+1) below A n c B' m d:=by rw[<- H,s];exact RatioBox.made k _ _ _ _ _ _ _ _
 have P:qd w.heap.size w r:=C.trans (D.mono C.size);have b:=vv q;have a:=vv l;have f:=vv P;have X:qh (r=(w.alloc (.cells #[.int .i64 (E:Int),.int .i64 (F:Int)] 23)).alloc (.cells #[.bool below,.slice A n c,.slice B' m d] 151)):=vv (by rw[s,p]);have I:=vv hst;have Y:=vv fun w=>qeT E F w h1 h2 h3 h4
 have Z:=vv fun w' (h:qd w.heap.size w w')=>qdU below A n c B' m d N w' (ha.below h rfl) (hb.below h rfl) hn h0 (hst.fs (Fs.of_nil h))
 have a0:=vv fun w' (h:qd w.heap.size w w')=>qfg below A n c B' m d N w' (ha.below h rfl) (hb.below h rfl) (by unfold Sz;omega) (hst.fs (Fs.of_nil h))
 obtain⟨K,i⟩:=yx (q2Z x (bl N+1+1500));have a1:=vv fun g w' (hg:RatAt w' g (sg below N) 1) (hs:Std w')=>qff g (sg below N) x K w' hg (by rw[q1t];omega) hx1 hx2 (by rw[q1t];exact i) hs
 have a2:-16778717<=K/\K<=16778717:=by rw[i];unfold q2Z;omega
 have a3:=q5K K.toNat;have a4:=q5K (-K).toNat;have J:=q0D N (t10 K);have a5:qh (sg below N*((t10 K:Nat):Int)=sg below (N*t10 K)):=vv (by
  cases below
  ·show(N:Int)*_=((N*t10 K:Nat):Int);rw[k0a]
  ·show -(N:Int)*_ = -((N*t10 K:Nat):Int);rw[k0a,k16])
 have a6:=vv fun g w' (hg:RatAt w' g (sg below (N*t10 K)) (t10 (-K))) (hs:Std w')=>qeL g E F (N*t10 K) (t10 (-K)) below neg mode w' h1 h2 h3 h4 hg (by unfold t10 at J ⊢;omega) (by unfold t10;omega) hs hm
 have Q:=vv (q3V (E:=E) (F:=F) (N:=N) (below:=below) (neg:=neg) (mode:=mode) 1500 x h1 h2 h3 h4 (by omega));rw[<- i] at Q;have b0:(mode:Int)<=4:=by omega
 have f0:=q.c0;have f1:=q.c1;have R:=l.c0;have S:=l.c1;have T:=l.c2;have l0:=q.lt;have U:=l.lt;clear ha hb hn h0 hx1 hx2 hst W p s C D H q l P i a2 a3 a4 J h1 h2 hm;go_enter func97,ntmps97;go_wp2_with fail;rw[<- X.o];refine(Y.o _).mono ?_;rintro e w2 ⟨rfl,t⟩;have b:=vv (b.o.below t);have a:=vv (a.o.below t);have f:=vn f t;obtain⟨R,S,T,U⟩:=a.o;clear t f0 f1 l0;go_wp2_with fail;refine(Z.o _ f.o).mono ?_;rintro e V ⟨rfl,u⟩;have b:=vv (b.o.below u);have a:=vv (a.o.below u);have f:=vn f u;clear u R S T U;go_wp2_with fail;refine q02 (fun w'=>w'.cell? ⟨w.heap.size,0,qg⟩=qj (.int .i64 (E:Int))/\w'.cell? ⟨w.heap.size,1,qg⟩=qj (.int .i64 (F:Int))/\w'.cell? ⟨w.heap.size+1,0,qg⟩=qj (.bool below)/\w'.cell? ⟨w.heap.size+1,1,qg⟩=qj (.slice A n c)/\w'.cell? ⟨w.heap.size+1,2,qg⟩=qj (.slice B' m d)) 13
  (.still 0 (.still 1 (.still 3 (.still 5 (.still 6 (.one 2 (.one 4 (.one 7 (.still 8 (.still 9 (.still 10 (.still 11 (.still 12 .done))))))))))))) (by kernel_rfl) (by kernel_rfl) (fun _ _ d _ _ h=>by cases d<;>exact h) ⟨b.o.c0,b.o.c1,a.o.c0,a.o.c1,a.o.c2⟩ (fun hS0=>?_)
 iterate 5
  refine q01 (v:=?_) rfl (by rfl) ?_ ?_;rotate_left
  ·intro w a7;go_simp;with_reducible rfl
  simp only[Act.put,sa,sb,sc]
 refine q04 rfl (by rfl) (fun K i=>?_);go_simp;refine(a0.o _ (q07 f.o)).mono ?_;rintro e w4 ⟨g4,rfl,b1,L,j⟩;have j:qd V.heap.size V w4:=⟨j.os,j.tape,j.output,j.size,j.block⟩;have a8:=vv L;have b:=vv (b.o.below j);have a:=vv (a.o.below j);have f:=vn f j;clear L j;go_wp2_with fail;refine i.out _ _ ⟨b.o.c0,b.o.c1,a.o.c0,a.o.c1,a.o.c2⟩ (fun M=>?_);clear i;refine q04 rfl (by rfl) (fun K i=>?_);go_simp;refine(a1.o g4 _ a8.o (I.o.fs (Fs.of_nil f.o))).mono ?_;rintro e w5 ⟨g5,rfl,b2,G,y⟩;rw[a5.o] at G;have a9:=vv G;have b:=vv (b.o.below y);have a:=vv (a.o.below y);have f:=vn f y;clear G y;go_wp2_with fail;refine i.out _ _ ⟨b.o.c0,b.o.c1,a.o.c0,a.o.c1,a.o.c2⟩ (fun M=>?_);clear i;refine q04 rfl (by rfl) (fun K i=>?_);go_simp;refine(a6.o g5 _ a9.o (I.o.fs (Fs.of_nil f.o))).mono ?_;rintro e w6 ⟨rfl,z⟩;rw[Q.o];have b:=vv (b.o.below z);have a:=vv (a.o.below z);have f:=vn f z;clear z;go_wp2_with fail;refine i.out _ _ ⟨b.o.c0,b.o.c1,a.o.c0,a.o.c1,a.o.c2⟩ (fun M=>?_);clear i
 iterate 5
  refine q01 (v:=?_) rfl (by rfl) ?_ ?_;rotate_left
  ·intro w a7;go_simp;with_reducible rfl
  simp only[Act.put,sa,sb,sc]
 refine q0Z rfl ?_;go_wp2;go_ret3;exact⟨by simp,f.o⟩
def twoOk(neg:Bool)(n:Nat)(xs:List Nat)(e:Int):Bool:=
 q1I n xs && qf (e<=1073741824) && qf (-1073741824<=e) && (if n=0 then qf (e=0) && !neg else qf (nth xs 0%2=1))
structure DyadBox(w:qi)(g:Nat)(neg:Bool)(A:Option qo)(n c:Nat)(e:Int):Prop where
 c0:w.cell? ⟨g,0,qg⟩=qj (.bool neg)
 c1:w.cell? ⟨g,1,qg⟩=qj (.slice A n c)
 c2:w.cell? ⟨g,2,qg⟩=qj (.int .i64 e)
 lt:g<w.heap.size
theorem DyadBox.made(w:qi)(neg:Bool)(A:Option qo)(n c:Nat)(e:Int)(t:TypeId):DyadBox (w.alloc (.cells #[.bool neg,.slice A n c,.int .i64 e] t)) w.heap.size neg A n c e:=⟨by simp only[World.cell?];rw[qm];rfl,by simp only[World.cell?];rw[qm];rfl,by simp only[World.cell?];rw[qm];rfl,by simp⟩
theorem DyadBox.below{e:Int}(h:DyadBox w g neg A n c e)(hb:qd w.heap.size w w'):DyadBox w' g neg A n c e:=⟨(hb.cell (p:=⟨g,0,qg⟩) h.lt).trans h.c0,(hb.cell (p:=⟨g,1,qg⟩) h.lt).trans h.c1,(hb.cell (p:=⟨g,2,qg⟩) h.lt).trans h.c2,k01 h.lt hb.size⟩
theorem qc4(x:Nat)(h:x<4294967296):(((x:Nat):Int)%2==1)=qf (x%2=1):=by
 rcases k1P x with e|e
 ·have:((x:Nat):Int)%2=0:=by omega
  rw[this,e];rfl
 ·have:((x:Nat):Int)%2=1:=by omega
  rw[this,e];rfl
theorem Two(neg:Bool)(A:Option qo)(n c:Nat)(xs:List Nat)(x:Int)(w:qi)(hr:Rd w A n c xs):ql qc 93 #[q5s neg A n c x] w fun e w'=>e=.returned (.bool (twoOk neg n xs x))/\qd w.heap.size w w':=by
 obtain⟨y,k⟩:=yx (w.alloc (.cells #[.bool neg,.slice A n c,.int .i64 x] 90));have t:qd w.heap.size w y:=by rw[k];exact(qb _ w).alloc lr _
 have f:DyadBox y w.heap.size neg A n c x:=by rw[k];exact DyadBox.made w _ _ _ _ _ _
 have r:=vv f;have a:=vv t;have u:=vv k;have z:=vv fun w' (h:qd w.heap.size w w')=>hr.below h rfl
 have l:=vv fun w' (h:qd w.heap.size w w')=>May A n c xs w' (hr.below h rfl)
 have M:=hr.sm;have H:=f.c0;have I:=f.c1;have J:=f.c2;have E:=f.lt;clear hr k t f;by_cases hok:q1I n xs=qe
 ·rw[hok] at l;have F:=vv hok;clear hok;go_enter func93,ntmps93;go_wp2_with fail;rw[<- u.o];refine(l.o _ a.o).mono ?_;rintro e K ⟨rfl,g⟩;have r:=vv (r.o.below g);have a:=vn a g;obtain⟨H,I,J,E⟩:=r.o;clear g;by_cases hx1:1073741824<x
  ·have d:qh (twoOk neg n xs x=qa):=vv (by unfold twoOk;rw[k00 (p:=x<=1073741824) (by omega)];simp);have s:qf (1073741824<x)=qe:=k03 hx1;clear hx1;go_wp2;go_ret;exact⟨q1L d.o.symm,a.o⟩
  by_cases hx2:x < -1073741824
  ·have d:qh (twoOk neg n xs x=qa):=vv (by unfold twoOk;rw[k00 (p:=-1073741824<=x) (by omega)];simp);have s:qf (1073741824<x)=qa:=k00 hx1;have v:qf (x < -1073741824)=qe:=k03 hx2;clear hx1 hx2;go_wp2;go_ret;exact⟨q1L d.o.symm,a.o⟩
  have d:qh (twoOk neg n xs x=if n=0 then qf (x=0) && !neg else qf (nth xs 0%2=1)):=vv (by unfold twoOk;rw[F.o,k03 (p:=x<=1073741824) (by omega),k03 (p:=-1073741824<=x) (by omega)];rfl);have s:qf (1073741824<x)=qa:=k00 hx1;have v:qf (x < -1073741824)=qa:=k00 hx2;clear hx1 hx2;rcases k04 n with m|m
  ·subst m;by_cases i:x=0
   ·subst i;have j:qh (twoOk neg 0 xs 0=!neg):=vv (by rw[d.o];simp);clear s v;go_wp2;go_ret;exact⟨q1L j.o.symm,a.o⟩
   ·have j:qh (twoOk neg 0 xs x=qa):=vv (by rw[d.o];simp [i]);have L:(x==0)=qa:=by rw[k02];exact i
    clear i;go_wp2;go_ret;exact⟨q1L j.o.symm,a.o⟩
  ·have L:((n:Int)==0)=qa:=by rw[k02];omega
   obtain⟨b,off,rfl,O,C⟩:=(z.o _ a.o).cell m;have i:=C 0 m;rw[k0S] at i;have D:=(z.o _ a.o).nth_lt 0;have G:=vv (qc4 _ D);have j:qh (twoOk neg n xs x=qf (nth xs 0%2=1)):=vv (by rw[d.o,if_neg (by omega)]);have N:(0:Int)<(n:Int):=by omega
   clear C D;go_wp2;go_ret;exact⟨q1L (by rw[j.o];exact G.o),a.o⟩
 ·have q:q1I n xs=qa:=by simpa using hok
  rw[q] at l;have d:qh (twoOk neg n xs x=qa):=vv (by unfold twoOk;rw[q];rfl);clear hok q;go_enter func93,ntmps93;go_wp2_with fail;rw[<- u.o];refine(l.o _ a.o).mono ?_;rintro e K ⟨rfl,g⟩;have a:=vn a g;clear g;go_wp2;go_ret;exact⟨q1L d.o.symm,a.o⟩
theorem Dyadic(E F:Nat)(below neg:Bool)(mode:Nat)(A:Option qo)(n c N:Nat)(x:Int)(w:qi)(h1:2<=E)(h2:E<=11)(h3:1<=F)(h4:F<=52)(hm:mode<=4)
  (ha:Rd w A n c (toL N)) (hn:n<=16384) (hok:twoOk below n (toL N) x=qe) (hx1:-4611686018427387904<=x) (hx2:x<=4611686018427387904) (hst:Std w) :
  ql qc 63 #[fm E F,q5s below A n c x,.bool neg,.int .u8 (mode:Int)] w (q1B (q0i E F below neg mode (N*p2 x) (p2 (-x))) w):=by
 have c6:bl N<=524288:=by have k1:=q0l N;rw[ha.words,q2T] at k1;have:=q1g k1;omega
 obtain⟨T,a1⟩:=yx (w.alloc (.cells #[.int .i64 (E:Int),.int .i64 (F:Int)] 23));obtain⟨w1,a8⟩:=yx (T.alloc (.cells #[.bool below,.slice A n c,.int .i64 x] 90));have b4:qd w.heap.size w T:=by rw[a1];exact(qb _ w).alloc lr _
 have b5:qd T.heap.size T w1:=by rw[a8];exact(qb _ T).alloc lr _
 have b8:T.heap.size=w.heap.size+1:=by rw[a1];simp
 have a2:FmAt w1 w.heap.size E F:=(show FmAt T w.heap.size E F by rw[a1];exact FmAt.made w _ _ _).below b5;have V:DyadBox w1 (w.heap.size+1) below A n c x:=by rw[<- b8,a8];exact DyadBox.made T _ _ _ _ _ _
 have Z:qd w.heap.size w w1:=b4.trans (b5.mono b4.size);have R:=vv a2;have P:=vv V;have b:=vv Z;have c7:qh (w1=(w.alloc (.cells #[.int .i64 (E:Int),.int .i64 (F:Int)] 23)).alloc (.cells #[.bool below,.slice A n c,.int .i64 x] 90)):=vv (by rw[a8,a1]);have b6:=vv hst;have c8:=vv fun w=>qeT E F w h1 h2 h3 h4
 have b9:=vv fun C (h:qd w.heap.size w C)=>Two below A n c (toL N) x C (ha.below h rfl)
 rw[hok] at b9;have c3:=vv fun C (h:qd w.heap.size w C)=>qdQ A n c (toL N) C (ha.below h rfl)
 rw[q06] at c3;obtain⟨K,f⟩:=yx (q2Z x (bl N+1500));have c9:-16778717<=K/\K<=16778717:=by rw[f];unfold q2Z;omega
 have W:=vv fun w=>qeP x (bl N:Int) w hx1 hx2 (by omega) (by omega)
 rw[<- f] at W;have X:=vv fun w=>q3k K w (by omega) (by omega)
 have d1:bl (p2 K)<=16778718:=by unfold Go.Proofs.YthopehoklmgphaaGreatDoor.p2;rw[q1F];omega
 have d2:bl (p2 (-K))<=16778718:=by unfold Go.Proofs.YthopehoklmgphaaGreatDoor.p2;rw[q1F];omega
 have d3:=q0D N (p2 K);have a9:qh (Sz N/\Sz 1/\Sz (p2 K)/\Sz (p2 (-K))):=vv (by unfold Sz;exact⟨by omega,by decide,by omega,by omega⟩);have c4:=vv fun g C (hg:RatAt C g (sg below (N*p2 K)) (p2 (-K))) (hs:Std C)=>qeL g E F (N*p2 K) (p2 (-K)) below neg mode C h1 h2 h3 h4 hg (by omega) (by omega) hs hm
 have HN:=vv (q3p (E:=E) (F:=F) (N:=N) (below:=below) (neg:=neg) (mode:=mode) 1500 x h1 h2 h3 h4 (by omega));rw[<- f] at HN;have d6:(mode:Int)<=4:=by omega
 have f0:=a2.c0;have f1:=a2.c1;have r0:=V.c0;have r1:=V.c1;have r2:=V.c2;have l0:=a2.lt;have l1:=V.lt;clear ha hn hok hx1 hx2 hst c6 a1 a8 b4 b5 b8 a2 V Z f c9 d1 d2 d3 h1 h2 hm;go_enter func63,ntmps63;go_wp2_with fail;rw[<- c7.o];refine(c8.o _).mono ?_;rintro e L ⟨rfl,b0⟩;have R:=vv (R.o.below b0);have P:=vv (P.o.below b0);have b:=vn b b0;obtain⟨r0,r1,r2,l1⟩:=P.o;clear b0 f0 f1 l0;go_wp2_with fail;refine(b9.o _ b.o).mono ?_;rintro e w3 ⟨rfl,b1⟩;have R:=vv (R.o.below b1);have P:=vv (P.o.below b1);have b:=vn b b1;have r1:=P.o.c1;have l1:=P.o.lt;clear b1 r0 r2;go_wp2_with fail;refine(c3.o _ b.o).mono ?_;rintro e d4 ⟨M,rfl,d7,Y,b2⟩;have R:=vv (R.o.below b2);have P:=vv (P.o.below b2);have b:=vn b b2;have j:=vv Y;clear b2 Y r1 l1;obtain⟨L,rfl⟩:∃x:qi,x=d4:=⟨_,rfl⟩;have s:=vv P.o;have d5:qh (sg qe (N*p2 K) = -((N*p2 K:Nat):Int)):=vv rfl;have HC:qh ((N:Int)*((p2 K:Nat):Int)=((N*p2 K:Nat):Int)/\1*p2 (-K)=p2 (-K)):=vv ⟨by rw[k0a],k0N _⟩;have O:=vv b.o;clear b;go_wp2_with fail;refine q02 (fun C=>C.cell? ⟨w.heap.size+1,2,qg⟩=qj (.int .i64 x)) 10
  (.still 2 (.still 4 (.still 5 (.still 6 (.two 0 (.one 1 (.one 3 (.one 7 (.one 8 (.one 9 .done))))) 1 (.two 0 (.one 3 (.one 7 (.one 8 (.one 9 .done)))) 3 (.two 0 (.one 7 (.one 8 (.one 9 .done))) 7 (.two 0 (.one 8 (.one 9 .done)) 8 (.two 0 (.one 9 .done) 9 (.one 0 .done))))))))))
  (by kernel_rfl) (by kernel_rfl) (fun _ _ d _ _ h=>by cases d<;>exact h) s.o.c2 (fun hS0=>?_)
 iterate 4
  refine q01 (v:=?_) rfl (by rfl) ?_ ?_;rotate_left
  ·intro w d8;go_simp;with_reducible rfl
  simp only[Act.put,sa,sb,sc]
 have Z:qd L.heap.size L L.drew:=q07 (qb _ _);have Y:IntAt L.drew M 0 (N:Int):=j.o.drew;obtain⟨wc,c5⟩:=yx (L.drew);rw[<- c5] at Z hS0 Y ⊢;have b:=vv Z;have j:=vv Y;clear Z Y c5;refine q13 rfl (by rfl) rfl (by rfl) (fun K f=>?_) (fun K f=>?_)
 focus
  go_simp;obtain⟨t,a⟩:=q0y wc;obtain⟨m,D⟩:=yx (wc.heap.size);have U:L.heap.size<=m:=by have:=b.o.size;omega
  have G:∀g,g<wc.heap.size->g≠m:=fun g h=>by omega
  have H:=vv G;obtain⟨wn,y⟩:=yx (wc.alloc q28);rw[<- y] at t a ⊢;rw[<- D] at t ⊢
  try have J:qh (q≠m):=vv (H.o q l.o.lt)
  try have J:qh (q≠m):=vv (H.o q p.o.lt)
  clear G y D
  try have k:=vv (k.o.below a)
  try have l:=vv (l.o.below a)
  try have p:=vv (p.o.below a)
  try have r:=vv (r.o.below a)
  have j:=vv (j.o.below a);have i:=b.o.trans (a.mono b.o.size);have b:=vv i;clear a i;obtain⟨wc,rfl⟩:=yx wn;have k:=vv t;clear t;go_wp2_with fail;refine f.out _ _ (s.o.below b.o).c2 (fun u=>?_);clear f;refine q04 rfl (by rfl) (fun K f=>?_);go_simp;obtain⟨Q,a⟩:=q0y wc;obtain⟨q,a3⟩:=yx (wc.heap.size);have a0:L.heap.size<=q:=by have:=b.o.size;omega
  have a4:∀g,g<wc.heap.size->g≠q:=fun g h=>by omega
  have a5:=vv a4;obtain⟨wn,y⟩:=yx (wc.alloc q28);rw[<- y] at Q a ⊢;rw[<- a3] at Q ⊢
  try have J:qh (q≠m):=vv (Ne.symm (a5.o m k.o.lt))
  have b3:qh (q≠M):=vv (Ne.symm (a5.o M j.o.lt));clear a4 y a3
  try have k:=vv (k.o.below a)
  try have l:=vv (l.o.below a)
  try have p:=vv (p.o.below a)
  try have r:=vv (r.o.below a)
  have j:=vv (j.o.below a);have i:=b.o.trans (a.mono b.o.size);have b:=vv i;clear a i;obtain⟨wc,rfl⟩:=yx wn;have l:=vv Q;clear Q;go_wp2_with fail;refine f.out _ _ (s.o.below b.o).c2 (fun u=>?_);clear f;refine q04 rfl (by rfl) (fun K f=>?_);go_simp;refine(B.SetInt q M _ _ l.o.sh j.o).mono ?_;rintro e wn z
  try have k:=vv (k.o.fs1 z.2.2 J.o)
  have j:=vv (j.o.fs1 z.2.2 b3.o);have i:=z.below b.o b.o.size a0;have b:=vv i;obtain⟨rfl,S,-⟩:=z;have p:=vv S;clear S i l;obtain⟨wc,rfl⟩:=yx wn;go_wp2_with fail;refine f.out _ _ (s.o.below b.o).c2 (fun u=>?_);clear f;refine q04 rfl (by rfl) (fun K f=>?_);go_simp;refine(B.BitLen M 0 _ _ j.o).mono ?_;rintro e C ⟨rfl,rfl⟩;go_wp2_with fail;refine f.out _ _ (s.o.below b.o).c2 (fun u=>?_);clear f;refine q04 rfl (by rfl) (fun K f=>?_);go_simp;refine(W.o _).mono ?_;rintro e C ⟨rfl,rfl⟩;go_wp2_with fail;refine f.out _ _ (s.o.below b.o).c2 (fun u=>?_);clear f;refine q04 rfl (by rfl) (fun K f=>?_);go_simp;refine(X.o _).mono ?_;rintro e wn ⟨g9,rfl,a6,I,a⟩
  try have k:=vv (k.o.below a)
  try have l:=vv (l.o.below a)
  try have p:=vv (p.o.below a)
  try have r:=vv (r.o.below a)
  have j:=vv (j.o.below a);have i:=b.o.trans (a.mono b.o.size);have b:=vv i;clear a i;obtain⟨wc,rfl⟩:=yx wn;have r:=vv I;clear I;go_wp2_with fail;refine f.out _ _ (s.o.below b.o).c2 (fun u=>?_);clear f
 rotate_left 1
 focus
  go_simp;obtain⟨Q,a⟩:=q0y wc;obtain⟨q,a3⟩:=yx (wc.heap.size);have a0:L.heap.size<=q:=by have:=b.o.size;omega
  have a4:∀g,g<wc.heap.size->g≠q:=fun g h=>by omega
  have a5:=vv a4;obtain⟨wn,y⟩:=yx (wc.alloc q28);rw[<- y] at Q a ⊢;rw[<- a3] at Q ⊢
  try have J:qh (q≠m):=vv (Ne.symm (a5.o m k.o.lt))
  have b3:qh (q≠M):=vv (Ne.symm (a5.o M j.o.lt));clear a4 y a3
  try have k:=vv (k.o.below a)
  try have l:=vv (l.o.below a)
  try have p:=vv (p.o.below a)
  try have r:=vv (r.o.below a)
  have j:=vv (j.o.below a);have i:=b.o.trans (a.mono b.o.size);have b:=vv i;clear a i;obtain⟨wc,rfl⟩:=yx wn;have l:=vv Q;clear Q;go_wp2_with fail;refine f.out _ _ (s.o.below b.o).c2 (fun u=>?_);clear f;refine q13 rfl (by rfl) rfl (by rfl) (fun K f=>?_) (fun K f=>?_)
  focus
   go_simp;obtain⟨t,a⟩:=q0y wc;obtain⟨m,D⟩:=yx (wc.heap.size);have U:L.heap.size<=m:=by have:=b.o.size;omega
   have G:∀g,g<wc.heap.size->g≠m:=fun g h=>by omega
   have H:=vv G;obtain⟨wn,y⟩:=yx (wc.alloc q28);rw[<- y] at t a ⊢;rw[<- D] at t ⊢
   try have J:qh (q≠m):=vv (H.o q l.o.lt)
   try have J:qh (q≠m):=vv (H.o q p.o.lt)
   clear G y D
   try have k:=vv (k.o.below a)
   try have l:=vv (l.o.below a)
   try have p:=vv (p.o.below a)
   try have r:=vv (r.o.below a)
   have j:=vv (j.o.below a);have i:=b.o.trans (a.mono b.o.size);have b:=vv i;clear a i;obtain⟨wc,rfl⟩:=yx wn;have k:=vv t;clear t;go_wp2_with fail;refine f.out _ _ (s.o.below b.o).c2 (fun u=>?_);clear f;refine q04 rfl (by rfl) (fun K f=>?_);go_simp;refine(B.SetInt q M _ _ l.o.sh j.o).mono ?_;rintro e wn z
   try have k:=vv (k.o.fs1 z.2.2 J.o)
   have j:=vv (j.o.fs1 z.2.2 b3.o);have i:=z.below b.o b.o.size a0;have b:=vv i;obtain⟨rfl,S,-⟩:=z;have p:=vv S;clear S i l;obtain⟨wc,rfl⟩:=yx wn;go_wp2_with fail;refine f.out _ _ (s.o.below b.o).c2 (fun u=>?_);clear f;refine q04 rfl (by rfl) (fun K f=>?_);go_simp;refine(B.BitLen M 0 _ _ j.o).mono ?_;rintro e C ⟨rfl,rfl⟩;go_wp2_with fail;refine f.out _ _ (s.o.below b.o).c2 (fun u=>?_);clear f;refine q04 rfl (by rfl) (fun K f=>?_);go_simp;refine(W.o _).mono ?_;rintro e C ⟨rfl,rfl⟩;go_wp2_with fail;refine f.out _ _ (s.o.below b.o).c2 (fun u=>?_);clear f;refine q04 rfl (by rfl) (fun K f=>?_);go_simp;refine(X.o _).mono ?_;rintro e wn ⟨g9,rfl,a6,I,a⟩
   try have k:=vv (k.o.below a)
   try have l:=vv (l.o.below a)
   try have p:=vv (p.o.below a)
   try have r:=vv (r.o.below a)
   have j:=vv (j.o.below a);have i:=b.o.trans (a.mono b.o.size);have b:=vv i;clear a i;obtain⟨wc,rfl⟩:=yx wn;have r:=vv I;clear I;go_wp2_with fail;refine f.out _ _ (s.o.below b.o).c2 (fun u=>?_);clear f
  rotate_left 1
  focus
   go_simp;refine(B.SetInt q M _ _ l.o.sh j.o).mono ?_;rintro e wn z
   try have k:=vv (k.o.fs1 z.2.2 J.o)
   have j:=vv (j.o.fs1 z.2.2 b3.o);have i:=z.below b.o b.o.size a0;have b:=vv i;obtain⟨rfl,S,-⟩:=z;have p:=vv S;clear S i l;obtain⟨wc,rfl⟩:=yx wn;go_wp2_with fail;refine f.out _ _ (s.o.below b.o).c2 (fun u=>?_);clear f;refine q13 rfl (by rfl) rfl (by rfl) (fun K f=>?_) (fun K f=>?_)
   focus
    go_simp;obtain⟨t,a⟩:=q0y wc;obtain⟨m,D⟩:=yx (wc.heap.size);have U:L.heap.size<=m:=by have:=b.o.size;omega
    have G:∀g,g<wc.heap.size->g≠m:=fun g h=>by omega
    have H:=vv G;obtain⟨wn,y⟩:=yx (wc.alloc q28);rw[<- y] at t a ⊢;rw[<- D] at t ⊢
    try have J:qh (q≠m):=vv (H.o q l.o.lt)
    try have J:qh (q≠m):=vv (H.o q p.o.lt)
    clear G y D
    try have k:=vv (k.o.below a)
    try have l:=vv (l.o.below a)
    try have p:=vv (p.o.below a)
    try have r:=vv (r.o.below a)
    have j:=vv (j.o.below a);have i:=b.o.trans (a.mono b.o.size);have b:=vv i;clear a i;obtain⟨wc,rfl⟩:=yx wn;have k:=vv t;clear t;go_wp2_with fail;refine f.out _ _ (s.o.below b.o).c2 (fun u=>?_);clear f;refine q04 rfl (by rfl) (fun K f=>?_);go_simp;refine(B.BitLen M 0 _ _ j.o).mono ?_;rintro e C ⟨rfl,rfl⟩;go_wp2_with fail;refine f.out _ _ (s.o.below b.o).c2 (fun u=>?_);clear f;refine q04 rfl (by rfl) (fun K f=>?_);go_simp;refine(W.o _).mono ?_;rintro e C ⟨rfl,rfl⟩;go_wp2_with fail;refine f.out _ _ (s.o.below b.o).c2 (fun u=>?_);clear f;refine q04 rfl (by rfl) (fun K f=>?_);go_simp;refine(X.o _).mono ?_;rintro e wn ⟨g9,rfl,a6,I,a⟩
    try have k:=vv (k.o.below a)
    try have l:=vv (l.o.below a)
    try have p:=vv (p.o.below a)
    try have r:=vv (r.o.below a)
    have j:=vv (j.o.below a);have i:=b.o.trans (a.mono b.o.size);have b:=vv i;clear a i;obtain⟨wc,rfl⟩:=yx wn;have r:=vv I;clear I;go_wp2_with fail;refine f.out _ _ (s.o.below b.o).c2 (fun u=>?_);clear f
   rotate_left 1
   focus
    go_simp;refine(B.BitLen M 0 _ _ j.o).mono ?_;rintro e C ⟨rfl,rfl⟩;go_wp2_with fail;refine f.out _ _ (s.o.below b.o).c2 (fun u=>?_);clear f;refine q13 rfl (by rfl) rfl (by rfl) (fun K f=>?_) (fun K f=>?_)
    focus
     go_simp;obtain⟨t,a⟩:=q0y wc;obtain⟨m,D⟩:=yx (wc.heap.size);have U:L.heap.size<=m:=by have:=b.o.size;omega
     have G:∀g,g<wc.heap.size->g≠m:=fun g h=>by omega
     have H:=vv G;obtain⟨wn,y⟩:=yx (wc.alloc q28);rw[<- y] at t a ⊢;rw[<- D] at t ⊢
     try have J:qh (q≠m):=vv (H.o q l.o.lt)
     try have J:qh (q≠m):=vv (H.o q p.o.lt)
     clear G y D
     try have k:=vv (k.o.below a)
     try have l:=vv (l.o.below a)
     try have p:=vv (p.o.below a)
     try have r:=vv (r.o.below a)
     have j:=vv (j.o.below a);have i:=b.o.trans (a.mono b.o.size);have b:=vv i;clear a i;obtain⟨wc,rfl⟩:=yx wn;have k:=vv t;clear t;go_wp2_with fail;refine f.out _ _ (s.o.below b.o).c2 (fun u=>?_);clear f;refine q04 rfl (by rfl) (fun K f=>?_);go_simp;refine(W.o _).mono ?_;rintro e C ⟨rfl,rfl⟩;go_wp2_with fail;refine f.out _ _ (s.o.below b.o).c2 (fun u=>?_);clear f;refine q04 rfl (by rfl) (fun K f=>?_);go_simp;refine(X.o _).mono ?_;rintro e wn ⟨g9,rfl,a6,I,a⟩
     try have k:=vv (k.o.below a)
     try have l:=vv (l.o.below a)
     try have p:=vv (p.o.below a)
     try have r:=vv (r.o.below a)
     have j:=vv (j.o.below a);have i:=b.o.trans (a.mono b.o.size);have b:=vv i;clear a i;obtain⟨wc,rfl⟩:=yx wn;have r:=vv I;clear I;go_wp2_with fail;refine f.out _ _ (s.o.below b.o).c2 (fun u=>?_);clear f
    rotate_left 1
    focus
     go_simp;refine(W.o _).mono ?_;rintro e C ⟨rfl,rfl⟩;go_wp2_with fail;refine f.out _ _ (s.o.below b.o).c2 (fun u=>?_);clear f;refine q13 rfl (by rfl) rfl (by rfl) (fun K f=>?_) (fun K f=>?_)
     focus
      go_simp;obtain⟨t,a⟩:=q0y wc;obtain⟨m,D⟩:=yx (wc.heap.size);have U:L.heap.size<=m:=by have:=b.o.size;omega
      have G:∀g,g<wc.heap.size->g≠m:=fun g h=>by omega
      have H:=vv G;obtain⟨wn,y⟩:=yx (wc.alloc q28);rw[<- y] at t a ⊢;rw[<- D] at t ⊢
      try have J:qh (q≠m):=vv (H.o q l.o.lt)
      try have J:qh (q≠m):=vv (H.o q p.o.lt)
      clear G y D
      try have k:=vv (k.o.below a)
      try have l:=vv (l.o.below a)
      try have p:=vv (p.o.below a)
      try have r:=vv (r.o.below a)
      have j:=vv (j.o.below a);have i:=b.o.trans (a.mono b.o.size);have b:=vv i;clear a i;obtain⟨wc,rfl⟩:=yx wn;have k:=vv t;clear t;go_wp2_with fail;refine f.out _ _ (s.o.below b.o).c2 (fun u=>?_);clear f;refine q04 rfl (by rfl) (fun K f=>?_);go_simp;refine(X.o _).mono ?_;rintro e wn ⟨g9,rfl,a6,I,a⟩
      try have k:=vv (k.o.below a)
      try have l:=vv (l.o.below a)
      try have p:=vv (p.o.below a)
      try have r:=vv (r.o.below a)
      have j:=vv (j.o.below a);have i:=b.o.trans (a.mono b.o.size);have b:=vv i;clear a i;obtain⟨wc,rfl⟩:=yx wn;have r:=vv I;clear I;go_wp2_with fail;refine f.out _ _ (s.o.below b.o).c2 (fun u=>?_);clear f
     rotate_left 1
     focus
      go_simp;refine(X.o _).mono ?_;rintro e wn ⟨g9,rfl,a6,I,a⟩
      try have k:=vv (k.o.below a)
      try have l:=vv (l.o.below a)
      try have p:=vv (p.o.below a)
      try have r:=vv (r.o.below a)
      have j:=vv (j.o.below a);have i:=b.o.trans (a.mono b.o.size);have b:=vv i;clear a i;obtain⟨wc,rfl⟩:=yx wn;have r:=vv I;clear I;go_wp2_with fail;refine f.out _ _ (s.o.below b.o).c2 (fun u=>?_);clear f;refine q04 rfl (by rfl) (fun K f=>?_);go_simp;obtain⟨t,a⟩:=q0y wc;obtain⟨m,D⟩:=yx (wc.heap.size);have U:L.heap.size<=m:=by have:=b.o.size;omega
      have G:∀g,g<wc.heap.size->g≠m:=fun g h=>by omega
      have H:=vv G;obtain⟨wn,y⟩:=yx (wc.alloc q28);rw[<- y] at t a ⊢;rw[<- D] at t ⊢
      try have J:qh (q≠m):=vv (H.o q l.o.lt)
      try have J:qh (q≠m):=vv (H.o q p.o.lt)
      clear G y D
      try have k:=vv (k.o.below a)
      try have l:=vv (l.o.below a)
      try have p:=vv (p.o.below a)
      try have r:=vv (r.o.below a)
      have j:=vv (j.o.below a);have i:=b.o.trans (a.mono b.o.size);have b:=vv i;clear a i;obtain⟨wc,rfl⟩:=yx wn;have k:=vv t;clear t;go_wp2_with fail;refine f.out _ _ (s.o.below b.o).c2 (fun u=>?_);clear f
 all_goals
  refine q0a ?_;go_wp2_with fail;refine(B.MulR m q g9 _ _ _ _ _ k.o.sh p.o r.o (b6.o.fs (Fs.of_nil (O.o.trans (b.o.mono O.o.size)))) (by exact a9.o.1) a9.o.2.1 (by exact a9.o.2.2.1) a9.o.2.2.2).mono ?_;rintro e wn z;rw[HC.o.1,HC.o.2] at z;have i:=z.below b.o b.o.size U;have b:=vv i;obtain⟨rfl,hR,-⟩:=z;have HR:=vv hR;clear hR i;have d0:=(s.o.below b.o).c0;have ld:=(s.o.below b.o).lt;obtain⟨f0,f1,l0⟩:=(R.o.below b.o);cases below
  ·go_wp2_with fail;refine(c4.o m _ HR.o (b6.o.fs (Fs.of_nil (O.o.trans (b.o.mono O.o.size))))).mono ?_;rintro e w8 ⟨rfl,a7⟩;rw[HN.o];have b7:=vn b a7;clear a7 d0 ld f0 f1 l0;go_wp2;go_ret3;exact⟨by simp,O.o.trans (b7.o.mono O.o.size)⟩
  ·go_wp2_with fail;refine(B.NegR m m _ _ _ HR.o.sh HR.o).mono ?_;rintro e w7 z;rw[<- d5.o] at z;have i:=z.below b.o b.o.size U;have b:=vv i;obtain⟨rfl,hR,-⟩:=z;have HR:=vv hR;clear hR i d0 ld f0 f1 l0;obtain⟨f0,f1,l0⟩:=(R.o.below b.o);go_wp2_with fail;refine(c4.o m _ HR.o (b6.o.fs (Fs.of_nil (O.o.trans (b.o.mono O.o.size))))).mono ?_;rintro e w8 ⟨rfl,a7⟩;rw[HN.o];have b7:=vn b a7;clear a7 f0 f1 l0;go_wp2;go_ret3;exact⟨by simp,O.o.trans (b7.o.mono O.o.size)⟩
end R5
namespace A
open AB
open Go Go.RowKit
theorem SetBytes(g o:Nat)(v:Int)(A:Option qo)(m c N:Nat)(w:qi)(h:IntAt w g o v)(hb:Bd w A m c N)(hm:m<=4294967296):ql qc 298 #[.pointer (qj ⟨g,o,qg⟩),.slice A m c] w (q0L g o (N:Int) w):=by
 obtain⟨L,U⟩:=yx ((m+3)/4);have J:L<=35184372088832:=by omega
 have b4:(L:Int)<=35184372088832:=by omega
 have a2:((m:Int)+3)/4=(L:Int):=by omega
 have b5:(m:Int)<=4294967296:=by omega
 have b6:=mk L J;have V:=vv h;have K:=vv hb;have HL:=vv U;have H1:qh (Own (w.alloc (.cells (madeCells #[.int .u32 0] L) 197)) w.heap.size 197 (List.replicate L 0)):=vv (Own.made w L 197);have H3:qh (qd w.heap.size w (w.alloc (.cells (madeCells #[.int .u32 0] L) 197))):=vv ((qb _ w).alloc lr _);clear h hb U;go_enter func298,ntmps298;go_wp2;clear a2;go_loopw [16] (fun t wr=>∃(i:Nat) (W:List Nat),t=.int .i64 i/\i<=m/\Own wr w.heap.size 197 W/\W.length=L/\val W=hi N (m-i)/\qd w.heap.size w wr) (fun t _=>m-(intOf t).toNat)
 case atStart=>exact⟨0,List.replicate L 0,rfl,k0d _,H1.o,k0Y,by rw[q0m,Nat.sub_zero,q9h K.o.lt],H3.o⟩
 case round =>
  obtain⟨i,W,rfl,a3,a,u,f,j⟩:=hrel;have a0:=vv a;have M:=vv u;have X:=vv j;by_cases him:i<m
  ·obtain⟨k,z⟩:=yx (m-1-i);have O:val W=hi N (k+1):=by rw[f];congr 1;omega
   have b7:(m:Int)-1-(i:Int)=(k:Int):=by omega
   obtain⟨b,off,e,P,Q⟩:=K.o.cell (by omega);subst e;have R:=(j.cell (p:=⟨b,off+i,qg⟩) P).trans (Q i him);rw[<- z] at R;obtain⟨q,hq⟩:=yx (k/4);have b8:q<L:=by have:=HL.o;omega
   have y:q<W.length:=by omega
   have b9:(k:Int)/4=(q:Int):=by omega
   have b1:(k:Int)<=4294967296:=by omega
   have b2:(q:Int)<(L:Int):=by omega
   obtain⟨r,hr⟩:=yx (k%4);have c0:(k:Int).tmod 4=(r:Int):=by rw[k2b (by omega)];omega
   have c1:IntKind.i64.wrap (q:Int)=(q:Int):=by rw[qp];omega
   have c2:(0:Int)<=(q:Int):=by omega
   obtain⟨Y,l,E,n⟩:=q4p a.2 y (show k=4*q+r by omega) (by omega) O;have S:=a.cell y;have c3:=a.frozen q;have c4:=a.lt;have F:=vv (a.set (x:=nth W q+bt N k*256^r) y l rfl);have a4:=qb9 N k;obtain⟨C,G⟩:=yx (bt N k);obtain⟨x,hx⟩:=yx (nth W q);rw[<- G,<- hx] at Y l n F;rw[<- G] at E a4 R;rw[<- hx] at S;have c5:IntKind.u32.wrap (C:Int)=(C:Int):=by rw[qq];omega
   obtain⟨D,H⟩:=yx (C*256^r);rw[<- H] at Y l E n F;obtain⟨s,Z⟩:=yx (8*r);have c6:IntKind.i64.wrap (8*(r:Int))=(s:Int):=by rw[qp];omega
   have c7:(0:Int)<=(s:Int):=by omega
   have b3:(s:Int)<=32:=by omega
   have c8:IntKind.u32.wrap ((C:Int)*2^s)=(D:Int):=by
    have e:(C:Int)*2^s=(D:Int):=by
     have e2:(2:Int)^s=((256^r:Nat):Int):=by rw[Z,k0v,Int.pow_mul];rfl
     rw[e2,H,k0a]
    rw[e,qq];omega
   have a5:qh (hi N k=hi N (m-(i+1))):=vv (by rw[z];congr 1;omega);have a6:=vv n;clear P Q j a O f u hr hq z G hx H Z l E n;go_wp2;refine q02 (fun w'=>w'.cell? ⟨w.heap.size,q,qg⟩=qj (.int .u32 (x:Int))) 13
    (.still 0 (.still 1 (.still 2 (.still 3 (.still 4 (.still 5 (.still 6 (.still 7 (.still 8 (.still 9 (.still 10 (.still 11 (.still 12 .done))))))))))))) (by kernel_rfl) (by kernel_rfl) (fun _ _ d _ _ h=>by cases d<;>exact h) S (fun hS0=>?_)
   iterate 13
    refine q01 (v:=?_) rfl (by rfl) ?_ ?_;rotate_left
    ·intro w c9;go_simp;with_reducible rfl
    simp only[Act.put,sa,sb,sc]
   refine q0a ?_;go_wp2;go_roundw
   case rel =>exact⟨i+1,W.set q (x+D),by go_num,by omega,F.o,by rw[k0e];exact M.o,a6.o.trans a5.o,(X.o.drew).setCell lr _⟩
   case measure=>simp [intOf];omega
  ·obtain rfl:i=m:=by omega
   rw[k2B,q6y] at f;have a7:=vv f;have a8:=vv (V.o.below (j.mono lr));have a1:(i:Int)<=(i:Int):=Int.le_refl _;clear a f u j him a3 a1;go_wp2_with fail;refine(trim (qj ⟨w.heap.size,0,qg⟩) L L W wr (a0.o.rd M.o.symm lr J)).mono ?_;rintro e w' ⟨m',rfl,rfl,I⟩;rw[a7.o] at I;have HR:=vv I;have T:=vv (SetWords g o v _ _ _ (toL N) wr a8.o HR.o);rw[q06] at T;clear I;go_wp2_with fail;refine T.o.mono ?_;rintro e w3 ⟨rfl,hI,hF⟩;have a9:=vv hI;have b0:=vv (Fm.trans (Fm.of_below X.o V.o.lt) hF);clear hI hF;go_wp2;go_ret;exact⟨rfl,a9.o,b0.o⟩
end A
namespace A
open AB
open Go Go.RowKit
theorem qf8:(Tryz.prog.info? 5).map (fun i=>(i.zero,i.size,i.bytes))=qj (qj (.int .u8 0),1,1):=by kernel_rfl
theorem mk8(n:Nat)(h:n<=35184372088832)(w:qi):(Instr.makeSlice 56 (.int .i64 (n:Int)) (.int .i64 (n:Int))).run qc w=.ok (.slice (qj ⟨w.heap.size,0,qg⟩) n n) (w.alloc (.cells (madeCells #[.int .u8 0] n) 5)):=run_make_row' (P:=qc) 56 5 (.int .u8 0) 1 underlying56 qf8 rfl .i64 .i64 n (by omega) (by omega) w
theorem lt_bytes(N:Nat):N<256^((bl N+7)/8):=by
 have h:(256:Nat)^((bl N+7)/8)=2^(8*((bl N+7)/8)):=by rw[k18]
 rw[h];exact k01 (q1Q N) (k05 (by decide) (by omega))
theorem bl_words(N:Nat):bl N<=32*words N:=q1g (by have h:=q0l N;rwa [show(4294967296:Nat)^words N=2^(32*words N) by rw[k18]] at h)
theorem Bytes(g o:Nat)(u:Int)(w:qi)(h:IntAt w g o u)(sN:bl u.natAbs<=4294967296):ql qc 237 #[.pointer (qj ⟨g,o,qg⟩)] w fun e w'=>∃A m,e=.returned (.slice A m m)/\m=(bl u.natAbs+7)/8/\Bd w' A m m u.natAbs/\qd w.heap.size w w':=by
 have v:=vv fun w' (h:IntAt w' g o u)=>BitLen g o u w' h
 obtain⟨N,R⟩:=yx (u.natAbs);have F:=h.lt;obtain⟨A,n,c,h0,h1,d,S⟩:=h.ex;rw[<- R] at v sN d ⊢;obtain⟨m,T⟩:=yx ((bl N+7)/8);have Z:bl N<=32*n:=by have:=bl_words N;rwa [d.words] at this
 have y:=lt_bytes N;rw[<- T] at y ⊢;have G:m<=35184372088832:=by omega
 have b4:=mk8 m G;have H:((bl N:Int)+7)/8=(m:Int):=by omega
 obtain⟨b0,I⟩:=yx (bl N);rw[<- I] at v H sN;have b5:(b0:Int)<=4294967296:=by omega
 have b6:(m:Int)<=1000000000:=by omega
 have J:m<=4*n:=by omega
 have HI:=vv h;have V:=vv d;have HZ:=vv S;have a1:=vv y;have a2:=vv J;have b7:=vv d.sm;have H1:qh (q2M (w.alloc (.cells (madeCells #[.int .u8 0] m) 5)) w.heap.size 5 (List.replicate m 0)):=vv (q2M.made w m 5);have H3:qh (qd w.heap.size w (w.alloc (.cells (madeCells #[.int .u8 0] m) 5))):=vv ((qb _ w).alloc lr _);clear h d S T Z y J R I;go_enter func237,ntmps237;go_wp2_with fail;refine(v.o _ HI.o).mono ?_;rintro e w' ⟨rfl,rfl⟩;go_wp2;clear H;go_loopw [13] (fun t wr=>∃(i:Nat) (U:List Nat),t=.int .i64 i/\i<=m/\q2M wr w.heap.size 5 U/\U.length=m/\(∀j,j<i->nth U j=bt N (m-1-j))/\qd w.heap.size w wr) (fun t _=>m-(intOf t).toNat)
 case atStart=>exact⟨0,List.replicate m 0,rfl,k0d _,H1.o,k0Y,fun j hj=>absurd hj (by omega),H3.o⟩
 case round =>
  obtain⟨i,U,rfl,K,a,z,D,f⟩:=hrel;have a0:=vv a;have L:=vv z;have M:=vv D;have W:=vv f;by_cases him:i<m
  ·obtain⟨k,X⟩:=yx (m-1-i);have b8:(m:Int)-1-(i:Int)=(k:Int):=by omega
   obtain⟨q,hq⟩:=yx (k/4);have a3:q<n:=by have:=a2.o;omega
   obtain⟨b,off,e,O,P⟩:=V.o.cell (by omega);subst e;have a4:=(f.cell (p:=⟨b,off+q,qg⟩) O).trans (P q a3);have j1:=(f.cell (p:=⟨g,o+1,qg⟩) F).trans h1;have a7:g<wr.heap.size:=k01 F f.size;have b9:(k:Int)/4=(q:Int):=by omega
   obtain⟨r,d⟩:=yx (k%4);have a5:(k:Int)%4=(r:Int):=by omega
   have a8:(k:Int).tmod 4=(r:Int):=by rw[k2b (by omega)];exact a5
   have c0:(r:Int)<=3:=by omega
   have a9:(q:Int)<(n:Int):=by omega
   have Q:nth (toL N) q<4294967296:=V.o.nth_lt q;have l:=q2v (q2n N) q r (by omega);rw[q06,show 4*q+r=k by omega] at l;obtain⟨x,hx⟩:=yx (nth (toL N) q);obtain⟨C,E⟩:=yx (bt N k);rw[<- hx] at a4 Q l;rw[<- E] at l;obtain⟨s,Y⟩:=yx (8*r);have c1:8*(r:Int)=(s:Int):=by omega
   have b1:(s:Int)<=24:=by omega
   have c2:(x:Int)/2^s%256=(C:Int):=by
    have e2:(2:Int)^s=((256^r:Nat):Int):=by rw[Y,k0v,Int.pow_mul];rfl
    rw[e2,<- l,k2c,k1k];rfl
   have c3:=a.cell (i:=i) (by omega);have c4:=a.frozen i;have c5:=a.lt;have HS:=vv (a.set (i:=i) (x:=C) (by omega) rfl);have a6:qh (∀j,j<i+1->nth (U.set i C) j=bt N (m-1-j)):=vv (fun j hj=>by
    rw[q1f U i C j (by omega)];split
    ·rename_i e;rw[e,E,X]
    ·exact M.o j (by omega))
   have c6:(x:Int)<=4294967295:=by omega
   have b2:(k:Int)<=1000000000:=by omega
   have b3:(i:Int)<(m:Int):=by omega
   clear O P f a D z d hq X E hx Y l Q K him;go_wp2;go_roundw
   case rel=>exact⟨i+1,U.set i C,by go_num,by omega,HS.o,by rw[k0e];exact L.o,a6.o,(W.o).setCell lr _⟩
   case measure=>simp [intOf];omega
  ·obtain rfl:i=m:=by omega
   clear a z D f him K;go_wp2;go_ret;exact⟨_,_,rfl,rfl,a0.o.bd L.o.symm lr G a1.o M.o,W.o⟩
end A
namespace A
open AB
open Go Go.RowKit
def Mul:=@AB.Mul 125
def added_same:=@AB.added_same 313
def added_ge:=@AB.added_ge 313
def added_lt:=@AB.added_lt 313
def added:=@AB.added 313
end A
namespace A
open AB
open Go Go.RowKit
def Add:=@AB.Add 261
def Sub:=@AB.Sub 306
def Lsh:=@AB.Lsh 126
def Uint64:=@AB.Uint64 200
def NewInt:=@AB.NewInt 74
end A
end Go.Proofs.YthopehoklmgphaaGreatDoor
