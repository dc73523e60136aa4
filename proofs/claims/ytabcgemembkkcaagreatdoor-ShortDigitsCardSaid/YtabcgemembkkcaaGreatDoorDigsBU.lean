/- Lemmas. -/
import Derived.Test.YtabcgemembkkcaaGreatDoorDigsBT
import Derived.Test.YtabcgemembkkcaaGreatDoorDigsBS
set_option linter.all false
set_option maxHeartbeats 4000000
set_option maxRecDepth 100000
open Go.Proofs.Tryz
open Go renaming RowKit.Below.refl->qa,World->qf,bodyPost_ret->qh,Calls->qi,IntWalk.i64_in->qj,Addr->ql
open Bool renaming false->qb,true->qm
open Option renaming none->qc,some->qk
open Go.Proofs.Tryz renaming prog->qd
open Go.RowKit renaming Below->qe
open Decidable renaming decide->qg
namespace Go.Proofs.YtabcgemembkkcaaGreatDoor
variable{w w':qf}{ng b:Bool}{A:Option ql}{n c N E F m:Nat}{x:Int}
namespace R6
open Go Go.RowKit R5 Scn Sh Fms Exa Nea R4 Rtp Sho
theorem qcz(E F:Nat)(w:qf)(h2:E<=11)(h4:F<=52):qi qd 71 #[fm E F] w fun e w'=>e=.returned (.int .u64 ((2^(E+F):Nat):Int))/\qe w.heap.size w w':=by
 have a:=fun w=>R3.Pow (E+F) w (by omega)
 have b:((E+F:Nat):Int)=(E:Int)+(F:Int):=by omega
 rw[b] at a;have c:=vv a;have d:(E:Int)<=11:=by omega
 have f:(F:Int)<=52:=by omega
 clear a b h2 h4;go_enter func71,ntmps71;go_wp2_with fail;refine(c.o _).mono ?_;rintro e w' ⟨rfl,rfl⟩;go_wp2;go_ret;exact⟨rfl,(qa _ _).alloc lr _⟩
theorem qat(E F b:Nat)(w:qf)(h1:2<=E)(h2:E<=11)(h3:1<=F)(h4:F<=52)(hb:b<2^(1+E+F)):qi qd 151 #[fm E F,.int .u64 (b:Int)] w fun e w'=>e=.returned (.int .i64 (mgX E F (q0o E F b)))/\qe w.heap.size w w':=by
 have y:=vv fun w=>R3.Split E F b w h1 h2 h3 h4 hb
 have k:=vv fun w=>R3.Bias E (F:Int) w h1 h2
 have hx:mgX E F (q0o E F b)=max ((q0c E F b:Nat):Int) 1-(((R3.tw (E-1):Nat):Int)-1)-(F:Int):=by unfold mgX Go.Proofs.YtabcgemembkkcaaGreatDoor.Exa.powOf R3.tw;rw[q1M];split<;>omega
 obtain⟨t,q⟩:=yx (R3.tw (E-1));have R:t<=1024:=by rw[q];exact R3.tw_le (show E-1<=10 by omega)
 have z:q0c E F b<2048:=k03 (k0i _ (k0a _)) (k00 (by decide) h2);rw[<- q] at k hx;obtain⟨x,l⟩:=yx (q0c E F b);obtain⟨f,C⟩:=yx (q0r F b);obtain⟨r,D⟩:=yx (q0M E F b);rw[<- l,<- C,<- D] at y;rw[<- l] at hx z;obtain⟨X,s⟩:=yx (mgX E F (q0o E F b));obtain⟨g,G⟩:=yx (max (x:Int) 1);have S:max (x:Int) 1=g:=G.symm;have T:0<=g:=by omega
 have U:g<=2048:=by omega
 rw[<- s,S] at hx;rw[<- s];obtain⟨Q,P⟩:=yx ((t:Int)-1);rw[<- P] at hx k;obtain⟨u,H⟩:=yx (g-Q);have a6:IntKind.i64.wrap (g-Q)=u:=by rw[<- H];exact qj _ (by omega)
 have a7:IntKind.i64.wrap (u-(F:Int))=X:=by rw[show u-(F:Int)=X by omega];exact qj _ (by omega)
 have a8:(t:Int)<=1024:=by omega
 have a9:(F:Int)<=52:=by omega
 obtain⟨w0,m⟩:=yx (w.alloc (.cells #[.int .i64 (E:Int),.int .i64 (F:Int)] 23));have d:Cx w [(w.heap.size,23,[.int .i64 (E:Int),.int .i64 (F:Int)])] w0:=by rw[m];exact(Cx.nil w).new _ [_,_] rfl
 have a:=vv d;have HW:=vv m;clear m d h1 h2 h3 h4 hb hx q R z l C D s G P H T U;obtain⟨V,W,Y⟩:=Blk.f2 (a.o.get 0 rfl);go_enter func151,ntmps151;go_wp2_with fail;rw[<- HW.o];go_wp2_with fail;refine(y.o _).mono ?_;rintro e i ⟨rfl,c⟩;replace a:=vv (a.o.step c);clear V W Y c;obtain⟨Z,a3,a4⟩:=Blk.f2 (a.o.get 0 rfl);go_wp2_with fail;obtain⟨v,n⟩:=yx (i.heap.size);obtain⟨j,h⟩:=yx (i.alloc (.cells #[.bool r,.int .i64 (x:Int),.int .u64 (f:Int)] 58));have c:qe i.heap.size i j:=by rw[h];exact(qa _ _).alloc lr _
 have d:=a.o.new 58 [.bool r,.int .i64 (x:Int),.int .u64 (f:Int)] n;rw[<- h] at d 
 try rw[<- h]
 try rw[<- n]
 replace a:=vv d;clear Z a3 a4 h c d n;obtain⟨I,J,L⟩:=Blk.c3 (a.o.get 0 rfl);obtain⟨M,N⟩:=Blk.c2 (a.o.get 1 rfl);have a0:=(a.o.get 0 rfl).lt;have a1:=(a.o.get 1 rfl).lt;refine q02 (fun w'=>w'.cell? ⟨v,0,qc⟩=qk (.bool r)/\w'.cell? ⟨v,1,qc⟩=qk (.int .i64 (x:Int))/\w'.cell? ⟨v,2,qc⟩=qk (.int .u64 (f:Int))/\w'.cell? ⟨w.heap.size,0,qc⟩=qk (.int .i64 (E:Int))/\w'.cell? ⟨w.heap.size,1,qc⟩=qk (.int .i64 (F:Int))) 9
  (.still 0 (.still 1 (.still 2 (.still 3 (.still 6 (.still 7 (.one 4 (.still 5 (.still 8 .done))))))))) ⟨I,J,L,M,N⟩ (fun a5=>?_)
 iterate 6
  refine q03 ?_
 clear a0 a1 I J L M N;obtain⟨O,p⟩:=yx (j.drew);have c:qe j.heap.size j O:=by rw[p];exact q05 (qa _ _)
 replace a:=vv (a.o.step c);rw[<- p] at a5 ⊢;clear p c;refine q01 rfl (by rfl) (fun K hK=>?_);go_simp;refine(k.o O).mono ?_;rintro e b0 ⟨rfl,c⟩;replace a:=vv (a.o.step c);clear c;go_wp2_with fail;refine hK.out _ _ (Blk.n3 (a.o.get 0 rfl) (Blk.c2 (a.o.get 1 rfl))) (fun a2=>?_);clear hK
 iterate 2
  refine q03 ?_
 refine q08 ?_;simp only[k0o,k0w];go_wp2;go_ret;exact⟨rfl,a.o.low⟩
structure DB(w:qf)(ng b:Bool)(A:Option ql)(n c N:Nat)(x:Int)(q:Rat):Prop where
 d:DQ w A n c N x q
 s:b=(ng && qg (0<N))
theorem DB.below{q:Rat}(h:DB w ng b A n c N x q)(hb:qe w.heap.size w w'):DB w' ng b A n c N x q:=⟨h.d.below hb,h.s⟩
theorem DB.apart_{q:Rat}(h:DB w ng b A n c N x q){g:Nat}{t:TypeId}{cs:List Go.Value}(hb:Blk w g t cs)(hcs:cs.all (fun v=>match v with|.int .u32 _=>qb|_=>qm)=qm)(hg:w.grownBy w' (qk g)):DB w' ng b A n c N x q:=⟨h.d.apart_ hb hcs hg,h.s⟩
def DBP(ng:Bool)(q:Rat)(w:qf)(e:Ending)(w':qf):Prop:=
 ∃b A n c N x,e=.returned (.tuple #[q0q b A n c x,.int .i64 0])/\DB w' ng b A n c N x q/\qe w.heap.size w w'
def DB1(ng:Bool)(q:Rat)(w:qf)(e:Ending)(w':qf):Prop:=
 ∃b A n c N x,e=.returned (q0q b A n c x)/\DB w' ng b A n c N x q/\qe w.heap.size w w'
theorem DBP.of{q:Rat}{e:Ending}(h:DGP ng q w e w'):DBP ng q w e w':=by obtain⟨A,n,c,N,x,a,b,d⟩:=h;exact⟨_,A,n,c,N,x,a,⟨b,rfl⟩,d⟩
theorem qem(ng b:Bool)(A:Option ql)(n c N:Nat)(x:Int)(q1:Rat)(b':Bool)(B:Option ql)(m d M:Nat)(y:Int)(q2:Rat)(w:qf)(ha:DB w ng b A n c N x q1)(hb:DB w ng b' B m d M y q2)(hres:Rb (q1+q2)):qi qd 149 #[q0q b A n c x,q0q b' B m d y] w (DBP ng (q1+q2) w):=by have:=qeO ng A n c N x q1 B m d M y q2 w ha.d hb.d hres;unfold dyG at this;rw[<- ha.s,<- hb.s] at this;exact this.mono fun e w' h=>DBP.of h
theorem qdT(ng b:Bool)(A:Option ql)(n c N:Nat)(x:Int)(q:Rat)(b':Bool)(B:Option ql)(m d M:Nat)(y:Int)(w:qf)(ha:DB w ng b A n c N x q)(hb:DB w qb b' B m d M y (tw (-1)))(hM:M=1)(hy:y = -1)(hres:Rb (q/2)):qi qd 152 #[q0q b A n c x,q0q b' B m d y] w (DBP ng (q/2) w):=by
 subst hM hy;have a:=hb.d.r;have g:m=1:=a.words.symm;subst g;have:=qdS ng A n c N x q B d w ha.d a hres;unfold dyG at this;have f:b'=qb:=by rw[hb.s];rfl
 rw[<- ha.s,<- f] at this;exact this.mono fun e w' h=>DBP.of h
theorem q6d(h:DB w ng b A n c N x (tw (-1))):N=1/\x = -1:=by
 have e:=h.d.e;rw[q6y] at e;rcases h.d.o with a|⟨a,hx⟩
 ·have f:=q3k (N:=N) (K:=1) a (by decide) e.symm;have g:=q3k (N:=1) (K:=N) rfl (by omega) e;have:x = -1:=by omega
  exact⟨by omega,this⟩
 ·rw[a,q1n] at e;have:=q6l (N:=1) (by decide) (-1);rw[e] at this;exact absurd this Rat.lt_irrefl
theorem power_(ng:Bool)(x:Int)(w:qf)(h1:-2500<=x)(h2:x<=2500):qi qd 150 #[.bool ng,.int .u64 1,.int .i64 x] w (DB1 ng (tw x) w):=by
 obtain⟨J,u⟩:=yx (w.alloc (.cells #[.bool qb,.slice qc 0 0,.int .i64 0] 62));have d:Cx w [(w.heap.size,62,[.bool qb,.slice qc 0 0,.int .i64 0])] J:=by rw[u];exact(Cx.nil w).new _ [_,_,_] rfl
 have a:=vv d;have K:=vv u;have C:=vv fun A n c w' (k:RN w' A n c 1)=>(q9T ng A n c 1 x w' k.r (by rw[<- k.r.words];decide) (Rb.dq (by decide) (by omega) (by omega)) (by omega) (by omega)).mono fun e w'' h=>DBP.of h
 rw[<- q6y] at C;clear u d h1 h2;go_enter func150,ntmps150;go_wp2_with fail;rw[<- K.o];refine(R1.Of1 _).mono ?_;rintro e N ⟨O,n1,c1,rfl,E,b⟩;replace a:=vv (a.o.step b);have z:=vv (RN.mk E);clear b E;go_wp2_with fail;refine(C.o _ _ _ _ z.o).mono ?_;rintro e s ⟨g,i,j,l,L,m,rfl,F,b⟩;replace a:=vv (a.o.step b);replace z:=vv (z.o.below b);have p:=vv F;clear b F;have f:=vv (a.o.get 0 rfl);go_wp2_with (with_reducible refine q00 rfl 62 (.tmp 6) (.tmp 17) rfl w.heap.size [.bool g,.slice i j l,.int .i64 m] rfl rfl 62 _ (f.o.alloc _) (by kernel_rfl) rfl rfl ?_);intro P D t;clear f;obtain⟨Q,y⟩:=yx (s.heap.size);obtain⟨M,q⟩:=yx (s.alloc (.cells #[.bool g,.slice i j l,.int .i64 m] 62));have b:qe s.heap.size s M:=by rw[q];exact(qa _ _).alloc lr _
 have d:=a.o.new 62 [.bool g,.slice i j l,.int .i64 m] y;rw[<- q] at d t
 try rw[<- q]
 try rw[<- y]
 replace a:=vv d;replace p:=vv (p.o.below b);clear q b d y;have f:=vv (a.o.get 1 rfl);replace a:=vv (a.o.put 1 rfl D t);replace p:=vv (p.o.apart_ f.o rfl t);clear f D t;go_wp2;obtain⟨G,H,I⟩:=Blk.c3 (a.o.get 1 rfl);exact qh (v:=q0q g i j l m) (by simp [results,results150,go_sem,G,H,I]) rfl ⟨g,i,j,l,L,m,rfl,p.o,a.o.low⟩
theorem q77(E F b:Nat)(w:qf)(h1:2<=E)(h2:E<=11)(h3:1<=F)(h4:F<=52)(hb:b<2^(1+E+F))(hf:q0c E F b≠2^E-1):qi qd 72 #[fm E F,.int .u64 (b:Int)] w (DB1 (q0M E F b) (wv E F (q0o E F b)) w):=by
 obtain⟨J,r⟩:=yx ((w.alloc (.cells #[.int .i64 (E:Int),.int .i64 (F:Int)] 23)).alloc (.cells #[.bool qb,.slice qc 0 0,.int .i64 0] 62));have c:Cx w [(w.heap.size+1,62,[.bool qb,.slice qc 0 0,.int .i64 0]),(w.heap.size,23,[.int .i64 (E:Int),.int .i64 (F:Int)])] J:=by rw[r];exact((Cx.nil w).new _ [_,_] rfl).new _ [_,_,_] (by simp)
 have a:=vv c;have K:=vv r;have t:=vv fun w'=>(qcT E F b w' h1 h2 h3 h4 hb hf).mono fun e w'' h=>DBP.of h
 obtain⟨N,u⟩:=yx (q0M E F b);rw[<- u] at t ⊢;clear r c h1 h2 h3 h4 hb hf u;obtain⟨z,C,D⟩:=Blk.f2 (a.o.get 1 rfl);go_enter func72,ntmps72;go_wp2_with fail;rw[<- K.o];go_wp2_with fail;refine(t.o _).mono ?_;rintro e p ⟨f,g,i,j,L,k,rfl,y,l⟩;replace a:=vv (a.o.step l);have m:=vv y;clear z C D l y;have d:=vv (a.o.get 0 rfl);go_wp2_with (with_reducible refine q00 rfl 62 (.tmp 4) (.tmp 13) rfl (w.heap.size+1) [.bool f,.slice g i j,.int .i64 k] rfl rfl 62 _ (d.o.alloc _) (by kernel_rfl) rfl rfl ?_);intro O x q;clear d;obtain⟨P,s⟩:=yx (p.heap.size);obtain⟨M,n⟩:=yx (p.alloc (.cells #[.bool f,.slice g i j,.int .i64 k] 62));have l:qe p.heap.size p M:=by rw[n];exact(qa _ _).alloc lr _
 have c:=a.o.new 62 [.bool f,.slice g i j,.int .i64 k] s;rw[<- n] at c q
 try rw[<- n]
 try rw[<- s]
 replace a:=vv c;replace m:=vv (m.o.below l);clear n l c s;have d:=vv (a.o.get 1 rfl);replace a:=vv (a.o.put 1 rfl x q);replace m:=vv (m.o.apart_ d.o rfl q);clear d x q;go_wp2;obtain⟨G,H,I⟩:=Blk.c3 (a.o.get 1 rfl);exact qh (v:=q0q f g i j k) (by simp [results,results72,go_sem,G,H,I]) rfl ⟨f,g,i,j,L,k,rfl,m.o,a.o.low⟩
theorem qbm(E F b:Nat)(w:qf)(h1:2<=E)(h2:E<=11)(h3:1<=F)(h4:F<=52)(hb:b<2^(1+E+F))(hf:q0c E F b≠2^E-1):qi qd 73 #[fm E F,.int .u64 (b:Int)] w (DB1 (q0M E F b) (after E F (q0o E F b)) w):=by
 have hm:q0o E F b<2^(E+F):=k0i _ (k0a _);obtain⟨b1,O⟩:=q2W h1 h2 h4 hm;have c8:=q5s (F:=F) (m:=q0o E F b) h4;have a3:qg (((2^(E+F):Nat):Int)<=(b:Int))=q0M E F b:=q7K hb;obtain⟨w0,a4⟩:=yx ((w.alloc (.cells #[.int .i64 (E:Int),.int .i64 (F:Int)] 23)).alloc (.cells #[.bool qb,.slice qc 0 0,.int .i64 0] 62));have p:Cx w [(w.heap.size+1,62,[.bool qb,.slice qc 0 0,.int .i64 0]),(w.heap.size,23,[.int .i64 (E:Int),.int .i64 (F:Int)])] w0:=by rw[a4];exact((Cx.nil w).new _ [_,_] rfl).new _ [_,_,_] (by simp)
 have f:=vv p;have HW:=vv a4;have a5:=vv fun w'=>q77 E F b w' h1 h2 h3 h4 hb hf
 have Z:=vv fun w'=>qcz E F w' h2 h4
 have S:=vv fun w'=>qat E F b w' h1 h2 h3 h4 hb
 have L:=vv fun J w'=>power_ J (mgX E F (q0o E F b)) w' (by omega) (by omega)
 have r1:Rb (wv E F (q0o E F b)+tw (mgX E F (q0o E F b))):=by show Rb (after E F (q0o E F b));rw[q3b];exact Rb.dq (by have:=q20 (mgN F (q0o E F b)) 1 60 (by omega) (by decide);omega) (by omega) (by omega)
 have I:=vv fun J bb A n c N x b' B m d M y w' (k:DB w' J bb A n c N x (wv E F (q0o E F b))) (k':DB w' J b' B m d M y (tw (mgX E F (q0o E F b))))=>qem J bb A n c N x (wv E F (q0o E F b)) b' B m d M y (tw (mgX E F (q0o E F b))) w' k k' r1
 have e1:wv E F (q0o E F b)+tw (mgX E F (q0o E F b))=after E F (q0o E F b):=rfl;rw[e1] at I;obtain⟨J,a0⟩:=yx (q0M E F b);rw[<- a0] at a5 a3 ⊢;obtain⟨X,hX⟩:=yx (mgX E F (q0o E F b));rw[<- hX] at S L I;obtain⟨PW,b6⟩:=yx (2^(E+F));rw[<- b6] at Z a3;have e8:qg (PW<=b)=J:=by rw[<- a3,k1y];omega
 clear a4 p h1 h2 h3 h4 hb hf hm b1 O c8 r1 e1 a0 hX b6;obtain⟨d0,d1,d2⟩:=Blk.f2 (f.o.get 1 rfl);go_enter func73,ntmps73;go_wp2_with fail;rw[<- HW.o];go_wp2_with fail;obtain⟨b7,b8,d3⟩:=Blk.f2 (f.o.get 1 rfl);refine q02 (fun w'=>w'.cell? ⟨w.heap.size,0,qc⟩=qk (.int .i64 (E:Int))/\w'.cell? ⟨w.heap.size,1,qc⟩=qk (.int .i64 (F:Int))) 17
  (.still 0 (.still 1 (.still 3 (.still 4 (.still 7 (.still 8 (.two 2 (.two 5 (.still 6 (.two 9 (.two 10 (.two 11 (.still 12 (.still 13 (.still 14 (.one 15 (.one 16 .done))))) 15 (.one 11 (.still 12 (.still 13 (.still 14 (.one 16 .done)))))) 15 (.one 10 (.one 11 (.still 12 (.still 13 (.still 14 (.one 16 .done))))))) 15 (.one 9 (.one 10 (.one 11 (.still 12 (.still 13 (.still 14 (.one 16 .done))))))))) 15 (.one 5 (.still 6 (.one 9 (.one 10 (.one 11 (.still 12 (.still 13 (.still 14 (.one 16 .done)))))))))) 15 (.one 2 (.one 5 (.still 6 (.one 9 (.one 10 (.one 11 (.still 12 (.still 13 (.still 14 (.one 16 .done))))))))))))))))) ⟨b7,b8⟩ (fun d4=>?_)
 iterate 6
  refine q03 ?_
 clear d0 d1 d2 d3 b7 b8;obtain⟨P,a6⟩:=yx (w0.drew);have a:qe w0.heap.size w0 P:=by rw[a6];exact q05 (qa _ _)
 replace f:=vv (f.o.step a);rw[<- a6] at d4 ⊢;clear a6 a;refine q0e rfl (by rfl) rfl (by rfl) (fun K hK=>?_) (fun K hK=>?_)
 focus
  go_simp;refine(a5.o P).mono ?_;rintro e V ⟨b1,A1,n1,c1,N1,x1,rfl,h,a⟩;replace f:=vv (f.o.step a);have g:=vv h;clear a h;go_wp2_with fail;refine hK.out _ _ (Blk.c2 (f.o.get 1 rfl)) (fun l=>?_);clear hK;refine q0e rfl (by rfl) rfl (by rfl) (fun K hK=>?_) (fun K hK=>?_)
  focus
   go_simp;refine(Z.o V).mono ?_;rintro e W ⟨rfl,a⟩;replace f:=vv (f.o.step a);replace g:=vv (g.o.below a);clear a;go_wp2_with fail;refine hK.out _ _ (Blk.c2 (f.o.get 1 rfl)) (fun l=>?_);clear hK
   iterate 1
    refine q03 ?_
   refine q0e rfl (by rfl) rfl (by rfl) (fun K hK=>?_) (fun K hK=>?_)
   focus
    go_simp;refine(S.o W).mono ?_;rintro e T ⟨rfl,a⟩;replace f:=vv (f.o.step a);replace g:=vv (g.o.below a);clear a;go_wp2_with fail;refine hK.out _ _ (Blk.c2 (f.o.get 1 rfl)) (fun l=>?_);clear hK;refine q0e rfl (by rfl) rfl (by rfl) (fun K hK=>?_) (fun K hK=>?_)
    focus
     go_simp;refine(L.o _ T).mono ?_;rintro e a1 ⟨O,A2,n2,c2,N2,x2,rfl,h,a⟩;replace f:=vv (f.o.step a);replace g:=vv (g.o.below a);have j:=vv h;clear a h;go_wp2_with fail;refine hK.out _ _ (Blk.c2 (f.o.get 1 rfl)) (fun l=>?_);clear hK;refine q0e rfl (by rfl) rfl (by rfl) (fun K hK=>?_) (fun K hK=>?_)
     focus
      go_simp;refine(I.o _ _ _ _ _ _ _ _ _ _ _ _ _ _ g.o j.o).mono ?_;rintro e a2 ⟨u,z,C,D,Q,G,rfl,h,a⟩;replace f:=vv (f.o.step a);replace g:=vv (g.o.below a);replace j:=vv (j.o.below a);have r:=vv h;clear a h;go_wp2_with fail;refine hK.out _ _ (Blk.c2 (f.o.get 1 rfl)) (fun l=>?_);clear hK
      iterate 3
       refine q03 ?_
      refine q01 rfl (by rfl) (fun K hK=>?_);go_simp;obtain⟨R,q⟩:=yx (a2.heap.size);obtain⟨c0,i⟩:=yx (a2.alloc (.cells #[.bool qb,.slice qc 0 0,.int .i64 0] 62));have a:qe a2.heap.size a2 c0:=by rw[i];exact(qa _ _).alloc lr _
      have p:=f.o.new 62 [.bool qb,.slice qc 0 0,.int .i64 0] q;rw[<- i] at p
      try rw[<- i]
      try rw[<- q]
      replace f:=vv p;replace g:=vv (g.o.below a);replace j:=vv (j.o.below a);replace r:=vv (r.o.below a);clear a p i q;refine hK.out _ _ (Blk.c2 (f.o.get 2 rfl)) (fun l=>?_);clear hK;obtain⟨Y,t⟩:=yx (c0);subst t
     rotate_left 1
     focus
      go_simp;obtain⟨R,q⟩:=yx (a1.heap.size);obtain⟨d5,i⟩:=yx (a1.alloc (.cells #[.bool qb,.slice qc 0 0,.int .i64 0] 62));have a:qe a1.heap.size a1 d5:=by rw[i];exact(qa _ _).alloc lr _
      have p:=f.o.new 62 [.bool qb,.slice qc 0 0,.int .i64 0] q;rw[<- i] at p
      try rw[<- i]
      try rw[<- q]
      replace f:=vv p;replace g:=vv (g.o.below a);replace j:=vv (j.o.below a);clear a p i q;refine hK.out _ _ (Blk.c2 (f.o.get 2 rfl)) (fun l=>?_);clear hK;refine q01 rfl (by rfl) (fun K hK=>?_);go_simp;refine(I.o _ _ _ _ _ _ _ _ _ _ _ _ _ _ g.o j.o).mono ?_;rintro e d6 ⟨u,z,C,D,Q,G,rfl,h,a⟩;replace f:=vv (f.o.step a);replace g:=vv (g.o.below a);replace j:=vv (j.o.below a);have r:=vv h;clear a h;go_wp2_with fail;refine hK.out _ _ (Blk.c2 (f.o.get 2 rfl)) (fun l=>?_);clear hK
      iterate 3
       refine q03 ?_
      obtain⟨Y,t⟩:=yx (d6);subst t
    rotate_left 2
    focus
     go_simp;obtain⟨R,q⟩:=yx (T.heap.size);obtain⟨c4,i⟩:=yx (T.alloc (.cells #[.bool qb,.slice qc 0 0,.int .i64 0] 62));have a:qe T.heap.size T c4:=by rw[i];exact(qa _ _).alloc lr _
     have p:=f.o.new 62 [.bool qb,.slice qc 0 0,.int .i64 0] q;rw[<- i] at p
     try rw[<- i]
     try rw[<- q]
     replace f:=vv p;replace g:=vv (g.o.below a);clear a p i q;refine hK.out _ _ (Blk.c2 (f.o.get 2 rfl)) (fun l=>?_);clear hK;refine q01 rfl (by rfl) (fun K hK=>?_);go_simp;refine(L.o _ c4).mono ?_;rintro e e9 ⟨O,A2,n2,c2,N2,x2,rfl,h,a⟩;replace f:=vv (f.o.step a);replace g:=vv (g.o.below a);have j:=vv h;clear a h;go_wp2_with fail;refine hK.out _ _ (Blk.c2 (f.o.get 2 rfl)) (fun l=>?_);clear hK;refine q01 rfl (by rfl) (fun K hK=>?_);go_simp;refine(I.o _ _ _ _ _ _ _ _ _ _ _ _ _ _ g.o j.o).mono ?_;rintro e d7 ⟨u,z,C,D,Q,G,rfl,h,a⟩;replace f:=vv (f.o.step a);replace g:=vv (g.o.below a);replace j:=vv (j.o.below a);have r:=vv h;clear a h;go_wp2_with fail;refine hK.out _ _ (Blk.c2 (f.o.get 2 rfl)) (fun l=>?_);clear hK
     iterate 3
      refine q03 ?_
     obtain⟨Y,t⟩:=yx (d7);subst t
   rotate_left 3
   focus
    go_simp;obtain⟨R,q⟩:=yx (W.heap.size);obtain⟨c5,i⟩:=yx (W.alloc (.cells #[.bool qb,.slice qc 0 0,.int .i64 0] 62));have a:qe W.heap.size W c5:=by rw[i];exact(qa _ _).alloc lr _
    have p:=f.o.new 62 [.bool qb,.slice qc 0 0,.int .i64 0] q;rw[<- i] at p
    try rw[<- i]
    try rw[<- q]
    replace f:=vv p;replace g:=vv (g.o.below a);clear a p i q;refine hK.out _ _ (Blk.c2 (f.o.get 2 rfl)) (fun l=>?_);clear hK;refine q01 rfl (by rfl) (fun K hK=>?_);go_simp;refine(S.o c5).mono ?_;rintro e d8 ⟨rfl,a⟩;replace f:=vv (f.o.step a);replace g:=vv (g.o.below a);clear a;go_wp2_with fail;refine hK.out _ _ (Blk.c2 (f.o.get 2 rfl)) (fun l=>?_);clear hK;refine q01 rfl (by rfl) (fun K hK=>?_);go_simp;refine(L.o _ d8).mono ?_;rintro e f0 ⟨O,A2,n2,c2,N2,x2,rfl,h,a⟩;replace f:=vv (f.o.step a);replace g:=vv (g.o.below a);have j:=vv h;clear a h;go_wp2_with fail;refine hK.out _ _ (Blk.c2 (f.o.get 2 rfl)) (fun l=>?_);clear hK;refine q01 rfl (by rfl) (fun K hK=>?_);go_simp;refine(I.o _ _ _ _ _ _ _ _ _ _ _ _ _ _ g.o j.o).mono ?_;rintro e d9 ⟨u,z,C,D,Q,G,rfl,h,a⟩;replace f:=vv (f.o.step a);replace g:=vv (g.o.below a);replace j:=vv (j.o.below a);have r:=vv h;clear a h;go_wp2_with fail;refine hK.out _ _ (Blk.c2 (f.o.get 2 rfl)) (fun l=>?_);clear hK
    iterate 3
     refine q03 ?_
    obtain⟨Y,t⟩:=yx (d9);subst t
  rotate_left 4
  focus
   go_simp;obtain⟨R,q⟩:=yx (V.heap.size);obtain⟨c6,i⟩:=yx (V.alloc (.cells #[.bool qb,.slice qc 0 0,.int .i64 0] 62));have a:qe V.heap.size V c6:=by rw[i];exact(qa _ _).alloc lr _
   have p:=f.o.new 62 [.bool qb,.slice qc 0 0,.int .i64 0] q;rw[<- i] at p
   try rw[<- i]
   try rw[<- q]
   replace f:=vv p;replace g:=vv (g.o.below a);clear a p i q;refine hK.out _ _ (Blk.c2 (f.o.get 2 rfl)) (fun l=>?_);clear hK;refine q01 rfl (by rfl) (fun K hK=>?_);go_simp;refine(Z.o c6).mono ?_;rintro e e0 ⟨rfl,a⟩;replace f:=vv (f.o.step a);replace g:=vv (g.o.below a);clear a;go_wp2_with fail;refine hK.out _ _ (Blk.c2 (f.o.get 2 rfl)) (fun l=>?_);clear hK
   iterate 1
    refine q03 ?_
   refine q01 rfl (by rfl) (fun K hK=>?_);go_simp;refine(S.o e0).mono ?_;rintro e e2 ⟨rfl,a⟩;replace f:=vv (f.o.step a);replace g:=vv (g.o.below a);clear a;go_wp2_with fail;refine hK.out _ _ (Blk.c2 (f.o.get 2 rfl)) (fun l=>?_);clear hK;refine q01 rfl (by rfl) (fun K hK=>?_);go_simp;refine(L.o _ e2).mono ?_;rintro e f1 ⟨O,A2,n2,c2,N2,x2,rfl,h,a⟩;replace f:=vv (f.o.step a);replace g:=vv (g.o.below a);have j:=vv h;clear a h;go_wp2_with fail;refine hK.out _ _ (Blk.c2 (f.o.get 2 rfl)) (fun l=>?_);clear hK;refine q01 rfl (by rfl) (fun K hK=>?_);go_simp;refine(I.o _ _ _ _ _ _ _ _ _ _ _ _ _ _ g.o j.o).mono ?_;rintro e e3 ⟨u,z,C,D,Q,G,rfl,h,a⟩;replace f:=vv (f.o.step a);replace g:=vv (g.o.below a);replace j:=vv (j.o.below a);have r:=vv h;clear a h;go_wp2_with fail;refine hK.out _ _ (Blk.c2 (f.o.get 2 rfl)) (fun l=>?_);clear hK
   iterate 3
    refine q03 ?_
   obtain⟨Y,t⟩:=yx (e3);subst t
 rotate_left 5
 focus
  go_simp;obtain⟨R,q⟩:=yx (P.heap.size);obtain⟨c7,i⟩:=yx (P.alloc (.cells #[.bool qb,.slice qc 0 0,.int .i64 0] 62));have a:qe P.heap.size P c7:=by rw[i];exact(qa _ _).alloc lr _
  have p:=f.o.new 62 [.bool qb,.slice qc 0 0,.int .i64 0] q;rw[<- i] at p
  try rw[<- i]
  try rw[<- q]
  replace f:=vv p;clear a p i q;refine hK.out _ _ (Blk.c2 (f.o.get 2 rfl)) (fun l=>?_);clear hK;refine q01 rfl (by rfl) (fun K hK=>?_);go_simp;refine(a5.o c7).mono ?_;rintro e e4 ⟨b1,A1,n1,c1,N1,x1,rfl,h,a⟩;replace f:=vv (f.o.step a);have g:=vv h;clear a h;go_wp2_with fail;refine hK.out _ _ (Blk.c2 (f.o.get 2 rfl)) (fun l=>?_);clear hK;refine q01 rfl (by rfl) (fun K hK=>?_);go_simp;refine(Z.o e4).mono ?_;rintro e e5 ⟨rfl,a⟩;replace f:=vv (f.o.step a);replace g:=vv (g.o.below a);clear a;go_wp2_with fail;refine hK.out _ _ (Blk.c2 (f.o.get 2 rfl)) (fun l=>?_);clear hK
  iterate 1
   refine q03 ?_
  refine q01 rfl (by rfl) (fun K hK=>?_);go_simp;refine(S.o e5).mono ?_;rintro e e6 ⟨rfl,a⟩;replace f:=vv (f.o.step a);replace g:=vv (g.o.below a);clear a;go_wp2_with fail;refine hK.out _ _ (Blk.c2 (f.o.get 2 rfl)) (fun l=>?_);clear hK;refine q01 rfl (by rfl) (fun K hK=>?_);go_simp;refine(L.o _ e6).mono ?_;rintro e f4 ⟨O,A2,n2,c2,N2,x2,rfl,h,a⟩;replace f:=vv (f.o.step a);replace g:=vv (g.o.below a);have j:=vv h;clear a h;go_wp2_with fail;refine hK.out _ _ (Blk.c2 (f.o.get 2 rfl)) (fun l=>?_);clear hK;refine q01 rfl (by rfl) (fun K hK=>?_);go_simp;refine(I.o _ _ _ _ _ _ _ _ _ _ _ _ _ _ g.o j.o).mono ?_;rintro e e7 ⟨u,z,C,D,Q,G,rfl,h,a⟩;replace f:=vv (f.o.step a);replace g:=vv (g.o.below a);replace j:=vv (j.o.below a);have r:=vv h;clear a h;go_wp2_with fail;refine hK.out _ _ (Blk.c2 (f.o.get 2 rfl)) (fun l=>?_);clear hK
  iterate 3
   refine q03 ?_
  obtain⟨Y,t⟩:=yx (e7);subst t
 all_goals
  refine q01 rfl (by rfl) (fun K hK=>?_);have s:=vv (f.o.get 0 rfl)
  with_reducible refine q0b 62 (.tmp 5) (.tmp 20) rfl R [.bool u,.slice z C D,.int .i64 G] rfl rfl 62 _ s.o (by kernel_rfl) rfl rfl ?_
  intro f5 U H;replace f:=vv (f.o.put 0 rfl U H);replace g:=vv (g.o.apart_ s.o rfl H);replace j:=vv (j.o.apart_ s.o rfl H);replace r:=vv (r.o.apart_ s.o rfl H);clear s U H;refine hK.out _ _ (Blk.c2 (f.o.get 2 rfl)) (fun l=>?_);clear hK;refine q08 ?_;simp only[k0o,k0w];obtain⟨a7,a8,a9,b0⟩:=Blk.f3 (f.o.get 0 rfl);have s:=vv (f.o.get 1 rfl);go_wp2_with (with_reducible refine q00 rfl 62 (.tmp 4) (.tmp 22) rfl (w.heap.size+1) [.bool u,.slice z C D,.int .i64 G] rfl rfl 62 _ s.o (by kernel_rfl) rfl rfl ?_);intro f6 U H;clear s;have s:=vv (f.o.get 1 rfl);replace f:=vv (f.o.put 1 rfl U H);replace r:=vv (r.o.apart_ s.o rfl H);clear a7 a8 a9 b0 s U H;go_wp2;obtain⟨b3,b4,b5⟩:=Blk.c3 (f.o.get 1 rfl);exact qh (v:=q0q u z C D G) (by simp [results,results73,go_sem,b3,b4,b5]) rfl ⟨u,z,C,D,Q,G,rfl,r.o,f.o.low⟩
theorem qcn(ng ba:Bool)(A:Option ql)(n c N:Nat)(x:Int)(q1:Rat)(bb:Bool)(B:Option ql)(m d M:Nat)(y:Int)(q2:Rat)(w:qf)(ha:DB w ng ba A n c N x q1)(hb:DB w ng bb B m d M y q2)(h1:Rb (q1+q2))(h2:Rb ((q1+q2)/2)):qi qd 74 #[q0q ba A n c x,q0q bb B m d y] w (DB1 ng ((q1+q2)/2) w):=by
 have b6:=vv fun w' (k:DB w' ng ba A n c N x q1) (k2:DB w' ng bb B m d M y q2)=>qem ng ba A n c N x q1 bb B m d M y q2 w' k k2 h1
 have b3:=vv fun w'=>R6.power_ qb (-1) w' (by decide) (by decide)
 have T:=vv fun u z n1 c1 Y C R B1 m1 d1 M1 y1 w' (k:DB w' ng u z n1 c1 Y C (q1+q2)) (k2:DB w' qb R B1 m1 d1 M1 y1 (tw (-1)))=>qdT ng u z n1 c1 Y C (q1+q2) R B1 m1 d1 M1 y1 w' k k2 (q6d k2).1 (q6d k2).2 h2
 obtain⟨w0,U⟩:=yx (((w.alloc (.cells #[.bool ba,.slice A n c,.int .i64 x] 62)).alloc (.cells #[.bool bb,.slice B m d,.int .i64 y] 62)).alloc (.cells #[.bool qb,.slice qc 0 0,.int .i64 0] 62));have g:Cx w [(w.heap.size+1+1,62,[.bool qb,.slice qc 0 0,.int .i64 0]),(w.heap.size+1,62,[.bool bb,.slice B m d,.int .i64 y]),(w.heap.size,62,[.bool ba,.slice A n c,.int .i64 x])] w0:=by rw[U];exact(((Cx.nil w).new _ [_,_,_] rfl).new _ [_,_,_] (by simp)).new _ [_,_,_] (by simp)
 have b:=vv g;have HW:=vv U;have Z:=vv (ha.below g.low);have HB:=vv (hb.below g.low);clear U g ha hb h1 h2;obtain⟨b7,b8,c0,c4⟩:=Blk.f3 (b.o.get 1 rfl);obtain⟨c5,c6,c7,c8⟩:=Blk.f3 (b.o.get 2 rfl);go_enter func74,ntmps74;go_wp2_with fail;rw[<- HW.o];go_wp2_with fail;refine(b6.o _ Z.o HB.o).mono ?_;rintro e S ⟨u,z,n1,c1,Y,C,rfl,h,a⟩;replace b:=vv (b.o.step a);replace Z:=vv (Z.o.below a);replace HB:=vv (HB.o.below a);have f:=vv h;clear b7 b8 c0 c4 c5 c6 c7 c8 a h;go_wp2_with fail;obtain⟨V,W⟩:=yx (S.heap.size);obtain⟨L,O⟩:=yx (S.alloc (.cells #[.bool u,.slice z n1 c1,.int .i64 C] 62));have a:qe S.heap.size S L:=by rw[O];exact(qa _ _).alloc lr _
 have g:=b.o.new 62 [.bool u,.slice z n1 c1,.int .i64 C] W;rw[<- O] at g 
 try rw[<- O]
 try rw[<- W]
 replace b:=vv g;replace f:=vv (f.o.below a);clear O a g W;go_wp2_with fail;obtain⟨a0,a1,a2,a3⟩:=Blk.f3 (b.o.get 0 rfl);refine q02 (fun w'=>w'.cell? ⟨V,0,qc⟩=qk (.bool u)/\w'.cell? ⟨V,1,qc⟩=qk (.slice z n1 c1)/\w'.cell? ⟨V,2,qc⟩=qk (.int .i64 C)) 8
  (.still 0 (.two 1 (.two 2 (.still 3 (.still 4 (.still 5 (.one 6 (.one 7 .done))))) 6 (.one 2 (.still 3 (.still 4 (.still 5 (.one 7 .done)))))) 6 (.one 1 (.one 2 (.still 3 (.still 4 (.still 5 (.one 7 .done)))))))) ⟨a0,a1,a2⟩ (fun d0=>?_)
 iterate 1
  refine q03 ?_
 clear a3 a0 a1 a2;obtain⟨t,X⟩:=yx (L.drew);have a:qe L.heap.size L t:=by rw[X];exact q05 (qa _ _)
 replace b:=vv (b.o.step a);replace f:=vv (f.o.below a);rw[<- X] at d0 ⊢;clear X a;refine q0e rfl (by rfl) rfl (by rfl) (fun K hK=>?_) (fun K hK=>?_)
 focus
  go_simp;refine(b3.o t).mono ?_;rintro e P ⟨R,A2,n2,c2,N2,x2,rfl,h,a⟩;replace b:=vv (b.o.step a);replace f:=vv (f.o.below a);have i:=vv h;clear a h;go_wp2_with fail;refine hK.out _ _ (Blk.c3 (b.o.get 0 rfl)) (fun s=>?_);clear hK;refine q0e rfl (by rfl) rfl (by rfl) (fun K hK=>?_) (fun K hK=>?_)
  focus
   go_simp;refine(T.o _ _ _ _ _ _ _ _ _ _ _ _ _ f.o i.o).mono ?_;rintro e Q ⟨D,E,F,G,N9,H,rfl,h,a⟩;replace b:=vv (b.o.step a);replace f:=vv (f.o.below a);replace i:=vv (i.o.below a);have q:=vv h;clear a h;go_wp2_with fail;refine hK.out _ _ (Blk.c3 (b.o.get 0 rfl)) (fun s=>?_);clear hK
   iterate 3
    refine q03 ?_
   refine q01 rfl (by rfl) (fun K hK=>?_);go_simp;obtain⟨ga,l⟩:=yx (Q.heap.size);obtain⟨b4,j⟩:=yx (Q.alloc (.cells #[.bool qb,.slice qc 0 0,.int .i64 0] 62));have a:qe Q.heap.size Q b4:=by rw[j];exact(qa _ _).alloc lr _
   have g:=b.o.new 62 [.bool qb,.slice qc 0 0,.int .i64 0] l;rw[<- j] at g
   try rw[<- j]
   try rw[<- l]
   replace b:=vv g;replace f:=vv (f.o.below a);replace i:=vv (i.o.below a);replace q:=vv (q.o.below a);clear a g j l;refine hK.out _ _ (Blk.c3 (b.o.get 1 rfl)) (fun s=>?_);clear hK;obtain⟨wz,J⟩:=yx (b4);subst J
  rotate_left 1
  focus
   go_simp;obtain⟨ga,l⟩:=yx (P.heap.size);obtain⟨d2,j⟩:=yx (P.alloc (.cells #[.bool qb,.slice qc 0 0,.int .i64 0] 62));have a:qe P.heap.size P d2:=by rw[j];exact(qa _ _).alloc lr _
   have g:=b.o.new 62 [.bool qb,.slice qc 0 0,.int .i64 0] l;rw[<- j] at g
   try rw[<- j]
   try rw[<- l]
   replace b:=vv g;replace f:=vv (f.o.below a);replace i:=vv (i.o.below a);clear a g j l;refine hK.out _ _ (Blk.c3 (b.o.get 1 rfl)) (fun s=>?_);clear hK;refine q01 rfl (by rfl) (fun K hK=>?_);go_simp;refine(T.o _ _ _ _ _ _ _ _ _ _ _ _ _ f.o i.o).mono ?_;rintro e d3 ⟨D,E,F,G,N9,H,rfl,h,a⟩;replace b:=vv (b.o.step a);replace f:=vv (f.o.below a);replace i:=vv (i.o.below a);have q:=vv h;clear a h;go_wp2_with fail;refine hK.out _ _ (Blk.c3 (b.o.get 1 rfl)) (fun s=>?_);clear hK
   iterate 3
    refine q03 ?_
   obtain⟨wz,J⟩:=yx (d3);subst J
 rotate_left 2
 focus
  go_simp;obtain⟨ga,l⟩:=yx (t.heap.size);obtain⟨b5,j⟩:=yx (t.alloc (.cells #[.bool qb,.slice qc 0 0,.int .i64 0] 62));have a:qe t.heap.size t b5:=by rw[j];exact(qa _ _).alloc lr _
  have g:=b.o.new 62 [.bool qb,.slice qc 0 0,.int .i64 0] l;rw[<- j] at g
  try rw[<- j]
  try rw[<- l]
  replace b:=vv g;replace f:=vv (f.o.below a);clear a g j l;refine hK.out _ _ (Blk.c3 (b.o.get 1 rfl)) (fun s=>?_);clear hK;refine q01 rfl (by rfl) (fun K hK=>?_);go_simp;refine(b3.o b5).mono ?_;rintro e d5 ⟨R,A2,n2,c2,N2,x2,rfl,h,a⟩;replace b:=vv (b.o.step a);replace f:=vv (f.o.below a);have i:=vv h;clear a h;go_wp2_with fail;refine hK.out _ _ (Blk.c3 (b.o.get 1 rfl)) (fun s=>?_);clear hK;refine q01 rfl (by rfl) (fun K hK=>?_);go_simp;refine(T.o _ _ _ _ _ _ _ _ _ _ _ _ _ f.o i.o).mono ?_;rintro e d4 ⟨D,E,F,G,N9,H,rfl,h,a⟩;replace b:=vv (b.o.step a);replace f:=vv (f.o.below a);replace i:=vv (i.o.below a);have q:=vv h;clear a h;go_wp2_with fail;refine hK.out _ _ (Blk.c3 (b.o.get 1 rfl)) (fun s=>?_);clear hK
  iterate 3
   refine q03 ?_
  obtain⟨wz,J⟩:=yx (d4);subst J
 all_goals
  refine q01 rfl (by rfl) (fun K hK=>?_);have p:=vv (b.o.get 0 rfl)
  with_reducible refine q0b 62 (.tmp 7) (.tmp 19) rfl ga [.bool D,.slice E F G,.int .i64 H] rfl rfl 62 _ p.o (by kernel_rfl) rfl rfl ?_
  intro d6 I r;replace b:=vv (b.o.put 0 rfl I r);replace f:=vv (f.o.apart_ p.o rfl r);replace i:=vv (i.o.apart_ p.o rfl r);replace q:=vv (q.o.apart_ p.o rfl r);clear p I r;refine hK.out _ _ (Blk.c3 (b.o.get 1 rfl)) (fun s=>?_);clear hK;refine q08 ?_;simp only[k0o,k0w];obtain⟨a4,a5,a6,a7⟩:=Blk.f3 (b.o.get 0 rfl);have p:=vv (b.o.get 2 rfl);go_wp2_with (with_reducible refine q00 rfl 62 (.tmp 4) (.tmp 21) rfl (w.heap.size+1+1) [.bool D,.slice E F G,.int .i64 H] rfl rfl 62 _ p.o (by kernel_rfl) rfl rfl ?_);intro d7 I r;clear p;have p:=vv (b.o.get 2 rfl);replace b:=vv (b.o.put 2 rfl I r);replace q:=vv (q.o.apart_ p.o rfl r);clear a4 a5 a6 a7 p I r;go_wp2;obtain⟨a8,a9,b0⟩:=Blk.c3 (b.o.get 2 rfl);exact qh (v:=q0q D E F G H) (by simp [results,results74,go_sem,a8,a9,b0]) rfl ⟨D,E,F,G,N9,H,rfl,q.o,b.o.low⟩
theorem qcb(ng b:Bool)(A:Option ql)(n c N:Nat)(x:Int)(q:Rat)(w:qf)(h:DB w ng b A n c N x q):qi qd 75 #[q0q b A n c x] w fun e w'=>∃r:RV,e=.returned r.v/\RI w' r (sq ng q)/\qe w.heap.size w w':=by
 have E:Hid (∀w',DB w' ng b A n c N x q->qi qd 153 #[q0q b A n c x] w' (RvP (sq ng q) w')):=vv fun w' k=>by
  have:=qcY ng A n c N x q w' k.d;unfold dyG at this
  rwa [<- k.s] at this
 obtain⟨M,u⟩:=yx ((w.alloc (.cells #[.bool b,.slice A n c,.int .i64 x] 62)).alloc (.cells #[.bool qb,.slice qc 0 0,.slice qc 0 0] 39));have f:Cx w [(w.heap.size+1,39,[.bool qb,.slice qc 0 0,.slice qc 0 0]),(w.heap.size,62,[.bool b,.slice A n c,.int .i64 x])] M:=by rw[u];exact((Cx.nil w).new _ [_,_,_] rfl).new _ [_,_,_] (by simp)
 have a:=vv f;have O:=vv u;have z:=vv (h.below f.low);clear u f h;obtain⟨F,G,H,I⟩:=Blk.f3 (a.o.get 1 rfl);go_enter func75,ntmps75;go_wp2_with fail;rw[<- O.o];go_wp2_with fail;refine(E.o _ z.o).mono ?_;rintro e p ⟨r,rfl,D,g⟩;replace a:=vv (a.o.step g);replace z:=vv (z.o.below g);have j:=vv D;clear F G H I g D;have i:=vv (a.o.get 0 rfl);go_wp2_with (with_reducible refine q00 rfl 39 (.tmp 2) (.tmp 10) rfl (w.heap.size+1) [.bool r.b,.slice r.X r.n r.c,.slice r.Y r.m r.d] rfl rfl 39 _ (i.o.alloc _) (by kernel_rfl) rfl rfl ?_);intro Q C t;clear i;obtain⟨R,y⟩:=yx (p.heap.size);obtain⟨P,l⟩:=yx (p.alloc (.cells #[.bool r.b,.slice r.X r.n r.c,.slice r.Y r.m r.d] 39));have g:qe p.heap.size p P:=by rw[l];exact(qa _ _).alloc lr _
 have f:=a.o.new 39 [.bool r.b,.slice r.X r.n r.c,.slice r.Y r.m r.d] y;rw[<- l] at f t
 try rw[<- l]
 try rw[<- y]
 replace a:=vv f;replace j:=vv (j.o.below g);clear l g f y;have i:=vv (a.o.get 1 rfl);replace a:=vv (a.o.put 1 rfl C t);replace j:=vv (j.o.apart_ i.o rfl t);clear i C t;go_wp2;obtain⟨J,K,L⟩:=Blk.c3 (a.o.get 1 rfl);exact qh (v:=r.v) (by simp [results,results75,go_sem,J,K,L]) rfl ⟨r,rfl,j.o,a.o.low⟩
end R6
namespace Sh
open Go
theorem q7p{s:Span}{v:Rat}{e:Int}(hv:0<v)(hin:s.has v=qm)(h:tp e<s.hi-s.lo):q2s s v e=qm:=by
 cases hs:q2s s v e
 ·exfalso;unfold q2s at hs;rw[Bool.or_eq_false_iff] at hs;obtain⟨d,f⟩:=hs;have j:=q9w hv e;have l:=(qb0 hv e).1;have i:wo (ce v e) e<=wo (fl v e) e+tp e:=by
   have c:ce v e<=fl v e+1:=by unfold ce;split<;>omega
   have:=qar c e;have g:wo (fl v e+1) e=wo (fl v e) e+tp e:=by unfold wo;rw[k2U,Rat.add_mul,show((1:Nat):Rat)=1 from rfl,k2x]
   rwa [g] at this
  have b:=(Span.has_iff s v).1 hin;have m:wo (fl v e) e<=s.lo:=by
   rcases(Classical.em (s.lo<wo (fl v e) e)).imp_right (fun h=>Rat.not_lt.1 h) with k|k
   ·exfalso;have:s.has (wo (fl v e) e)=qm:=by
     rw[Span.has_iff];refine⟨.inl k,?_⟩;rcases b.2 with q|⟨q,a⟩
     ·exact .inl (by grind)
     ·by_cases z:wo (fl v e) e=s.hi
      ·exact .inr ⟨z,a⟩
      ·exact .inl (by grind)
    rw[d] at this;cases this
   ·exact k
  have n:s.hi<=wo (ce v e) e:=by
   rcases(Classical.em (wo (ce v e) e<s.hi)).imp_right (fun h=>Rat.not_lt.1 h) with k|k
   ·exfalso;have:s.has (wo (ce v e) e)=qm:=by
     rw[Span.has_iff];refine⟨?_,.inl k⟩;rcases b.1 with q|⟨q,a⟩
     ·exact .inl (by grind)
     ·by_cases z:s.lo=wo (ce v e) e
      ·exact .inr ⟨z,a⟩
      ·exact .inl (by grind)
    rw[f] at this;cases this
   ·exact k
  grind
 ·rfl
theorem q7f{a b:Int}(h:a<=b):tw a<=tw b:=by
 obtain⟨k,rfl⟩:∃k:Nat,b=a+k:=⟨(b-a).toNat,by omega⟩;rw[q5T,q9W];have c:((1:Nat):Rat)<=((2^k:Nat):Rat):=by exact_mod_cast k0a k
 have d:=k1s c (k1w (tw_pos a))
 rwa [show((1:Nat):Rat)=1 from rfl,k1Z] at d
theorem q6Q(E F m mode:Nat)(hm:0<m):tw (mgX E F m-1)<=(q0D E F m mode).outer-(q0D E F m mode).inner:=by
 obtain⟨K,p,a,b,c,d⟩:=q1Y E F m hm;have e:tw (mgX E F m-1)<=tw p:=q7f (by omega);have hx:tw (mgX E F m-1)<=tw (mgX E F m):=q7f (by omega);have f:=q3d (mgX E F m);have g:after E F m=wv E F m+tw (mgX E F m):=rfl;unfold q0D;split
 ·dsimp only;grind
 ·split
  ·dsimp only;grind
  ·split
   ·dsimp only;grind
   ·dsimp only;grind
theorem qaw:((2^54:Nat):Rat)<((10^17:Nat):Rat):=by exact_mod_cast (by decide:(2:Nat)^54<10^17)
theorem qaq(h4:F<=52):wv E F m<((2^54:Nat):Rat)*tw (mgX E F m-1):=by
 have d:=q3p F m;have e:2^(F+1)<=2^53:=k00 (by decide) (by omega);have a:mgN F m<2^53:=by omega
 unfold wv dq;rw[q3d (mgX E F m)];have h4:=tw_pos (mgX E F m-1);have b:((mgN F m:Nat):Rat)<((2^53:Nat):Rat):=by exact_mod_cast a
 have c:((2^54:Nat):Rat)=((2^53:Nat):Rat)+((2^53:Nat):Rat):=by exact_mod_cast (by decide:(2:Nat)^54=2^53+2^53)
 have f:=k1N b h4;rw[c];generalize tw (mgX E F m-1)=T at *
 generalize ((2^53:Nat):Rat)=B at *
 grind
theorem q3R{s:Span}(h4:F<=52)(hm:0<m)(hin:s.has (wv E F m)=qm)(hw:tw (mgX E F m-1)<=s.hi-s.lo):q2s s (wv E F m) (top (wv E F m)-((17:Nat):Int))=qm:=by
 have a:0<wv E F m:=q6l (q5t hm) _;refine q7p a hin ?_;have c:=q9X a;have j:=qaq (E:=E) (m:=m) h4;have d:=qaw;have b:=tw_pos (mgX E F m-1);obtain⟨t,f⟩:=yx (top (wv E F m)-((17:Nat):Int));have e:tp (top (wv E F m))=((10^17:Nat):Rat)*tp t:=by rw[<- q24,<- q2T];congr 1;omega
 rw[<- f];rw[e] at c;have l:=k1N d b;generalize ((10^17:Nat):Rat)=B at *
 generalize ((2^54:Nat):Rat)=A at *
 have n:B*tp t<B*tw (mgX E F m-1):=by grind
 have o:tp t<tw (mgX E F m-1):=by
  rcases(Classical.em (tp t<tw (mgX E F m-1))).imp_right (fun h=>Rat.not_lt.1 h) with k|k
  ·exact k
  ·exfalso;have g:(0:Rat)<=B:=by
    refine Rat.not_lt.1 fun q=>?_
    have:=k1q (k1w q) (k1w b);rw[Rat.zero_mul] at this;have i:0<A*tw (mgX E F m-1):=by grind
    grind
   have:=k1s k g
   grind
 grind
theorem q6C{b mode:Nat}(h4:F<=52)(hm:0<q0o E F b):if q1v E F b then q2s (q0w E F b mode).flip (-q2k E F b) (top (-q2k E F b)-((17:Nat):Int))=qm
  else q2s (q0w E F b mode) (q2k E F b) (top (q2k E F b)-((17:Nat):Int))=qm:=by
 obtain⟨e,a⟩:=q4g E F b mode hm;have f:=q6Q E F (q0o E F b) (Go.Proofs.YtabcgemembkkcaaGreatDoor.Sh.seen mode (q1v E F b)) hm;have c:q2k E F b=if q1v E F b then -wv E F (q0o E F b) else wv E F (q0o E F b):=rfl;have d:q0w E F b mode=if q1v E F b then⟨-(q0D E F (q0o E F b) (Go.Proofs.YtabcgemembkkcaaGreatDoor.Sh.seen mode (q1v E F b))).outer,-(q0D E F (q0o E F b) (Go.Proofs.YtabcgemembkkcaaGreatDoor.Sh.seen mode (q1v E F b))).inner,(q0D E F (q0o E F b) (Go.Proofs.YtabcgemembkkcaaGreatDoor.Sh.seen mode (q1v E F b))).oi,(q0D E F (q0o E F b) (Go.Proofs.YtabcgemembkkcaaGreatDoor.Sh.seen mode (q1v E F b))).ii⟩ else⟨(q0D E F (q0o E F b) (Go.Proofs.YtabcgemembkkcaaGreatDoor.Sh.seen mode (q1v E F b))).inner,(q0D E F (q0o E F b) (Go.Proofs.YtabcgemembkkcaaGreatDoor.Sh.seen mode (q1v E F b))).outer,(q0D E F (q0o E F b) (Go.Proofs.YtabcgemembkkcaaGreatDoor.Sh.seen mode (q1v E F b))).ii,(q0D E F (q0o E F b) (Go.Proofs.YtabcgemembkkcaaGreatDoor.Sh.seen mode (q1v E F b))).oi⟩:=rfl;rw[c,d] at a;rw[c,d];clear c d e;generalize q0D E F (q0o E F b) (Go.Proofs.YtabcgemembkkcaaGreatDoor.Sh.seen mode (q1v E F b))=ed at *
 cases hng:q1v E F b
 ·rw[hng] at a;simp only[k1B,k39] at a ⊢;exact q3R h4 hm a f
 ·rw[hng] at a;simp only[k3e] at a ⊢;rw[Rat.neg_neg];refine q3R h4 hm ?_ ?_
  ·have:=Span.has_flip ⟨-ed.outer,-ed.inner,ed.oi,ed.ii⟩ (-wv E F (q0o E F b));rw[Rat.neg_neg] at this;rw[this];exact a
  ·show tw (mgX E F (q0o E F b)-1) <= - -ed.outer - - -ed.inner
   grind
end Sh
end Go.Proofs.YtabcgemembkkcaaGreatDoor
