/- Lemmas. -/
import Derived.Test.YtabcgemembkkcaaGreatDoorDigsAY
import Derived.Test.YtabcgemembkkcaaGreatDoorDigsAZ
import Derived.Test.YtabcgemembkkcaaGreatDoorDigsBA
import Derived.Laws.EntriesVeiled
set_option linter.all false
set_option maxHeartbeats 2000000
set_option maxRecDepth 100000
open Go.Proofs.Tryz
open Option renaming none->qa,some->qd
open Go.Proofs.Tryz renaming prog->qb
open Go renaming RowKit.Below.refl->qc,World->qe,Calls->qi,heap_alloc_new->qj,IntWalk.i64_in->ql,bodyPost_ret->qm,IntKind.wrap_u64->qn,Value->qp
open Decidable renaming decide->qf
open Bool renaming false->qg,false_and->qo,true->qq
open Go.RowKit renaming Below->qh,Hid->qk
namespace Go.Proofs.YtabcgemembkkcaaGreatDoor
variable{neg:Bool}{w w':qe}{g gn on gd od:Nat}
namespace Lex
open Go Go.RowKit R5
end Lex
namespace Rnd
open Go Go.RowKit R5
theorem qdw(n:Int)(b:Nat)(w:qe)(h1:-4611686018427387904<=n)(h2:n<=4611686018427387904)(hb:(b:Int)<=35184372088832):qi qb 90 #[.int .i64 n,.int .i64 (b:Int)] w fun e w'=>e=.returned (.int .i64 (q57 n (b+1200)))/\w=w':=by have a:qk (q57 n ((b:Int)+1200)=max (-(b:Int)-1200) (min n ((b:Int)+1200))):=vv (by unfold q57;omega);go_enter func90,ntmps90;go_wp2;go_ret;exact⟨q0X a.o.symm,rfl⟩
abbrev q8J(neg odd:Bool)(half:Int):qp:=.agg #[.bool neg,.bool odd,.int .i64 half]
theorem q2Y(neg odd:Bool)(half:Int)(w:qe):qi qb 350 #[q8J neg odd half] w fun e w'=>e=.returned (.bool (q37 neg 0 odd half))/\qh w.heap.size w w':=by
 have b:qk (q37 neg 0 odd half=(qf (0<half) || (qf (half=0) && odd))):=vv rfl;by_cases h1:0<half
 ·have a:qk (q37 neg 0 odd half=qq):=vv (by rw[b.o,k04 h1];rfl);have c:qf (0<half)=qq:=k04 h1;clear h1;go_enter func350,ntmps350;go_wp2;go_ret;exact⟨q56 a.o.symm,(qc _ _).alloc lr _⟩
 have c:qf (0<half)=qg:=k02 h1;by_cases h2:half=0
 ·have a:qk (q37 neg 0 odd half=odd):=vv (by rw[b.o,k02 h1,k04 h2];simp);have d:(half==0)=qq:=by rw[h2];rfl
  clear h1 h2;go_enter func350,ntmps350;go_wp2;go_ret;exact⟨q56 a.o.symm,(qc _ _).alloc lr _⟩
 ·have a:qk (q37 neg 0 odd half=qg):=vv (by rw[b.o,k02 h1,k02 h2];rfl);have d:(half==0)=qg:=by rw[k05];exact h2
  clear h1 h2;go_enter func350,ntmps350;go_wp2;go_ret;exact⟨q56 a.o.symm,(qc _ _).alloc lr _⟩
theorem qeC(neg odd:Bool)(half:Int)(w:qe):qi qb 351 #[q8J neg odd half] w fun e w'=>e=.returned (.bool (q37 neg 1 odd half))/\qh w.heap.size w w':=by have a:qk (q37 neg 1 odd half=qf (0<=half)):=vv rfl;go_enter func351,ntmps351;go_wp2;go_ret;exact⟨q56 a.o.symm,(qc _ _).alloc lr _⟩
theorem zero(neg odd:Bool)(half:Int)(w:qe):qi qb 352 #[q8J neg odd half] w fun e w'=>e=.returned (.bool (q37 neg 2 odd half))/\qh w.heap.size w w':=by have a:qk (q37 neg 2 odd half=qg):=vv rfl;go_enter func352,ntmps352;go_wp2;go_ret;exact⟨q56 a.o.symm,(qc _ _).alloc lr _⟩
theorem up(neg odd:Bool)(half:Int)(w:qe):qi qb 353 #[q8J neg odd half] w fun e w'=>e=.returned (.bool (q37 neg 3 odd half))/\qh w.heap.size w w':=by have a:qk (q37 neg 3 odd half=!neg):=vv rfl;go_enter func353,ntmps353;go_wp2;go_ret;exact⟨q56 a.o.symm,(qc _ _).alloc lr _⟩
theorem down(neg odd:Bool)(half:Int)(w:qe):qi qb 354 #[q8J neg odd half] w fun e w'=>e=.returned (.bool (q37 neg 4 odd half))/\qh w.heap.size w w':=by have a:qk (q37 neg 4 odd half=neg):=vv rfl;go_enter func354,ntmps354;go_wp2;go_ret;exact⟨q56 a.o.symm,(qc _ _).alloc lr _⟩
abbrev q3o:qp:=.agg #[.func (.func 350) #[] #[],.func (.func 351) #[] #[],.func (.func 352) #[] #[],.func (.func 353) #[] #[],.func (.func 354) #[] #[]]
theorem qdx(w:qe):qi qb 321 #[] w fun e w'=>e=.returned q3o/\qh w.heap.size w w':=by go_enter func321,ntmps321;go_wp2;exact qm (v:=q3o) (by simp [results,results321,go_sem]) rfl ⟨rfl,(qc _ _).alloc lr _⟩
@[go_sem] theorem qf5(w:qe):(Instr.index 293 q3o (.int .u8 0)).run qb w=.ok (.func (.func 350) #[] #[]) w:=by kernel_rfl
@[go_sem] theorem qf4(w:qe):(Instr.index 293 q3o (.int .u8 1)).run qb w=.ok (.func (.func 351) #[] #[]) w:=by kernel_rfl
@[go_sem] theorem qf3(w:qe):(Instr.index 293 q3o (.int .u8 2)).run qb w=.ok (.func (.func 352) #[] #[]) w:=by kernel_rfl
@[go_sem] theorem qf2(w:qe):(Instr.index 293 q3o (.int .u8 3)).run qb w=.ok (.func (.func 353) #[] #[]) w:=by kernel_rfl
@[go_sem] theorem qf1(w:qe):(Instr.index 293 q3o (.int .u8 4)).run qb w=.ok (.func (.func 354) #[] #[]) w:=by kernel_rfl
def q8z(v:Nat)(same:Bool)(w:qe)(e:Ending)(w':qe):Prop:=∃g,e=.returned (.tuple #[.pointer (qd ⟨g,0,qa⟩),.bool same])/\w.heap.size<=g/\IntAt w' g 0 (v:Int)/\qh w.heap.size w w'
theorem q9J(a b:Nat):q2P (a:Int) (b:Int)=q14 a b:=by rw[q5G (by omega) (by omega),k08,k08]
theorem qc7{mode a b:Nat}(h:a%b≠0):rnd neg mode a b=if q37 neg mode (qf (a/b%2=1)) (q14 (2*(a%b)) b) then a/b+1 else a/b:=k0r h
structure BetBox(w:qe)(g:Nat)(neg odd:Bool)(half:Int):Prop where
 c0:w.cell? ⟨g,0,qa⟩=qd (.bool neg)
 c1:w.cell? ⟨g,1,qa⟩=qd (.bool odd)
 c2:w.cell? ⟨g,2,qa⟩=qd (.int .i64 half)
 lt:g<w.heap.size
theorem BetBox.made(w:qe)(neg odd:Bool)(half:Int)(t:TypeId):BetBox (w.alloc (.cells #[.bool neg,.bool odd,.int .i64 half] t)) w.heap.size neg odd half:=by constructor<;>first|(simp only[World.cell?];rw[qj];rfl)|simp
theorem BetBox.below{odd:Bool}{half:Int}(h:BetBox w g neg odd half)(hb:qh w.heap.size w w'):BetBox w' g neg odd half:=⟨(hb.cell (p:=⟨g,0,qa⟩) h.lt).trans h.c0,(hb.cell (p:=⟨g,1,qa⟩) h.lt).trans h.c1,(hb.cell (p:=⟨g,2,qa⟩) h.lt).trans h.c2,k03 h.lt hb.size⟩
theorem q6x(gx ox gy oy a b:Nat)(neg:Bool)(mode:Nat)(w:qe)(hx:IntAt w gx ox (a:Int))(hy:IntAt w gy oy (b:Int))(hb:0<b)(sa:Sz a)(sb:Sz b)(h0:a%b=0):qi qb 268 #[.pointer (qd ⟨gx,ox,qa⟩),.pointer (qd ⟨gy,oy,qa⟩),.bool neg,.int .u8 (mode:Int)] w (q8z (rnd neg mode a b) qq w):=by
 have sq:Sz (a/b):=Sz.mono sa (k0q a b);have E:Sz (a%b):=Sz.mono sb (k1l (k0i a hb));have f:=fun(c:qe) (g gr:Nat) (h:IntAt c g 0 0) (hz:IntAt c gr 0 0) (M:IntAt c gx ox a) (N:IntAt c gy oy b) (O:g≠gr)=>A.QuoRem g 0 gx ox gy oy gr 0 0 (a:Int) (b:Int) 0 c h M N hz O (by omega) (by rw[k08];exact sa)
 have F:qf ((a:Int)<0)=qg:=k02 (by omega);have G:qf ((b:Int)<0)=qg:=k02 (by omega);simp only[F,G,k08,bne_self_eq_false] at f;obtain⟨q,t⟩:=yx (a/b);obtain⟨r,u⟩:=yx (a%b);simp only[<- t,<- u] at f sq E;have P:=vv f;have v:=(qc w.heap.size w).alloc (o:=.cells #[.bool qg,.slice qa 0 0] 142) lr;have x:=IntAt.zero w 142;obtain⟨d,i⟩:=yx (w.alloc (.cells #[.bool qg,.slice qa 0 0] 142));rw[<- i] at v x;have H:d.heap.size=w.heap.size+1:=by rw[i];simp
 have k:=(qc d.heap.size d).alloc (o:=.cells #[.bool qg,.slice qa 0 0] 142) lr;have l:=IntAt.zero d 142;obtain⟨m,j⟩:=yx (d.alloc (.cells #[.bool qg,.slice qa 0 0] 142));rw[<- j] at k l;rw[H] at l;have n:qh w.heap.size w m:=v.trans (k.mono (by omega));have I:m.heap.size=w.heap.size+2:=by rw[j];simp;omega
 have Q:=vv (x.below k);have R:=vv l;have S:=vv (hx.below n);have T:=vv (hy.below n);have U:=vv n;have W:=vv I;have X:=hy.lt;have Y:qk (m=(w.alloc (.cells #[.bool qg,.slice qa 0 0] 142)).alloc (.cells #[.bool qg,.slice qa 0 0] 142)):=vv (by rw[j,i]);have J:qk (rnd neg mode a b=q):=vv (by unfold rnd;rw[k0p h0,t]);obtain⟨V,K⟩:=yx (rnd neg mode a b);rw[<- K] at J ⊢;have y:r=0:=by rw[u];exact h0
 have ts:((r:Int).sign==0)=qq:=by rw[y];rfl
 clear hx hy sa v k x l n H I i j f F G X K t u h0 y hb sb sq E;go_enter func268,ntmps268;go_wp2_with fail;rw[<- Y.o];refine(P.o m w.heap.size (w.heap.size+1) Q.o R.o S.o T.o (by omega)).mono ?_;rintro e s ⟨rfl,z,C,D⟩;have Z:=vv (show IntAt s w.heap.size 0 (q:Int) from z);have a0:=vv (show IntAt s (w.heap.size+1) 0 (r:Int) from C);have a1:qk (qh w.heap.size w s):=vv (D.below U.o (by have:=W.o;omega) (by intro p L;simp at L;rcases L with rfl|rfl<;>simp));clear z C D;go_wp2_with fail;refine(A.Sign (w.heap.size+1) 0 (r:Int) s a0.o).mono ?_;rintro e c ⟨rfl,rfl⟩;go_wp2;go_ret2;exact⟨w.heap.size,rfl,lr,by rw[J.o];exact Z.o,a1.o⟩
theorem q8N(mode:Nat)(hm:mode<=4)(gx ox gy oy a b:Nat)(neg:Bool)(w:qe)(hx:IntAt w gx ox (a:Int))(hy:IntAt w gy oy (b:Int))(hb:0<b)(sa:Sz a)(sb:Sz b)(h0:a%b≠0):qi qb 268 #[.pointer (qd ⟨gx,ox,qa⟩),.pointer (qd ⟨gy,oy,qa⟩),.bool neg,.int .u8 (mode:Int)] w (q8z (rnd neg mode a b) qg w):=by
 have sq:Sz (a/b):=Sz.mono sa (k0q a b);have S:Sz (a%b):=Sz.mono sb (k1l (k0i a hb));have x:=fun(c:qe) (g gr:Nat) (h:IntAt c g 0 0) (hz:IntAt c gr 0 0) (c5:IntAt c gx ox a) (c6:IntAt c gy oy b) (c7:g≠gr)=>A.QuoRem g 0 gx ox gy oy gr 0 0 (a:Int) (b:Int) 0 c h c5 c6 hz c7 (by omega) (by rw[k08];exact sa)
 have ea:qf ((a:Int)<0)=qg:=k02 (by omega);have eb:qf ((b:Int)<0)=qg:=k02 (by omega);simp only[ea,eb,k08,bne_self_eq_false] at x;obtain⟨q,T⟩:=yx (a/b);obtain⟨r,U⟩:=yx (a%b);simp only[<- T,<- U] at x sq S;have c8:=vv x;have W:=(qc w.heap.size w).alloc (o:=.cells #[.bool qg,.slice qa 0 0] 142) lr;have X:=IntAt.zero w 142;obtain⟨t,y⟩:=yx (w.alloc (.cells #[.bool qg,.slice qa 0 0] 142));rw[<- y] at W X;have s1:t.heap.size=w.heap.size+1:=by rw[y];simp
 have E:=(qc t.heap.size t).alloc (o:=.cells #[.bool qg,.slice qa 0 0] 142) lr;have F:=IntAt.zero t 142;obtain⟨G,C⟩:=yx (t.alloc (.cells #[.bool qg,.slice qa 0 0] 142));rw[<- C] at E F;rw[s1] at F;have H:qh w.heap.size w G:=W.trans (E.mono (by omega));have s2:G.heap.size=w.heap.size+2:=by rw[C];simp;omega
 have c9:=vv (X.below E);have d0:=vv F;have HY:=vv hy;have d1:=vv (hx.below H);have d2:=vv (hy.below H);have d3:=vv H;have d4:=vv s2;have d5:=hy.lt;have d6:qk (G=(w.alloc (.cells #[.bool qg,.slice qa 0 0] 142)).alloc (.cells #[.bool qg,.slice qa 0 0] 142)):=vv (by rw[C,y]);have s:=qc7 (neg:=neg) (mode:=mode) h0;rw[<- T,<- U] at s;have d7:0<r:=by omega
 have ts:((r:Int).sign==0)=qg:=by rw[k0M (by omega)];rfl
 obtain⟨d,J⟩:=yx (qf (q%2=1));obtain⟨f,L⟩:=yx (q14 (2*r) b);obtain⟨n,m⟩:=yx (q37 neg mode d f);rw[<- J,<- L,<- m] at s;obtain⟨V,hV⟩:=yx (rnd neg mode a b);rw[<- hV] at s ⊢;have HV:=vv s;have d8:=vv fun c (h:IntAt c (w.heap.size+1) 0 (r:Int))=>A.Lsh (w.heap.size+1) 0 (w.heap.size+1) 0 1 (r:Int) (r:Int) c h h (by rw[k08];exact S) (by omega)
 have a5:=vv fun c (h:IntAt c (w.heap.size+1) 0 ((r:Int)*2^1)) (h':IntAt c gy oy (b:Int))=>A.Cmp (w.heap.size+1) 0 gy oy _ _ c h h'
 have ec:q2P ((r:Int)*2^1) (b:Int)=f:=by
  have e:(r:Int)*2^1=((2*r:Nat):Int):=by omega
  rw[e,q9J,<- L]
 simp only[ec] at a5;obtain⟨k,a6⟩:∃z:Int,z=(mode:Int):=⟨_,rfl⟩;rw[<- a6];have d9:=vv fun(h:k=0) c=>(show qi qb 350 #[q8J neg d f] c fun e w''=>e=.returned (.bool n)/\qh c.heap.size c w'' by rw[m,show mode=0 by omega];exact q2Y neg d f c)
 have e0:=vv fun(h:k=1) c=>(show qi qb 351 #[q8J neg d f] c fun e w''=>e=.returned (.bool n)/\qh c.heap.size c w'' by rw[m,show mode=1 by omega];exact qeC neg d f c)
 have e1:=vv fun(h:k=2) c=>(show qi qb 352 #[q8J neg d f] c fun e w''=>e=.returned (.bool n)/\qh c.heap.size c w'' by rw[m,show mode=2 by omega];exact zero neg d f c)
 have e2:=vv fun(h:k=3) c=>(show qi qb 353 #[q8J neg d f] c fun e w''=>e=.returned (.bool n)/\qh c.heap.size c w'' by rw[m,show mode=3 by omega];exact up neg d f c)
 have e3:=vv fun(h:k=4) c=>(show qi qb 354 #[q8J neg d f] c fun e w''=>e=.returned (.bool n)/\qh c.heap.size c w'' by rw[m,show mode=4 by omega];exact down neg d f c)
 have e4:qk (k=0\/k=1\/k=2\/k=3\/k=4):=vv (by omega);have e5:qk (((q:Int)%2==1)=d):=vv (by
  rw[J];by_cases h:q%2=1
  ·rw[k04 h,k1D];omega
  ·rw[k02 h,k05];omega)
 have e6:=vv fun c g1 (h:IntAt c w.heap.size 0 (q:Int)) (h1:IntAt c g1 0 1)=>A.Add w.heap.size 0 w.heap.size 0 g1 0 (q:Int) (q:Int) 1 c h h h1 (by rw[k08];exact sq) (by unfold Sz;decide)
 clear hx hy sa W E X F H s1 s2 y C x ea eb d5 hV T U h0 d7 hb sb sq S J L m ec s a6 hm;go_enter func268,ntmps268;go_wp2_with fail;rw[<- d6.o];refine(c8.o G w.heap.size (w.heap.size+1) c9.o d0.o d1.o d2.o (by omega)).mono ?_;rintro e u ⟨rfl,a7,a8,a9⟩;have b0:=vv (show IntAt u w.heap.size 0 (q:Int) from a7);have M:=vv (show IntAt u (w.heap.size+1) 0 (r:Int) from a8);have b1:qk (qh w.heap.size w u):=vv (a9.below d3.o (by have:=d4.o;omega) (by intro p l;simp at l;rcases l with rfl|rfl<;>simp));clear a7 a8 a9;go_wp2_with fail;refine(A.Sign (w.heap.size+1) 0 (r:Int) u M.o).mono ?_;rintro e c ⟨rfl,rfl⟩;go_wp2_with fail;refine(A.Bit0 w.heap.size 0 (q:Int) u b0.o).mono ?_;rintro e c ⟨rfl,rfl⟩;go_wp2_with fail;refine(d8.o _ M.o).mono ?_;rintro e w4 ⟨rfl,N,b3⟩;have O:=b3.fs M.o N;have e7:=vv N;have e8:=vv (b0.o.fs1 O (by omega));have b4:=vv (O.below b1.o (by have:=b1.o.size;omega) (by intro p l;simp at l;rw[l];simp));have e9:=vv (HY.o.below b4.o);clear N b3 O;go_wp2_with fail;refine(a5.o _ e7.o e9.o).mono ?_;rintro e v ⟨rfl,P⟩;have f0:=vv (e8.o.below P);have f1:=vn b4 P;clear P;go_wp2_with fail;rw[e5.o];have I:=(qc v.heap.size v).alloc (o:=.cells #[.bool neg,.bool d,.int .i64 f] 291) lr;have Y:=BetBox.made v neg d f 291;obtain⟨w6,b5⟩:=yx (v.alloc (.cells #[.bool neg,.bool d,.int .i64 f] 291));rw[<- b5] at I Y ⊢;have i:=vv Y;have f2:=vv (f0.o.below I);have f3:=vn f1 I;clear I Y b5;obtain⟨Z,b6⟩:=yx (v.heap.size);rw[<- b6] at i ⊢;clear b6;rcases e4.o with rfl|rfl|rfl|rfl|rfl;all_goals
  refine q02 (fun c=>c.cell? ⟨Z,0,qa⟩=qd (.bool neg)/\c.cell? ⟨Z,1,qa⟩=qd (.bool d)/\c.cell? ⟨Z,2,qa⟩=qd (.int .i64 f)) 5
   (.still 1 (.still 3 (.one 0 (.still 2 (.one 4 .done))))) ⟨i.o.c0,i.o.c1,i.o.c2⟩ (fun f4=>?_)
  iterate 2
   refine q03 ?_
  refine q01 rfl (by rfl) (fun K hK=>?_);go_simp;refine(qdx _).mono ?_;rintro e w7 ⟨rfl,j⟩;have j:qh w6.heap.size w6 w7:=⟨j.os,j.tape,j.output,j.size,j.block⟩;have i:=vv (i.o.below j);have f5:=vv (f2.o.below j);have f6:=vn f3 j;clear j;go_wp2_with fail;refine hK.out _ _ ⟨i.o.c0,i.o.c1,i.o.c2⟩ (fun a0=>?_);clear hK
  iterate 1
   refine q03 ?_
  refine q01 rfl (by rfl) (fun K hK=>?_);go_simp;first|refine(d9.o (by trivial) _).mono ?_|refine(e0.o (by trivial) _).mono ?_|refine(e1.o (by trivial) _).mono ?_|refine(e2.o (by trivial) _).mono ?_|refine(e3.o (by trivial) _).mono ?_
  rintro e w8 ⟨rfl,D⟩;have i:=vv (i.o.below D);have b7:=vv (f5.o.below D);have b8:=vn f6 D;clear D;go_wp2_with fail;refine hK.out _ _ ⟨i.o.c0,i.o.c1,i.o.c2⟩ (fun a0=>?_);clear hK;refine q0T rfl ?_;clear a0 f4;cases n
  ·go_wp2;go_ret2;exact⟨w.heap.size,rfl,lr,by rw[HV.o];exact b7.o,b8.o⟩
  ·go_wp2_with fail;refine(A.NewInt 1 _ (by omega) (by omega)).mono ?_;rintro e w9 ⟨g9,rfl,f7,b9,Q⟩;have c3:=vv (b7.o.below Q);have f8:=vv b9;have c4:=vn b8 Q;clear f7 b9 Q;go_wp2_with fail;refine(e6.o _ g9 c3.o f8.o).mono ?_;rintro e f9 ⟨rfl,R,a1⟩;have a2:=a1.fs c3.o R;have a3:=vv R;have a4:=vv (a2.below c4.o (by have:=c4.o.size;omega) (by intro p l;simp at l;rw[l];simp));clear R a1 a2;go_wp2;go_ret2;exact⟨w.heap.size,rfl,lr,by rw[HV.o];exact a3.o,a4.o⟩
theorem q3G(gx ox gy oy a b:Nat)(neg:Bool)(mode:Nat)(w:qe)(hx:IntAt w gx ox (a:Int))(hy:IntAt w gy oy (b:Int))(hb:0<b)(sa:Sz a)(sb:Sz b)(hm:mode<=4):qi qb 268 #[.pointer (qd ⟨gx,ox,qa⟩),.pointer (qd ⟨gy,oy,qa⟩),.bool neg,.int .u8 (mode:Int)] w (q8z (rnd neg mode a b) (qf (a%b=0)) w):=by
 by_cases h0:a%b=0
 ·rw[k04 h0];exact q6x gx ox gy oy a b neg mode w hx hy hb sa sb h0
 ·rw[k02 h0];exact q8N mode hm gx ox gy oy a b neg w hx hy hb sa sb h0
abbrev q6I(gn on gd od:Nat):qp:=.agg #[.pointer (qd ⟨gn,on,qa⟩),.pointer (qd ⟨gd,od,qa⟩)]
structure NbBox(w:qe)(g gn on gd od:Nat):Prop where
 c0:w.cell? ⟨g,0,qa⟩=qd (.pointer (qd ⟨gn,on,qa⟩))
 c1:w.cell? ⟨g,1,qa⟩=qd (.pointer (qd ⟨gd,od,qa⟩))
 lt:g<w.heap.size
theorem NbBox.made(w:qe)(gn on gd od:Nat)(t:TypeId):NbBox (w.alloc (.cells #[.pointer (qd ⟨gn,on,qa⟩),.pointer (qd ⟨gd,od,qa⟩)] t)) w.heap.size gn on gd od:=by constructor<;>first|(simp only[World.cell?];rw[qj];rfl)|simp
theorem NbBox.below(h:NbBox w g gn on gd od)(hb:qh w.heap.size w w'):NbBox w' g gn on gd od:=⟨(hb.cell (p:=⟨g,0,qa⟩) h.lt).trans h.c0,(hb.cell (p:=⟨g,1,qa⟩) h.lt).trans h.c1,k03 h.lt hb.size⟩
theorem NbBox.drew(h:NbBox w g gn on gd od):NbBox w.drew g gn on gd od:=⟨h.c0,h.c1,h.lt⟩
theorem Fs.cell0{l:List Ob}{k j:Nat}{v:qp}(hf:Fs l w w')(h:w.cell? ⟨k,j,qa⟩=qd v)(hk:k<w.heap.size)(hne:∀p∈l,p.1≠k):w'.cell? ⟨k,j,qa⟩=qd v:=(hf.cell k j hk (fun p hp e=>absurd e (hne p hp))).trans h
theorem NbBox.fs{l:List Ob}(h:NbBox w g gn on gd od)(hf:Fs l w w')(hne:∀p∈l,p.1≠g):NbBox w' g gn on gd od:=⟨Fs.cell0 hf h.c0 h.lt hne,Fs.cell0 hf h.c1 h.lt hne,k03 h.lt hf.size⟩
def q5K(x y:Nat)(w:qe)(e:Ending)(w':qe):Prop:=∃g1 o1 g2 o2,e=.returned (.tuple #[.pointer (qd ⟨g1,o1,qa⟩),.pointer (qd ⟨g2,o2,qa⟩)])/\IntAt w' g1 o1 (x:Int)/\IntAt w' g2 o2 (y:Int)/\qh w.heap.size w w'
theorem q8V(gn on gd od a b k:Nat)(w:qe)(hn:IntAt w gn on (a:Int))(hd:IntAt w gd od (b:Int))(sa:Sz a)(hk:(k:Int)<30000000000000):qi qb 267 #[q6I gn on gd od,.int .i64 (k:Int)] w (q5K (a*2^k) b w):=by
 have l:=(qc w.heap.size w).alloc (o:=.cells #[.pointer (qd ⟨gn,on,qa⟩),.pointer (qd ⟨gd,od,qa⟩)] 140) lr;have s:=NbBox.made w gn on gd od 140;obtain⟨I,r⟩:=yx (w.alloc (.cells #[.pointer (qd ⟨gn,on,qa⟩),.pointer (qd ⟨gd,od,qa⟩)] 140));rw[<- r] at l s;have c:=vv s;have d:=vv l;have z:=vv r;have m:=vv (hn.below l);have f:=vv (hd.below l);have J:=vv fun w' g (h:IntAt w' g 0 0) (h':IntAt w' gn on (a:Int))=>A.Lsh g 0 gn on k 0 (a:Int) w' h h' (by rw[k08];exact sa) (by omega)
 have L:qk ((a:Int)*2^k=((a*2^k:Nat):Int)):=vv (by rw[k0f,k0C];rfl);have P:qf ((0:Int)<=(k:Int))=qq:=k04 (by omega);have C:qk (IntKind.u64.wrap (k:Int)=(k:Int)):=vv (by rw[qn];omega);clear l s r hn hd sa;go_enter func267,ntmps267;go_wp2_with fail;rw[<- z.o];refine q02 (fun w'=>w'.cell? ⟨w.heap.size,0,qa⟩=qd (.pointer (qd ⟨gn,on,qa⟩))/\w'.cell? ⟨w.heap.size,1,qa⟩=qd (.pointer (qd ⟨gd,od,qa⟩))) 10
  (.still 1 (.still 2 (.still 3 (.still 4 (.still 6 (.still 7 (.one 0 (.one 5 (.still 8 (.still 9 .done)))))))))) ⟨c.o.c0,c.o.c1⟩ (fun u=>?_)
 obtain⟨wc,i⟩:=yx (I.drew);have c:qk (NbBox wc w.heap.size gn on gd od):=vv (by rw[i];exact c.o.drew);have d:qk (qh w.heap.size w wc):=vv (by rw[i];exact q05 d.o);have m:qk (IntAt wc gn on (a:Int)):=vv (by rw[i];exact m.o.drew);have f:qk (IntAt wc gd od (b:Int)):=vv (by rw[i];exact f.o.drew);rw[<- i] at u ⊢;clear i
 iterate 6
  refine q03 ?_
 refine q01 rfl (by rfl) (fun K hK=>?_);go_simp;have t:=IntAt.zero wc 142;have j:=(qc wc.heap.size wc).alloc (o:=.cells #[.bool qg,.slice qa 0 0] 142) lr;obtain⟨M,v⟩:=yx (wc.alloc (.cells #[.bool qg,.slice qa 0 0] 142));rw[<- v] at t j ⊢;have x:=vv t;have D:=vv f.o.lt;have E:=c.o.lt;have c:=vv (c.o.below j);have m:=vv (m.o.below j);have f:=vv (f.o.below j);have O:=D.o;have F:=vv d.o;have G:=vv E;have d:=vn d j;clear t j v u;refine hK.out _ _ ⟨c.o.c0,c.o.c1⟩ (fun H=>?_);clear hK;refine q01 rfl (by rfl) (fun K hK=>?_);go_simp;rw[C.o];refine(J.o M wc.heap.size x.o m.o).mono ?_;rintro e Q ⟨rfl,hi,y⟩;rw[L.o] at hi;have q:=y.fs x.o hi;have N:=vv hi;have f:=vv (f.o.fs1 q (by omega));have d:=vv (q.below d.o (by have:=d.o.size;omega) (by intro p n;simp at n;rw[n];exact F.o.size));have c:=vv (c.o.fs q (by intro p n;simp at n;rw[n];have:=G.o;show wc.heap.size≠w.heap.size;omega));clear hi y q;go_wp2_with fail;refine hK.out _ _ ⟨c.o.c0,c.o.c1⟩ (fun H=>?_);clear hK
 iterate 2
  refine q03 ?_
 refine q0T rfl ?_;go_wp2;go_ret2;exact⟨wc.heap.size,0,gd,od,rfl,N.o,f.o,d.o⟩
theorem q6A(gn on gd od a b k:Nat)(w:qe)(hn:IntAt w gn on (a:Int))(hd:IntAt w gd od (b:Int))(sb:Sz b)(hk0:0<k)(e:Int)(he:-e=(k:Int))(hk:(k:Int)<30000000000000):qi qb 267 #[q6I gn on gd od,.int .i64 e] w (q5K a (b*2^k) w):=by
 have l:=(qc w.heap.size w).alloc (o:=.cells #[.pointer (qd ⟨gn,on,qa⟩),.pointer (qd ⟨gd,od,qa⟩)] 140) lr;have s:=NbBox.made w gn on gd od 140;obtain⟨I,r⟩:=yx (w.alloc (.cells #[.pointer (qd ⟨gn,on,qa⟩),.pointer (qd ⟨gd,od,qa⟩)] 140));rw[<- r] at l s;have c:=vv s;have d:=vv l;have z:=vv r;have f:=vv (hn.below l);have m:=vv (hd.below l);have J:=vv fun w' g (h:IntAt w' g 0 0) (h':IntAt w' gd od (b:Int))=>A.Lsh g 0 gd od k 0 (b:Int) w' h h' (by rw[k08];exact sb) (by omega)
 have L:qk ((b:Int)*2^k=((b*2^k:Nat):Int)):=vv (by rw[k0f,k0C];rfl);have R:qf ((0:Int)<=e)=qg:=k02 (by omega);have C:qk (IntKind.u64.wrap (IntKind.i64.wrap (k:Int))=(k:Int)):=vv (by rw[ql _ (by omega),qn];omega);have O:e<=0:=by omega
 have P:-30000000000000<=e:=by omega
 clear l s r hn hd sb hk0;go_enter func267,ntmps267;go_wp2_with fail;rw[<- z.o];refine q02 (fun w'=>w'.cell? ⟨w.heap.size,0,qa⟩=qd (.pointer (qd ⟨gn,on,qa⟩))/\w'.cell? ⟨w.heap.size,1,qa⟩=qd (.pointer (qd ⟨gd,od,qa⟩))) 11
  (.still 0 (.still 1 (.still 3 (.still 4 (.still 5 (.still 6 (.still 7 (.one 2 (.one 8 (.still 9 (.still 10 .done))))))))))) ⟨c.o.c0,c.o.c1⟩ (fun u=>?_)
 obtain⟨wc,i⟩:=yx (I.drew);have c:qk (NbBox wc w.heap.size gn on gd od):=vv (by rw[i];exact c.o.drew);have d:qk (qh w.heap.size w wc):=vv (by rw[i];exact q05 d.o);have f:qk (IntAt wc gn on (a:Int)):=vv (by rw[i];exact f.o.drew);have m:qk (IntAt wc gd od (b:Int)):=vv (by rw[i];exact m.o.drew);rw[<- i] at u ⊢;clear i
 iterate 7
  refine q03 ?_
 refine q01 rfl (by rfl) (fun K hK=>?_);go_simp;have t:=IntAt.zero wc 142;have j:=(qc wc.heap.size wc).alloc (o:=.cells #[.bool qg,.slice qa 0 0] 142) lr;obtain⟨M,v⟩:=yx (wc.alloc (.cells #[.bool qg,.slice qa 0 0] 142));rw[<- v] at t j ⊢;have x:=vv t;have D:=vv f.o.lt;have E:=c.o.lt;have c:=vv (c.o.below j);have f:=vv (f.o.below j);have m:=vv (m.o.below j);have Q:=D.o;have F:=vv d.o;have G:=vv E;have d:=vn d j;clear t j v u;refine hK.out _ _ ⟨c.o.c0,c.o.c1⟩ (fun H=>?_);clear hK;refine q01 rfl (by rfl) (fun K hK=>?_);go_simp;rw[C.o];refine(J.o M wc.heap.size x.o m.o).mono ?_;rintro S T ⟨rfl,hi,y⟩;rw[L.o] at hi;have q:=y.fs x.o hi;have N:=vv hi;have f:=vv (f.o.fs1 q (by omega));have d:=vv (q.below d.o (by have:=d.o.size;omega) (by intro p n;simp at n;rw[n];exact F.o.size));have c:=vv (c.o.fs q (by intro p n;simp at n;rw[n];have:=G.o;show wc.heap.size≠w.heap.size;omega));clear hi y q;go_wp2_with fail;refine hK.out _ _ ⟨c.o.c0,c.o.c1⟩ (fun H=>?_);clear hK
 iterate 2
  refine q03 ?_
 refine q0T rfl ?_;go_wp2;go_ret2;exact⟨gn,on,wc.heap.size,0,rfl,f.o,N.o,d.o⟩
theorem times(gn on gd od a b:Nat)(e:Int)(w:qe)(hn:IntAt w gn on (a:Int))(hd:IntAt w gd od (b:Int))(sa:Sz a)(sb:Sz b)(h1:e<30000000000000)(h2:-30000000000000<e):qi qb 267 #[q6I gn on gd od,.int .i64 e] w (q5K (a*p2 e) (b*p2 (-e)) w):=by
 by_cases h:0<=e
 ·obtain⟨k,rfl⟩:∃k:Nat,e=k:=⟨e.toNat,by omega⟩;rw[q1D,q0s (by omega),k0G];exact q8V gn on gd od a b k w hn hd sa h1
 ·obtain⟨k,rfl⟩:∃k:Nat,e = -(k:Int):=⟨(-e).toNat,by omega⟩;rw[q0s (n:=-(k:Int)) (by omega),k0G,Int.neg_neg,q1D];exact q6A gn on gd od a b k w hn hd sb (by omega) _ (by omega) (by omega)
theorem log(gn on gd od a b:Nat)(w:qe)(hn:IntAt w gn on (a:Int))(hd:IntAt w gd od (b:Int))(sa:Sz a)(sb:Sz b):qi qb 266 #[q6I gn on gd od] w fun e w'=>e=.returned (.int .i64 (q1K a b))/\qh w.heap.size w w':=by
 have g:=(qc w.heap.size w).alloc (o:=.cells #[.pointer (qd ⟨gn,on,qa⟩),.pointer (qd ⟨gd,od,qa⟩)] 140) lr;have i:=NbBox.made w gn on gd od 140;obtain⟨W,r⟩:=yx (w.alloc (.cells #[.pointer (qd ⟨gn,on,qa⟩),.pointer (qd ⟨gd,od,qa⟩)] 140));rw[<- r] at g i;have c:=vv i;have x:=vv g;have S:=vv r;have k:=vv (hn.below g);have l:=vv (hd.below g);have Z:(bl a:Int)<=8796093022208:=by have:=sa;unfold Sz at this;omega
 have bb:(bl b:Int)<=8796093022208:=by have:=sb;unfold Sz at this;omega
 obtain⟨D,N⟩:∃D:Int,(bl a:Int)-(bl b:Int)=D:=⟨_,rfl⟩;obtain⟨d,T⟩:∃d:Int,-D=d:=⟨_,rfl⟩;have O:q1K a b=if a*p2 d<b*p2 (-d) then D-1 else D:=by unfold q1K;rw[N,<- T,Int.neg_neg]
 have y:=vv O;have s:=vv fun w' (h:IntAt w' gn on (a:Int))=>A.BitLen gn on (a:Int) w' h
 have t:=vv fun w' (h:IntAt w' gd od (b:Int))=>A.BitLen gd od (b:Int) w' h
 rw[k08] at s t;have P:=vv fun w' (h:IntAt w' gn on (a:Int)) (h':IntAt w' gd od (b:Int))=>times gn on gd od a b d w' h h' sa sb (by omega) (by omega)
 obtain⟨X,C⟩:=yx (a*p2 d);obtain⟨Y,E⟩:=yx (b*p2 (-d));simp only[<- C,<- E] at P;rw[<- C,<- E] at y;obtain⟨la,u⟩:=yx (bl a);obtain⟨lb,v⟩:=yx (bl b);rw[<- u,<- v] at N;rw[<- u] at Z s;rw[<- v] at bb t;have U:qk (IntKind.i64.wrap D=D):=vv (ql _ (by omega));have r1:D<=8796093022208:=by omega
 have r2:-8796093022208<=D:=by omega
 have G:=vv fun w' m n p q (h:IntAt w' m n (X:Int)) (h':IntAt w' p q (Y:Int))=>A.Cmp m n p q (X:Int) (Y:Int) w' h h'
 obtain⟨z,j⟩:=yx (q2P (X:Int) (Y:Int));simp only[<- j] at G;clear g i r hn hd sa sb O u v C E;go_enter func266,ntmps266;go_wp2_with fail;rw[<- S.o];refine q02 (fun w'=>w'.cell? ⟨w.heap.size,0,qa⟩=qd (.pointer (qd ⟨gn,on,qa⟩))/\w'.cell? ⟨w.heap.size,1,qa⟩=qd (.pointer (qd ⟨gd,od,qa⟩))) 7
  (.still 0 (.still 1 (.still 3 (.still 4 (.one 2 (.one 5 (.still 6 .done))))))) ⟨c.o.c0,c.o.c1⟩ (fun H=>?_)
 obtain⟨wc,f⟩:=yx (W.drew);have c:qk (NbBox wc w.heap.size gn on gd od):=vv (by rw[f];exact c.o.drew);have x:qk (qh w.heap.size w wc):=vv (by rw[f];exact q05 x.o);have k:qk (IntAt wc gn on (a:Int)):=vv (by rw[f];exact k.o.drew);have l:qk (IntAt wc gd od (b:Int)):=vv (by rw[f];exact l.o.drew);rw[<- f] at H ⊢;clear f
 iterate 4
  refine q03 ?_
 refine q01 rfl (by rfl) (fun K hK=>?_);go_simp;refine(s.o _ k.o).mono ?_;rintro e w' ⟨rfl,rfl⟩;go_wp2_with fail;refine hK.out _ _ ⟨c.o.c0,c.o.c1⟩ (fun I=>?_);clear hK;refine q01 rfl (by rfl) (fun K hK=>?_);go_simp;refine(t.o _ l.o).mono ?_;rintro e w' ⟨rfl,rfl⟩;go_wp2_with fail;refine hK.out _ _ ⟨c.o.c0,c.o.c1⟩ (fun I=>?_);clear hK
 iterate 1
  refine q03 ?_
 rw[U.o];refine q08 ?_;clear I H;obtain⟨i,x1,xl⟩:=c.o;go_wp2_with fail;refine(P.o _ k.o l.o).mono ?_;rintro e w2 ⟨m,n,p,q,rfl,Q,R,J⟩;have H1:=vv Q;have H2:=vv R;have V:=vn x J;clear Q R J;go_wp2_with fail;refine(G.o _ m n p q H1.o H2.o).mono ?_;rintro e w3 ⟨rfl,L⟩;have M:=vn V L;clear L i x1 xl;by_cases h:X<Y
 ·have F:qk (q1K a b=D-1):=vv (by rw[y.o,k0p h]);have dz:qf (z<0)=qq:=k04 (by rw[j,q4r (by omega)];decide);clear h j;go_wp2;go_ret;exact⟨q0X F.o.symm,M.o⟩
 ·have F:qk (q1K a b=D):=vv (by rw[y.o,k0r h]);have dz:qf (z<0)=qg:=k02 (by
   rw[j];rcases(by omega:(X:Int)=(Y:Int)\/(Y:Int)<(X:Int)) with e|e
   ·rw[e,q3x];decide
   ·rw[q4s e];decide)
  clear h j;go_wp2;go_ret;exact⟨q0X F.o.symm,M.o⟩
end Rnd
namespace A
open AB
open Go Go.RowKit
theorem qaK(y:Nat)(h:y<4294967296):bits .or .u32 0 (y:Int)=(y:Int):=by have:=u32_or_nat 0 y (by omega) h;rw[Nat.zero_or] at this;exact this
theorem Or0(g o gx ox gy oy:Nat)(v:Int)(X Y:Nat)(w:qe)(h:IntAt w g o v)(hx:IntAt w gx ox (X:Int))(hy:IntAt w gy oy (Y:Int))(sX:Sz X)(hY:Y<4294967296)(hX:X%4294967296=0):qi qb 173 #[.pointer (qd ⟨g,o,qa⟩),.pointer (qd ⟨gx,ox,qa⟩),.pointer (qd ⟨gy,oy,qa⟩)] w (q0B g o ((X+Y:Nat):Int) w):=by
 have O:=vv h;have a2:=hx.lt;have S:=hy.lt;obtain⟨A,n,c,h0,l,s,hz⟩:=hx.ex;obtain⟨B,m,d,k0,W,C,b3⟩:=hy.ex;rw[k08] at s C;have d4:m<=1:=C.bound (k:=1) (by rw[k1A];exact hY);have d5:=s.sz sX;obtain⟨L,hL⟩:∃L,max n m=L:=⟨_,rfl⟩;obtain⟨Z,hZ⟩:=yx (X+Y);rw[<- hZ];have HZ:=vv hZ;have d0:max (n:Int) (m:Int)=(L:Int):=by omega
 have b4:L<=35184372088832:=by omega
 have d6:(L:Int)<=35184372088832:=by omega
 have b5:=mk L b4;have d7:(n:Int)<=274877906944:=by omega
 have HY:=vv C;have T:n<=L:=by omega
 have b6:m<=L:=by omega
 have P:qk ((w.drew.alloc (.cells (madeCells #[.int .u32 0] L) 54)).heap[w.heap.size]?=qd (.cells (q0k (List.replicate L 0)).toArray 54 (0,0))):=vv (Own.made w.drew L 54).heap;have f:qk (qh w.heap.size w (w.drew.alloc (.cells (madeCells #[.int .u32 0] L) 54))):=vv ((q05 (qc _ w)).alloc lr _);have H2:=vv (s.below f.o rfl);have G:=vv s.len;have Hl:qk ((q0k (toL X)).length=Nat.min n L):=vv (by rw[show Nat.min n L=n from k0Y T];simp [q0k,G.o]);have Hf:qk (0+(q0k (toL X)).length<=(q0k (List.replicate L 0)).length):=vv (by simp [q0k,G.o];omega);have Hs:qk ((Tryz.prog.info? 54).map (·.size)=qd 1):=vv (by kernel_rfl);have b7:=vv hX;have H:=vv hY;have b8:=vv T;clear hX hz b3 hx hy h hZ hY T;go_enter func173,ntmps173;go_wp2_with fail;refine q02 (fun Q=>Q.cell? ⟨gx,ox+1,qa⟩=qd (.slice A n c)/\Q.cell? ⟨gy,oy+1,qa⟩=qd (.slice B m d)) 12
  (.still 0 (.still 1 (.still 2 (.still 3 (.still 4 (.still 5 (.still 6 (.still 7 (.still 8 (.still 9 (.still 10 (.one 11 .done)))))))))))) ⟨l,W⟩ (fun b9=>?_)
 iterate 11
  refine q03 ?_
 refine q01 rfl (by rfl) (fun K hK=>?_);go_simp;obtain⟨wn,I⟩:=yx ((w.alloc (.cells (madeCells #[.int .u32 0] L) 54)).drew);rw[<- I];have P:qk (wn.heap[w.heap.size]?=qd (.cells (q0k (List.replicate L 0)).toArray 54 (0,0))):=vv (by rw[I];exact P.o);have f:qk (qh w.heap.size w wn):=vv (by rw[I];exact⟨f.o.os,f.o.tape,f.o.output,f.o.size,f.o.block⟩);have H2:=vv (s.below f.o rfl);clear I;refine hK.out _ _ ⟨(f.o.cell (p:=⟨gx,ox+1,qa⟩) a2).trans l,(f.o.cell (p:=⟨gy,oy+1,qa⟩) S).trans W⟩ (fun a1=>?_);clear hK;refine q08 ?_;have j1:=(f.o.cell (p:=⟨gx,ox+1,qa⟩) a2).trans l;go_wp2_with (with_reducible refine wpList_copy_splice (o:=⟨qd 27,_,_,_,_,_⟩) rfl _ _ 35 35 rfl 54 underlying35 Hs.o _ _ L L n c rfl rfl w.heap.size 0 _ 54 P.o (q0k (toL X)) Hl.o (fun hp=>⟨rfl,(H2.o.copyPos (d:=qa) (e:=qa) rfl hp).2⟩) Hf.o (q1B (toL X)) w.heap.size w f.o lr ?_);intro j hh D;have e:splice (q0k (List.replicate L 0)) 0 (q0k (toL X))=q0k (toL X++List.replicate (L-n) 0):=by unfold splice q0k;rw[k2Z,k25,k10,k1U,G.o,List.map_replicate,List.drop_replicate,k2O,List.map_replicate]
 have J:Own j w.heap.size 54 (toL X++List.replicate (L-n) 0):=Own.of_heap (by have:=hh.o;rw[e] at this;exact this) (q0R.2 ⟨s.lim,q12 _⟩);obtain⟨q,M⟩:=yx (toL X++List.replicate (L-n) 0);have U:val q=X:=by rw[M,q1c,q0d,q04];simp
 have a3:q.length=L:=by rw[M,k16,G.o,k0H];have:=b8.o;omega
 rw[<- M] at J;have a0:nth q 0=0:=by rw[q3l J.2,U,k0B,k1b];exact b7.o
 have u:=vv J;have a4:=vv U;have y:=vv a3;have a5:=vv a0;have c0:=vv (O.o.below (D.mono lr));have N:=vv D;have j2:=(D.cell (p:=⟨gy,oy+1,qa⟩) S).trans W;have d1:gy<j.heap.size:=k03 S D.size;clear e J M U a3 a0 hh D b5 b9 a1 j1 P H2 f;rcases(by omega:m=0\/m=1) with rfl|rfl
 ·have a6:Y=0:=by
   have l:=HY.o.len;have R:val (toL Y)=val []:=by rw[k1G l]
   rw[q04] at R;exact R
  have c1:qk (Z=X):=vv (by rw[HZ.o,a6];rfl);clear a6;go_wp2;go_loop [33] (fun t=>t=.int .i64 0) (fun _=>0)
  case atStart=>rfl
  case round =>subst hrel;go_wp2_with fail;refine(trim (qd ⟨w.heap.size,0,qa⟩) L L q j (u.o.rd y.o.symm lr (by omega))).mono ?_;rintro e Q ⟨m',rfl,rfl,r⟩;rw[a4.o] at r;have HR:=vv r;clear r;go_wp2_with fail;refine(set_of g o v (Z:Int) qg _ m' L X j c0.o HR.o (fun a e=>by cases e;rfl) (by rw[k08,c1.o]) (by rw[qo];exact k02 (by omega))).mono ?_;rintro e w3 ⟨rfl,E,F⟩;have c2:=vv E;have c3:=vv (Fm.trans (Fm.of_below N.o O.o.lt) F);clear E F;go_wp2;go_ret;exact⟨rfl,c2.o,c3.o⟩
 ·have a7:nth (toL Y) 0=Y:=by rw[q19,k0B,k1b,k0E H.o]
  obtain⟨b,off,rfl,c4,hc⟩:=C.cell (by omega);have V:=hc 0 (by omega);rw[k1u,a7] at V;have d2:j.cell? ⟨b,off,qa⟩=qd (.int .u32 (Y:Int)):=(N.o.cell (p:=⟨b,off,qa⟩) c4).trans V;have a8:0<L:=by have:=b6;omega
  have c5:=u.o.cell (i:=0) (by rw[y.o];exact a8);rw[a5.o] at c5;have d8:=u.o.frozen 0;have d9:=u.o.lt;have hO:=qaK Y H.o;have e0:(Y:Int)<=4294967295:=by have:=H.o;omega
  have a9:=vv (u.o.set (i:=0) (x:=Y) (z:=(Y:Int)) (by rw[y.o];exact a8) H.o rfl);have c6:qk (val (q.set 0 Y)=Z):=vv (by
   have l:=a4.o;have R:=a5.o;have h3:=y.o;rcases q with _|⟨x,tl⟩
   ·exact absurd h3 (by simp;omega)
   ·have h4:x=0:=R;rw[h4] at l;show val (Y::tl)=Z;simp only[val] at l ⊢;rw[HZ.o];omega)
  have c7:qk ((q.set 0 Y).length=L):=vv (by rw[k0c];exact y.o);have b0:=vv (show IntAt (j.setCell ⟨w.heap.size,0,qa⟩ (.int .u32 (Y:Int))) g o v from O.o.below (N.o.setCell lr _));have b1:=vv (N.o.setCell (p:=⟨w.heap.size,0,qa⟩) lr (.int .u32 (Y:Int)));have d3:(0:Int)<(L:Int):=by omega
  clear hc V a7 C;go_wp2;go_loopw [33] (fun t wr=>(t=.int .i64 0/\wr=j)\/(t=.int .i64 1/\wr=j.setCell ⟨w.heap.size,0,qa⟩ (.int .u32 (Y:Int)))) (fun t _=>1-(intOf t).toNat)
  case atStart=>exact .inl ⟨rfl,rfl⟩
  case round =>
   rcases hrel with ⟨rfl,rfl⟩|⟨rfl,rfl⟩
   ·go_wp2;go_roundw
    case rel=>exact .inr ⟨by go_num,trivial⟩
    case measure=>simp [intOf]
   ·obtain⟨w3,b2⟩:=yx (j.setCell ⟨w.heap.size,0,qa⟩ (.int .u32 (Y:Int)));rw[<- b2] at a9 b0 b1 ⊢;clear b2;go_wp2_with fail;refine(trim (qd ⟨w.heap.size,0,qa⟩) L L (q.set 0 Y) w3 (a9.o.rd c7.o.symm lr (by omega))).mono ?_;rintro e Q ⟨m',rfl,rfl,r⟩;rw[c6.o] at r;have HR:=vv r;clear r;go_wp2_with fail;refine(set_of g o v (Z:Int) qg _ m' L Z w3 b0.o HR.o (fun a e=>by cases e;rfl) (by rw[k08]) (by rw[qo];exact k02 (by omega))).mono ?_;rintro e w4 ⟨rfl,E,F⟩;have c8:=vv E;have c9:=vv (Fm.trans (Fm.of_below b1.o O.o.lt) F);clear E F;go_wp2;go_ret;exact⟨rfl,c8.o,c9.o⟩
end A
namespace Rnd
open Go Go.RowKit R5
theorem q5d(xs:List Nat)(k:Nat):val (xs.drop k)*4294967296^k<=val xs:=by
 have h:=q1c (xs.take k) (xs.drop k);rw[k30] at h;rcases Nat.le_total k xs.length with a|a
 ·rw[k0v,k0Y a] at h;rw[h,k0g];omega
 ·rw[k0V a];simp [val]
theorem qcw(A:Option Addr)(n c N:Nat)(w:qe)(hr:Rd w A n c (toL N))(sN:Sz N):qi qb 89 #[q0x A n c] w (q0W (N:Int) w):=by
 have d4:=hr.sz sN;have d5:(n:Int)<=274877906944:=by omega
 have Z:=vv sN;have P:=(qc w.heap.size w).alloc (o:=.cells #[.slice A n c] 37) lr;have Q:(w.alloc (.cells #[.slice A n c] 37)).cell? ⟨w.heap.size,0,qa⟩=qd (.slice A n c):=by simp only[World.cell?];rw[qj];rfl
 obtain⟨i,u⟩:=yx (w.alloc (.cells #[.slice A n c] 37));rw[<- u] at P Q;have s0:i.heap.size=w.heap.size+1:=by rw[u];simp
 have C:=(qc i.heap.size i).alloc (o:=.cells #[.bool qg,.slice qa 0 0] 142) lr;have D:=IntAt.zero i 142;obtain⟨E,v⟩:=yx (i.alloc (.cells #[.bool qg,.slice qa 0 0] 142));rw[<- v] at C D;rw[s0] at D;have s1:E.heap.size=w.heap.size+2:=by rw[v];simp;omega
 have b1:qh w.heap.size w E:=P.trans (C.mono (by omega));have c1:=(C.cell (p:=⟨w.heap.size,0,qa⟩) (by show w.heap.size<i.heap.size;omega)).trans Q;have b9:=vv D;have c2:=vv b1;have c3:=vv c1;have c4:=vv s1;have c5:qk (E=(w.alloc (.cells #[.slice A n c] 37)).alloc (.cells #[.bool qg,.slice qa 0 0] 142)):=vv (by rw[v,u]);have R:=vv hr;have l1:w.heap.size<E.heap.size:=by omega
 clear P Q u s0 C D v s1 b1 hr sN;go_enter func89,ntmps89;go_wp2;rw[<- c5.o];clear c1 l1;go_loopw [4] (fun t wr=>∃(z:Int) (k:Nat),t=.int .i64 z/\z+1=k/\k<=n/\IntAt wr (w.heap.size+1) 0 ((val ((toL N).drop k):Nat):Int)/\wr.cell? ⟨w.heap.size,0,qa⟩=qd (.slice A n c)/\w.heap.size+1<wr.heap.size/\qh w.heap.size w wr) (fun t _=>(intOf t+1).toNat)
 case atStart=>exact⟨_,n,rfl,by omega,lr,by rw[k0V (by rw[R.o.len];exact lr)];exact b9.o,c3.o,by have:=c4.o;omega,c2.o⟩
 case round =>
  obtain⟨z,k,rfl,hz,hk,r,S,hl,T⟩:=hrel;have f:=vv r;have F:=vv S;have l:=vv T;rcases k01 k with rfl|d3
  ·obtain rfl:z = -1:=by omega
   rw[k0w,q04] at r;have f:=vv r;clear hz r S T;go_wp2;go_ret;exact⟨w.heap.size+1,rfl,by omega,f.o,l.o⟩
  ·obtain⟨j,rfl⟩:∃j,k=j+1:=⟨k-1,by omega⟩;obtain rfl:z=(j:Int):=by omega
   obtain⟨b,off,rfl,a5,a0⟩:=R.o.cell (by omega);have hx:=a0 j (by omega);have m:=vv (fun(w':qe) (h:qh w.heap.size w w')=>(h.cell (p:=⟨b,off+j,qa⟩) a5).trans hx);have U:nth (toL N) j<4294967296:=R.o.nth_lt j;obtain⟨V,G⟩:=yx (val ((toL N).drop (j+1)));have I:=q0t (toL N) j;obtain⟨y,W⟩:=yx (nth (toL N) j);rw[<- G,<- W] at I;rw[<- W] at U m;rw[<- G] at f;have J:=q5d (toL N) (j+1);rw[q04,<- G] at J;have L:4294967296^1<=4294967296^(j+1):=k00 (by omega) (by omega);rw[k1A] at L;have a6:V*4294967296<=N:=k07 (k0m V L) J;have Y:Sz (V*4294967296):=Sz.mono Z.o a6;have a7:Sz V:=Sz.mono Z.o (by omega);obtain⟨X,H⟩:=yx (V*4294967296);rw[<- H] at Y;have a8:=vv fun w' (h:IntAt w' (w.heap.size+1) 0 (V:Int))=>A.Lsh (w.heap.size+1) 0 (w.heap.size+1) 0 32 (V:Int) (V:Int) w' h h (by rw[k08];exact a7) (by omega)
   have a9:(V:Int)*2^32=(X:Int):=by rw[H];omega
   simp only[a9] at a8;have c6:=vv fun w' gy (h:IntAt w' (w.heap.size+1) 0 (X:Int)) (h':IntAt w' gy 0 (y:Int))=>A.Or0 (w.heap.size+1) 0 (w.heap.size+1) 0 gy 0 (X:Int) X y w' h h h' Y U (by omega)
   have c7:=vv fun w'=>A.NewInt (y:Int) w' (by omega) (by omega)
   have c8:qk (IntKind.i64.wrap (y:Int)=(y:Int)):=vv (ql _ (by omega));have a3:qk (val ((toL N).drop j)=X+y):=vv (by rw[I,H];omega);have d6:(j:Int)<(n:Int):=by omega
   have d7:(y:Int)<=4294967295:=by omega
   have d8:b<w.heap.size:=a5;have x:=vv hl;clear hz r S T a0 hx G I W J L a6 Y a7 H a9 U;go_wp2_with fail;refine q02 (fun w'=>w'.cell? ⟨w.heap.size,0,qa⟩=qd (.slice (qd ⟨b,off,qa⟩) n c)/\w'.cell? ⟨b,off+j,qa⟩=qd (.int .u32 (y:Int))) 12
    (.still 0 (.still 1 (.still 3 (.still 4 (.still 5 (.still 6 (.still 7 (.still 8 (.still 9 (.one 2 (.one 10 (.one 11 .done)))))))))))) ⟨F.o,m.o _ (q05 l.o)⟩ (fun b0=>?_)
   obtain⟨wc,g⟩:=yx (wr.drew);have f:qk (IntAt wc (w.heap.size+1) 0 (V:Int)):=vv (by rw[g];exact f.o.drew);have l:qk (qh w.heap.size w wc):=vv (by rw[g];exact q05 l.o);have F:qk (wc.cell? ⟨w.heap.size,0,qa⟩=qd (.slice (qd ⟨b,off,qa⟩) n c)):=vv (by rw[g];exact F.o);have x:qk (w.heap.size+1<wc.heap.size):=vv (by rw[g];exact x.o);rw[<- g] at b0 ⊢;clear g hl
   iterate 9
    refine q03 ?_
   refine q01 rfl (by rfl) (fun K hK=>?_);go_simp;refine(a8.o _ f.o).mono ?_;rintro e w2 ⟨rfl,hi,s⟩;have d:=s.fs f.o hi;have c9:=vv hi;have b2:=vv (d.below l.o (by have:=l.o.size;omega) (by intro p a;simp at a;rw[a];simp));have b3:=vv (Fs.cell0 d F.o (by have:=x.o;omega) (by intro p a;simp at a;rw[a];simp));have a1:=vv (k03 x.o d.size);clear hi s d;go_wp2_with fail;refine hK.out _ _ ⟨b3.o,m.o _ b2.o⟩ (fun M=>?_);clear hK;refine q01 rfl (by rfl) (fun K hK=>?_);go_simp;rw[c8.o];refine(c7.o _).mono ?_;rintro e w3 ⟨g3,rfl,d0,b4,q⟩;have d1:=vv b4;have b5:=vv (c9.o.below q);have O:=vn b2 q;have b6:=vv ((q.cell (p:=⟨w.heap.size,0,qa⟩) (by show w.heap.size<w2.heap.size;have:=a1.o;omega)).trans b3.o);have a2:=vv (k03 a1.o q.size);clear d0 b4 q;go_wp2_with fail;refine hK.out _ _ ⟨b6.o,m.o _ O.o⟩ (fun M=>?_);clear hK;refine q01 rfl (by rfl) (fun K hK=>?_);go_simp;refine(c6.o _ g3 b5.o d1.o).mono ?_;rintro e w4 ⟨rfl,hi,s⟩;have d:=s.fs b5.o hi;have d2:=vv hi;have b7:=vv (d.below O.o (by have:=O.o.size;omega) (by intro p a;simp at a;rw[a];simp));have b8:=vv (Fs.cell0 d b6.o (by have:=a2.o;omega) (by intro p a;simp at a;rw[a];simp));have a4:=vv (k03 a2.o d.size);clear hi s d;go_wp2_with fail;refine hK.out _ _ ⟨b8.o,m.o _ b7.o⟩ (fun M=>?_);clear hK;refine q0T rfl ?_;clear M b0;go_wp2;go_roundw
   case rel=>exact⟨_,j,rfl,by omega,by omega,by rw[a3.o];exact d2.o,b8.o,a4.o,b7.o⟩
   case measure=>simp [intOf]
end Rnd
namespace Rtp
open Go Go.RowKit R5
theorem q7V(g o:Nat)(u:Int)(w:qe)(h:IntAt w g o u)(hb:bl u.natAbs<=524288):qi qb 210 #[.pointer (qd ⟨g,o,qa⟩)] w fun e w'=>e=.returned (.bool qg)/\w=w':=by
 have a:=vv (A.BitLen g o u w h);obtain⟨l,b⟩:=yx (bl u.natAbs);rw[<- b] at a hb;have d:qf ((524288:Int)<(l:Int))=qg:=k02 (by omega);have c:(l:Int)<=524288:=by omega
 clear b hb h;go_enter func210,ntmps210;go_wp2_with fail;refine a.o.mono ?_;rintro e w' ⟨rfl,rfl⟩;go_wp2;go_ret;exact⟨rfl,rfl⟩
abbrev qcs(neg:Bool)(n m:Nat):qp:=.agg #[.bool neg,.int .i64 (n:Int),.int .i64 (m:Int)]
theorem seen(neg:Bool)(A:Option Addr)(n c:Nat)(B':Option Addr)(m d:Nat)(w:qe):qi qb 202 #[q0m neg A n c B' m d] w fun e w'=>e=.returned (qcs neg n m)/\qh w.heap.size w w':=by go_enter func202,ntmps202;go_wp2;exact qm (v:=qcs neg n m) (by simp [results,results202,go_sem]) rfl ⟨rfl,((qc _ _).alloc lr _).alloc (by simp) _⟩
structure RtCell(w:qe)(g:Nat):Prop where
 c0:w.cell? ⟨g,0,qa⟩=qd (.bool qg)
 c1:w.cell? ⟨g,1,qa⟩=qd (.slice qa 0 0)
 c2:w.cell? ⟨g,2,qa⟩=qd (.slice qa 0 0)
 fz:∀j,w.frozen? ⟨g,j,qa⟩=qg
 lt:g<w.heap.size
theorem RtCell.made(w:qe)(t:TypeId):RtCell (w.alloc (.cells #[.bool qg,.slice qa 0 0,.slice qa 0 0] t)) w.heap.size:=by constructor<;>first|(simp only[World.cell?];rw[qj];rfl)|(intro j;simp only[World.frozen?];rw[qj];simp)|simp
theorem RtCell.below(h:RtCell w g)(hb:qh w.heap.size w w'):RtCell w' g:=⟨(hb.cell (p:=⟨g,0,qa⟩) h.lt).trans h.c0,(hb.cell (p:=⟨g,1,qa⟩) h.lt).trans h.c1,(hb.cell (p:=⟨g,2,qa⟩) h.lt).trans h.c2,fun j=>(hb.frozen (p:=⟨g,j,qa⟩) h.lt).trans (h.fz j),k03 h.lt hb.size⟩
theorem qbT(g:Nat)(p:Int)(d:Nat)(w:qe)(h:RatAt w g p d)(h1:bl (lp p d).natAbs<=524288)(h2:bl (ld p d)<=524288):qi qb 121 #[.pointer (qd ⟨g,0,qa⟩)] w fun e w'=>∃X n Y m,e=.returned (.tuple #[q0m (qf (p<0)) X n n Y m m,.int .i64 0])/\Rd w' X n n (toL (lp p d).natAbs)/\Rd w' Y m m (toL (ld p d))/\qh w.heap.size w w':=by
 obtain⟨w0,s⟩:=yx (w.alloc (.cells #[.bool qg,.slice qa 0 0,.slice qa 0 0] 39));have O:qh w.heap.size w w0:=by rw[s];exact(qc _ w).alloc lr _
 have r0:RtCell w0 w.heap.size:=by rw[s];exact RtCell.made _ _
 have a0:=vv s;have f:=vv O;have b:=vv r0;have c:=vv (h.below O);have J:=vv fun w' (h:RatAt w' g p d)=>A.Num g p d w' h
 have L:=vv fun w' (h:RatAt w' g p d)=>A.Denom g p d w' h
 have Q:=vv fun w' (h:RatAt w' g p d)=>A.RSign g p d w' h
 obtain⟨P,hP⟩:=yx (lp p d);obtain⟨D,hD⟩:=yx (ld p d);rw[<- hP] at J h1 ⊢;rw[<- hD] at L h2 ⊢;have a1:=vv fun w' g (h:IntAt w' g 0 P)=>q7V g 0 P w' h h1
 have a2:=vv fun w' g (h:IntAt w' g 0 (D:Int))=>q7V g 0 (D:Int) w' h (by rw[k08];exact h2)
 have a3:=vv fun w' g (h:IntAt w' g 0 P)=>qaY g 0 P w' h (by omega)
 have R:=vv fun w' g (h:IntAt w' g 0 (D:Int))=>qaY g 0 (D:Int) w' h (by rw[k08];omega)
 simp only[k08] at R;obtain⟨neg,M⟩:=yx (qf (p<0));obtain⟨sg,N⟩:=yx (p.sign);have b9:qf (sg<0)=neg:=by
  rw[M,N];rcases k11 p 0 with h|h|h
  ·rw[k1a h,k04 h];rfl
  ·rw[h];rfl
  ·rw[k0M h,k02 (p:=p<0) (by omega)];rfl
 rw[<- M];rw[<- N] at Q;clear h s O r0 hP hD h1 h2 M N;go_enter func121,ntmps121;go_wp2_with fail;rw[<- a0.o];refine(J.o _ c.o).mono ?_;rintro e w1 ⟨g1,rfl,a4,S,t⟩;have a5:=vv S;have c:=vv (c.o.below t);have b:=vv (b.o.below t);have f:=vn f t;clear a4 S t;go_wp2_with fail;refine(a1.o _ g1 a5.o).mono ?_;rintro e w' ⟨rfl,rfl⟩;go_wp2_with fail;refine(L.o _ c.o).mono ?_;rintro e w2 ⟨g2,rfl,a6,T,u⟩;have a7:=vv T;have c:=vv (c.o.below u);have b:=vv (b.o.below u);have f:=vn f u;clear a6 T u;go_wp2_with fail;refine(a2.o _ g2 a7.o).mono ?_;rintro e w' ⟨rfl,rfl⟩;go_wp2_with fail;refine(Q.o _ c.o).mono ?_;rintro e w' ⟨rfl,rfl⟩;go_wp2_with fail;refine(J.o _ c.o).mono ?_;rintro e w3 ⟨g3,rfl,a8,U,x⟩;have a9:=vv U;have c:=vv (c.o.below x);have b:=vv (b.o.below x);have f:=vn f x;clear a8 U x;go_wp2_with fail;refine(a3.o _ g3 a9.o).mono ?_;rintro e w4 ⟨X,n,rfl,hX,V,y⟩;have b1:qk (Fr (w.heap.size+1) X):=vv (V.mono (by have:=b.o.lt;omega));have r:=vv hX;have c:=vv (c.o.below y);have b:=vv (b.o.below y);have f:=vn f y;clear hX V y;go_wp2_with fail;refine(L.o _ c.o).mono ?_;rintro e w5 ⟨g5,rfl,b2,W,z⟩;have b3:=vv W;have r:=vv (r.o.below z rfl);have b:=vv (b.o.below z);have f:=vn f z;clear b2 W z c;go_wp2_with fail;refine(R.o _ g5 b3.o).mono ?_;rintro e w6 ⟨Y,m,rfl,hY,Z,C⟩;have b4:qk (Fr (w.heap.size+1) Y):=vv (Z.mono (by have:=b.o.lt;omega));have HY:=vv hY;have r:=vv (r.o.below C rfl);have b:=vv (b.o.below C);have f:=vn f C;clear hY Z C;have c0:=b.o.c0;have c1:=b.o.c1;have c2:=b.o.c2;have fz:=b.o.fz;have lt:=b.o.lt;obtain⟨q,k⟩:=yx (((w6.setCell ⟨w.heap.size,0,qa⟩ (.bool neg)).setCell ⟨w.heap.size,1,qa⟩ (.slice X n n)).setCell ⟨w.heap.size,2,qa⟩ (.slice Y m m));have E:∀a,X=qd a->a.block≠w.heap.size:=fun a e=>by have:=(b1.o a e).1;omega
 have F:∀a,Y=qd a->a.block≠w.heap.size:=fun a e=>by have:=(b4.o a e).1;omega
 have b5:qk (Rd q X n n (toL P.natAbs)):=vv (by rw[k];exact((r.o.other _ _ _ E).other _ _ _ E).other _ _ _ E);have b6:qk (Rd q Y m m (toL D)):=vv (by rw[k];exact((HY.o.other _ _ _ F).other _ _ _ F).other _ _ _ F);have b7:qk (qh w.heap.size w q):=vv (by rw[k];exact((f.o.setCell lr _).setCell lr _).setCell lr _);have l:∀i j:Nat,i≠j->(⟨w.heap.size,i,qa⟩:Addr)≠⟨w.heap.size,j,qa⟩:=fun i j h e=>by injection e with _ e;exact h e
 have G:q.cell? ⟨w.heap.size,0,qa⟩=qd (.bool neg):=by rw[k,q0u (l 2 0 (by decide)),q0u (l 1 0 (by decide))];exact q0v c0
 have H:q.cell? ⟨w.heap.size,1,qa⟩=qd (.slice X n n):=by rw[k,q0u (l 2 1 (by decide))];exact q0v ((q0u (l 0 1 (by decide))).trans c1)
 have I:q.cell? ⟨w.heap.size,2,qa⟩=qd (.slice Y m m):=by rw[k];exact q0v ((q0u (l 1 2 (by decide))).trans ((q0u (l 0 2 (by decide))).trans c2))
 have b8:=vv k;have K:=vv (And.intro G (And.intro H I));clear k E F l G H I;go_wp2;rw[<- b8.o];obtain⟨G,H,I⟩:=K.o;exact qm (v:=.tuple #[q0m neg X n n Y m m,.int .i64 0]) (by simp [results,results121,go_sem,G,H,I]) rfl ⟨X,n,Y,m,rfl,b5.o,b6.o,b7.o⟩
end Rtp
end Go.Proofs.YtabcgemembkkcaaGreatDoor
