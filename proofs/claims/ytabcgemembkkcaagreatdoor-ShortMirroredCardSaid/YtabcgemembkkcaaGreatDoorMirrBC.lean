/- Lemmas. -/
import Derived.Test.YtabcgemembkkcaaGreatDoorMirrAY
import Derived.Test.YtabcgemembkkcaaGreatDoorMirrAZ
import Derived.Test.YtabcgemembkkcaaGreatDoorMirrBA
import Derived.Laws.EntriesVeiled
set_option linter.all false
set_option maxHeartbeats 2000000
set_option maxRecDepth 100000
open Go.Proofs.Tryz
open Option renaming none->qa,some->qd
open Go.Proofs.Tryz renaming prog->qb
open Go renaming RowKit.Below.refl->qc,World->qe,Calls->qi,heap_alloc_new->qj,IntWalk.i64_in->ql,bodyPost_ret->qm,IntKind.wrap_u64->qn,Value->qp
open Decidable renaming decide->qf
open Bool renaming false->qg,false_and->qo,true->qq
open Go.RowKit renaming Below->qh,Hid->qk
namespace Go.Proofs.YtabcgemembkkcaaGreatDoor
variable{neg:Bool}{w w':qe}{g gn on gd od:Nat}
namespace Lex
open Go Go.RowKit R5
end Lex
namespace Rnd
open Go Go.RowKit R5
theorem qbp(n:Int)(b:Nat)(w:qe)(h1:-4611686018427387904<=n)(h2:n<=4611686018427387904)(hb:(b:Int)<=35184372088832):qi qb 90 #[.int .i64 n,.int .i64 (b:Int)] w fun e w'=>e=.returned (.int .i64 (q3u n (b+1200)))/\w=w':=by have a:qk (q3u n ((b:Int)+1200)=max (-(b:Int)-1200) (min n ((b:Int)+1200))):=vv (by unfold q3u;omega);go_enter func90,ntmps90;go_wp2;go_ret;exact⟨q0U a.o.symm,rfl⟩
abbrev q8b(neg odd:Bool)(half:Int):qp:=.agg #[.bool neg,.bool odd,.int .i64 half]
theorem q32(neg odd:Bool)(half:Int)(w:qe):qi qb 350 #[q8b neg odd half] w fun e w'=>e=.returned (.bool (q2U neg 0 odd half))/\qh w.heap.size w w':=by
 have b:qk (q2U neg 0 odd half=(qf (0<half) || (qf (half=0) && odd))):=vv rfl;by_cases h1:0<half
 ·have a:qk (q2U neg 0 odd half=qq):=vv (by rw[b.o,k03 h1];rfl);have c:qf (0<half)=qq:=k03 h1;clear h1;go_enter func350,ntmps350;go_wp2;go_ret;exact⟨q4K a.o.symm,(qc _ _).alloc lr _⟩
 have c:qf (0<half)=qg:=k00 h1;by_cases h2:half=0
 ·have a:qk (q2U neg 0 odd half=odd):=vv (by rw[b.o,k00 h1,k03 h2];simp);have d:(half==0)=qq:=by rw[h2];rfl
  clear h1 h2;go_enter func350,ntmps350;go_wp2;go_ret;exact⟨q4K a.o.symm,(qc _ _).alloc lr _⟩
 ·have a:qk (q2U neg 0 odd half=qg):=vv (by rw[b.o,k00 h1,k00 h2];rfl);have d:(half==0)=qg:=by rw[k09];exact h2
  clear h1 h2;go_enter func350,ntmps350;go_wp2;go_ret;exact⟨q4K a.o.symm,(qc _ _).alloc lr _⟩
theorem qdl(neg odd:Bool)(half:Int)(w:qe):qi qb 351 #[q8b neg odd half] w fun e w'=>e=.returned (.bool (q2U neg 1 odd half))/\qh w.heap.size w w':=by have a:qk (q2U neg 1 odd half=qf (0<=half)):=vv rfl;go_enter func351,ntmps351;go_wp2;go_ret;exact⟨q4K a.o.symm,(qc _ _).alloc lr _⟩
theorem zero(neg odd:Bool)(half:Int)(w:qe):qi qb 352 #[q8b neg odd half] w fun e w'=>e=.returned (.bool (q2U neg 2 odd half))/\qh w.heap.size w w':=by have a:qk (q2U neg 2 odd half=qg):=vv rfl;go_enter func352,ntmps352;go_wp2;go_ret;exact⟨q4K a.o.symm,(qc _ _).alloc lr _⟩
theorem up(neg odd:Bool)(half:Int)(w:qe):qi qb 353 #[q8b neg odd half] w fun e w'=>e=.returned (.bool (q2U neg 3 odd half))/\qh w.heap.size w w':=by have a:qk (q2U neg 3 odd half=!neg):=vv rfl;go_enter func353,ntmps353;go_wp2;go_ret;exact⟨q4K a.o.symm,(qc _ _).alloc lr _⟩
theorem down(neg odd:Bool)(half:Int)(w:qe):qi qb 354 #[q8b neg odd half] w fun e w'=>e=.returned (.bool (q2U neg 4 odd half))/\qh w.heap.size w w':=by have a:qk (q2U neg 4 odd half=neg):=vv rfl;go_enter func354,ntmps354;go_wp2;go_ret;exact⟨q4K a.o.symm,(qc _ _).alloc lr _⟩
abbrev q3e:qp:=.agg #[.func (.func 350) #[] #[],.func (.func 351) #[] #[],.func (.func 352) #[] #[],.func (.func 353) #[] #[],.func (.func 354) #[] #[]]
theorem qcu(w:qe):qi qb 321 #[] w fun e w'=>e=.returned q3e/\qh w.heap.size w w':=by go_enter func321,ntmps321;go_wp2;exact qm (v:=q3e) (by simp [results,results321,go_sem]) rfl ⟨rfl,(qc _ _).alloc lr _⟩
@[go_sem] theorem qdO(w:qe):(Instr.index 293 q3e (.int .u8 0)).run qb w=.ok (.func (.func 350) #[] #[]) w:=by kernel_rfl
@[go_sem] theorem qdN(w:qe):(Instr.index 293 q3e (.int .u8 1)).run qb w=.ok (.func (.func 351) #[] #[]) w:=by kernel_rfl
@[go_sem] theorem qdM(w:qe):(Instr.index 293 q3e (.int .u8 2)).run qb w=.ok (.func (.func 352) #[] #[]) w:=by kernel_rfl
@[go_sem] theorem qdL(w:qe):(Instr.index 293 q3e (.int .u8 3)).run qb w=.ok (.func (.func 353) #[] #[]) w:=by kernel_rfl
@[go_sem] theorem qdK(w:qe):(Instr.index 293 q3e (.int .u8 4)).run qb w=.ok (.func (.func 354) #[] #[]) w:=by kernel_rfl
def q7X(v:Nat)(same:Bool)(w:qe)(e:Ending)(w':qe):Prop:=∃g,e=.returned (.tuple #[.pointer (qd ⟨g,0,qa⟩),.bool same])/\w.heap.size<=g/\IntAt w' g 0 (v:Int)/\qh w.heap.size w w'
theorem q95(a b:Nat):q1Z (a:Int) (b:Int)=q0F a b:=by rw[q46 (by omega) (by omega),k05,k05]
theorem qbd{mode a b:Nat}(h:a%b≠0):rnd neg mode a b=if q2U neg mode (qf (a/b%2=1)) (q0F (2*(a%b)) b) then a/b+1 else a/b:=k0o h
structure BetBox(w:qe)(g:Nat)(neg odd:Bool)(half:Int):Prop where
 c0:w.cell? ⟨g,0,qa⟩=qd (.bool neg)
 c1:w.cell? ⟨g,1,qa⟩=qd (.bool odd)
 c2:w.cell? ⟨g,2,qa⟩=qd (.int .i64 half)
 lt:g<w.heap.size
theorem BetBox.made(w:qe)(neg odd:Bool)(half:Int)(t:TypeId):BetBox (w.alloc (.cells #[.bool neg,.bool odd,.int .i64 half] t)) w.heap.size neg odd half:=by constructor<;>first|(simp only[World.cell?];rw[qj];rfl)|simp
theorem BetBox.below{odd:Bool}{half:Int}(h:BetBox w g neg odd half)(hb:qh w.heap.size w w'):BetBox w' g neg odd half:=⟨(hb.cell (p:=⟨g,0,qa⟩) h.lt).trans h.c0,(hb.cell (p:=⟨g,1,qa⟩) h.lt).trans h.c1,(hb.cell (p:=⟨g,2,qa⟩) h.lt).trans h.c2,k02 h.lt hb.size⟩
theorem q5V(gx ox gy oy a b:Nat)(neg:Bool)(mode:Nat)(w:qe)(hx:IntAt w gx ox (a:Int))(hy:IntAt w gy oy (b:Int))(hb:0<b)(sa:Sz a)(sb:Sz b)(h0:a%b=0):qi qb 268 #[.pointer (qd ⟨gx,ox,qa⟩),.pointer (qd ⟨gy,oy,qa⟩),.bool neg,.int .u8 (mode:Int)] w (q7X (rnd neg mode a b) qq w):=by
 have sq:Sz (a/b):=Sz.mono sa (k0e a b);have F:Sz (a%b):=Sz.mono sb (k16 (k0j a hb));have f:=fun(c:qe) (g gr:Nat) (h:IntAt c g 0 0) (hz:IntAt c gr 0 0) (N:IntAt c gx ox a) (O:IntAt c gy oy b) (P:g≠gr)=>A.QuoRem g 0 gx ox gy oy gr 0 0 (a:Int) (b:Int) 0 c h N O hz P (by omega) (by rw[k05];exact sa)
 have G:qf ((a:Int)<0)=qg:=k00 (by omega);have H:qf ((b:Int)<0)=qg:=k00 (by omega);simp only[G,H,k05,bne_self_eq_false] at f;obtain⟨q,t⟩:=yx (a/b);obtain⟨r,u⟩:=yx (a%b);simp only[<- t,<- u] at f sq F;have Q:=vv f;have v:=(qc w.heap.size w).alloc (o:=.cells #[.bool qg,.slice qa 0 0] 142) lr;have x:=IntAt.zero w 142;obtain⟨d,i⟩:=yx (w.alloc (.cells #[.bool qg,.slice qa 0 0] 142));rw[<- i] at v x;have I:d.heap.size=w.heap.size+1:=by rw[i];simp
 have k:=(qc d.heap.size d).alloc (o:=.cells #[.bool qg,.slice qa 0 0] 142) lr;have l:=IntAt.zero d 142;obtain⟨m,j⟩:=yx (d.alloc (.cells #[.bool qg,.slice qa 0 0] 142));rw[<- j] at k l;rw[I] at l;have n:qh w.heap.size w m:=v.trans (k.mono (by omega));have J:m.heap.size=w.heap.size+2:=by rw[j];simp;omega
 have R:=vv (x.below k);have S:=vv l;have HX:=vv hx;have HY:=vv hy;have T:=vv (hx.below n);have U:=vv (hy.below n);have W:=vv n;have X:=vv J;have y:=hy.lt;have Y:qk (m=(w.alloc (.cells #[.bool qg,.slice qa 0 0] 142)).alloc (.cells #[.bool qg,.slice qa 0 0] 142)):=vv (by rw[j,i]);have a2:=vv y;have K:qk (rnd neg mode a b=q):=vv (by unfold rnd;rw[k0n h0,t]);obtain⟨V,L⟩:=yx (rnd neg mode a b);rw[<- L] at K ⊢;have z:r=0:=by rw[u];exact h0
 have ts:((r:Int).sign==0)=qq:=by rw[z];rfl
 clear hx hy sa v k x l n I J i j f G H y L t u h0 z hb sb sq F;go_enter func268,ntmps268;go_wp2_with fail;rw[<- Y.o];refine(Q.o m w.heap.size (w.heap.size+1) R.o S.o T.o U.o (by omega)).mono ?_;rintro e s ⟨rfl,C,D,E⟩;have Z:=vv (show IntAt s w.heap.size 0 (q:Int) from C);have a0:=vv (show IntAt s (w.heap.size+1) 0 (r:Int) from D);have a1:qk (qh w.heap.size w s):=vv (E.below W.o (by have:=X.o;omega) (by intro p M;simp at M;rcases M with rfl|rfl<;>simp));clear C D E;go_wp2_with fail;refine(A.Sign (w.heap.size+1) 0 (r:Int) s a0.o).mono ?_;rintro e c ⟨rfl,rfl⟩;go_wp2;go_ret2;exact⟨w.heap.size,rfl,lr,by rw[K.o];exact Z.o,a1.o⟩
theorem q8g(mode:Nat)(hm:mode<=4)(gx ox gy oy a b:Nat)(neg:Bool)(w:qe)(hx:IntAt w gx ox (a:Int))(hy:IntAt w gy oy (b:Int))(hb:0<b)(sa:Sz a)(sb:Sz b)(h0:a%b≠0):qi qb 268 #[.pointer (qd ⟨gx,ox,qa⟩),.pointer (qd ⟨gy,oy,qa⟩),.bool neg,.int .u8 (mode:Int)] w (q7X (rnd neg mode a b) qg w):=by
 have sq:Sz (a/b):=Sz.mono sa (k0e a b);have U:Sz (a%b):=Sz.mono sb (k16 (k0j a hb));have C:=fun(c:qe) (g gr:Nat) (h:IntAt c g 0 0) (hz:IntAt c gr 0 0) (c6:IntAt c gx ox a) (c7:IntAt c gy oy b) (c8:g≠gr)=>A.QuoRem g 0 gx ox gy oy gr 0 0 (a:Int) (b:Int) 0 c h c6 c7 hz c8 (by omega) (by rw[k05];exact sa)
 have ea:qf ((a:Int)<0)=qg:=k00 (by omega);have eb:qf ((b:Int)<0)=qg:=k00 (by omega);simp only[ea,eb,k05,bne_self_eq_false] at C;obtain⟨q,W⟩:=yx (a/b);obtain⟨r,X⟩:=yx (a%b);simp only[<- W,<- X] at C sq U;have c9:=vv C;have Y:=(qc w.heap.size w).alloc (o:=.cells #[.bool qg,.slice qa 0 0] 142) lr;have Z:=IntAt.zero w 142;obtain⟨u,D⟩:=yx (w.alloc (.cells #[.bool qg,.slice qa 0 0] 142));rw[<- D] at Y Z;have s1:u.heap.size=w.heap.size+1:=by rw[D];simp
 have G:=(qc u.heap.size u).alloc (o:=.cells #[.bool qg,.slice qa 0 0] 142) lr;have H:=IntAt.zero u 142;obtain⟨I,E⟩:=yx (u.alloc (.cells #[.bool qg,.slice qa 0 0] 142));rw[<- E] at G H;rw[s1] at H;have J:qh w.heap.size w I:=Y.trans (G.mono (by omega));have s2:I.heap.size=w.heap.size+2:=by rw[E];simp;omega
 have d0:=vv (Z.below G);have d1:=vv H;have HX:=vv hx;have HY:=vv hy;have d2:=vv (hx.below J);have d3:=vv (hy.below J);have d4:=vv J;have d5:=vv s2;have a5:=hy.lt;have d6:qk (I=(w.alloc (.cells #[.bool qg,.slice qa 0 0] 142)).alloc (.cells #[.bool qg,.slice qa 0 0] 142)):=vv (by rw[E,D]);have f9:=vv a5;have t:=qbd (neg:=neg) (mode:=mode) h0;rw[<- W,<- X] at t;have d7:0<r:=by omega
 have ts:((r:Int).sign==0)=qg:=by rw[k0r (by omega)];rfl
 obtain⟨f,M⟩:=yx (qf (q%2=1));obtain⟨i,N⟩:=yx (q0F (2*r) b);obtain⟨s,n⟩:=yx (q2U neg mode f i);rw[<- M,<- N,<- n] at t;obtain⟨V,hV⟩:=yx (rnd neg mode a b);rw[<- hV] at t ⊢;have HV:=vv t;have d8:=vv fun c (h:IntAt c (w.heap.size+1) 0 (r:Int))=>A.Lsh (w.heap.size+1) 0 (w.heap.size+1) 0 1 (r:Int) (r:Int) c h h (by rw[k05];exact U) (by omega)
 have a6:=vv fun c (h:IntAt c (w.heap.size+1) 0 ((r:Int)*2^1)) (h':IntAt c gy oy (b:Int))=>A.Cmp (w.heap.size+1) 0 gy oy _ _ c h h'
 have ec:q1Z ((r:Int)*2^1) (b:Int)=i:=by
  have e:(r:Int)*2^1=((2*r:Nat):Int):=by omega
  rw[e,q95,<- N]
 simp only[ec] at a6;obtain⟨l,a7⟩:∃z:Int,z=(mode:Int):=⟨_,rfl⟩;rw[<- a7];have d9:=vv fun(h:l=0) c=>(show qi qb 350 #[q8b neg f i] c fun e w''=>e=.returned (.bool s)/\qh c.heap.size c w'' by rw[n,show mode=0 by omega];exact q32 neg f i c)
 have e0:=vv fun(h:l=1) c=>(show qi qb 351 #[q8b neg f i] c fun e w''=>e=.returned (.bool s)/\qh c.heap.size c w'' by rw[n,show mode=1 by omega];exact qdl neg f i c)
 have e1:=vv fun(h:l=2) c=>(show qi qb 352 #[q8b neg f i] c fun e w''=>e=.returned (.bool s)/\qh c.heap.size c w'' by rw[n,show mode=2 by omega];exact zero neg f i c)
 have e2:=vv fun(h:l=3) c=>(show qi qb 353 #[q8b neg f i] c fun e w''=>e=.returned (.bool s)/\qh c.heap.size c w'' by rw[n,show mode=3 by omega];exact up neg f i c)
 have e3:=vv fun(h:l=4) c=>(show qi qb 354 #[q8b neg f i] c fun e w''=>e=.returned (.bool s)/\qh c.heap.size c w'' by rw[n,show mode=4 by omega];exact down neg f i c)
 have e4:qk (l=0\/l=1\/l=2\/l=3\/l=4):=vv (by omega);have e5:qk (((q:Int)%2==1)=f):=vv (by
  rw[M];by_cases h:q%2=1
  ·rw[k03 h,k1S];omega
  ·rw[k00 h,k09];omega)
 have e6:=vv fun c g1 (h:IntAt c w.heap.size 0 (q:Int)) (h1:IntAt c g1 0 1)=>A.Add w.heap.size 0 w.heap.size 0 g1 0 (q:Int) (q:Int) 1 c h h h1 (by rw[k05];exact sq) (by unfold Sz;decide)
 clear hx hy sa Y G Z H J s1 s2 D E C ea eb a5 hV W X h0 d7 hb sb sq U M N n ec t a7 hm;go_enter func268,ntmps268;go_wp2_with fail;rw[<- d6.o];refine(c9.o I w.heap.size (w.heap.size+1) d0.o d1.o d2.o d3.o (by omega)).mono ?_;rintro e x ⟨rfl,a8,a9,b0⟩;have b1:=vv (show IntAt x w.heap.size 0 (q:Int) from a8);have O:=vv (show IntAt x (w.heap.size+1) 0 (r:Int) from a9);have b3:qk (qh w.heap.size w x):=vv (b0.below d4.o (by have:=d5.o;omega) (by intro p m;simp at m;rcases m with rfl|rfl<;>simp));clear a8 a9 b0;go_wp2_with fail;refine(A.Sign (w.heap.size+1) 0 (r:Int) x O.o).mono ?_;rintro e c ⟨rfl,rfl⟩;go_wp2_with fail;refine(A.Bit0 w.heap.size 0 (q:Int) x b1.o).mono ?_;rintro e c ⟨rfl,rfl⟩;go_wp2_with fail;refine(d8.o _ O.o).mono ?_;rintro e w4 ⟨rfl,P,b4⟩;have Q:=b4.fs O.o P;have e7:=vv P;have e8:=vv (b1.o.fs1 Q (by omega));have b5:=vv (Q.below b3.o (by have:=b3.o.size;omega) (by intro p m;simp at m;rw[m];simp));have e9:=vv (HY.o.below b5.o);clear P b4 Q;go_wp2_with fail;refine(a6.o _ e7.o e9.o).mono ?_;rintro e y ⟨rfl,R⟩;have f0:=vv (e8.o.below R);have f1:=vn b5 R;clear R;go_wp2_with fail;rw[e5.o];have L:=(qc y.heap.size y).alloc (o:=.cells #[.bool neg,.bool f,.int .i64 i] 291) lr;have x6:=BetBox.made y neg f i 291;obtain⟨w6,b6⟩:=yx (y.alloc (.cells #[.bool neg,.bool f,.int .i64 i] 291));rw[<- b6] at L x6 ⊢;have j:=vv x6;have f2:=vv (f0.o.below L);have f3:=vn f1 L;clear L x6 b6;obtain⟨g6,b7⟩:=yx (y.heap.size);rw[<- b7] at j ⊢;clear b7;rcases e4.o with rfl|rfl|rfl|rfl|rfl;all_goals
  refine q02 (fun c=>c.cell? ⟨g6,0,qa⟩=qd (.bool neg)/\c.cell? ⟨g6,1,qa⟩=qd (.bool f)/\c.cell? ⟨g6,2,qa⟩=qd (.int .i64 i)) 5
   (.still 1 (.still 3 (.one 0 (.still 2 (.one 4 .done))))) (by kernel_rfl) (by kernel_rfl) (fun _ _ d _ _ h=>by cases d<;>exact h) ⟨j.o.c0,j.o.c1,j.o.c2⟩ (fun hS0=>?_)
  iterate 2
   refine q01 (v:=?_) rfl (by rfl) ?_ ?_;rotate_left
   ·intro w f4;go_simp;with_reducible rfl
   simp only[Act.put,sa,sb,sc]
  refine q03 rfl (by rfl) (fun K hK=>?_);go_simp;refine(qcu _).mono ?_;rintro e w7 ⟨rfl,k⟩;have k:qh w6.heap.size w6 w7:=⟨k.os,k.tape,k.output,k.size,k.block⟩;have j:=vv (j.o.below k);have f5:=vv (f2.o.below k);have f6:=vn f3 k;clear k;go_wp2_with fail;refine hK.out _ _ ⟨j.o.c0,j.o.c1,j.o.c2⟩ (fun a0=>?_);clear hK
  iterate 1
   refine q01 (v:=?_) rfl (by rfl) ?_ ?_;rotate_left
   ·intro w f4;go_simp;with_reducible rfl
   simp only[Act.put,sa,sb,sc]
  refine q03 rfl (by rfl) (fun K hK=>?_);go_simp;first|refine(d9.o (by trivial) _).mono ?_|refine(e0.o (by trivial) _).mono ?_|refine(e1.o (by trivial) _).mono ?_|refine(e2.o (by trivial) _).mono ?_|refine(e3.o (by trivial) _).mono ?_
  rintro e w8 ⟨rfl,F⟩;have j:=vv (j.o.below F);have b8:=vv (f5.o.below F);have b9:=vn f6 F;clear F;go_wp2_with fail;refine hK.out _ _ ⟨j.o.c0,j.o.c1,j.o.c2⟩ (fun a0=>?_);clear hK;refine q0K rfl ?_;clear a0 hS0;cases s
  ·go_wp2;go_ret2;exact⟨w.heap.size,rfl,lr,by rw[HV.o];exact b8.o,b9.o⟩
  ·go_wp2_with fail;refine(A.NewInt 1 _ (by omega) (by omega)).mono ?_;rintro e w9 ⟨g9,rfl,f7,c3,S⟩;have c4:=vv (b8.o.below S);have f8:=vv c3;have c5:=vn b9 S;clear f7 c3 S;go_wp2_with fail;refine(e6.o _ g9 c4.o f8.o).mono ?_;rintro e g0 ⟨rfl,T,a1⟩;have a2:=a1.fs c4.o T;have a3:=vv T;have a4:=vv (a2.below c5.o (by have:=c5.o.size;omega) (by intro p m;simp at m;rw[m];simp));clear T a1 a2;go_wp2;go_ret2;exact⟨w.heap.size,rfl,lr,by rw[HV.o];exact a3.o,a4.o⟩
theorem q3v(gx ox gy oy a b:Nat)(neg:Bool)(mode:Nat)(w:qe)(hx:IntAt w gx ox (a:Int))(hy:IntAt w gy oy (b:Int))(hb:0<b)(sa:Sz a)(sb:Sz b)(hm:mode<=4):qi qb 268 #[.pointer (qd ⟨gx,ox,qa⟩),.pointer (qd ⟨gy,oy,qa⟩),.bool neg,.int .u8 (mode:Int)] w (q7X (rnd neg mode a b) (qf (a%b=0)) w):=by
 by_cases h0:a%b=0
 ·rw[k03 h0];exact q5V gx ox gy oy a b neg mode w hx hy hb sa sb h0
 ·rw[k00 h0];exact q8g mode hm gx ox gy oy a b neg w hx hy hb sa sb h0
abbrev q66(gn on gd od:Nat):qp:=.agg #[.pointer (qd ⟨gn,on,qa⟩),.pointer (qd ⟨gd,od,qa⟩)]
structure NbBox(w:qe)(g gn on gd od:Nat):Prop where
 c0:w.cell? ⟨g,0,qa⟩=qd (.pointer (qd ⟨gn,on,qa⟩))
 c1:w.cell? ⟨g,1,qa⟩=qd (.pointer (qd ⟨gd,od,qa⟩))
 lt:g<w.heap.size
theorem NbBox.made(w:qe)(gn on gd od:Nat)(t:TypeId):NbBox (w.alloc (.cells #[.pointer (qd ⟨gn,on,qa⟩),.pointer (qd ⟨gd,od,qa⟩)] t)) w.heap.size gn on gd od:=by constructor<;>first|(simp only[World.cell?];rw[qj];rfl)|simp
theorem NbBox.below(h:NbBox w g gn on gd od)(hb:qh w.heap.size w w'):NbBox w' g gn on gd od:=⟨(hb.cell (p:=⟨g,0,qa⟩) h.lt).trans h.c0,(hb.cell (p:=⟨g,1,qa⟩) h.lt).trans h.c1,k02 h.lt hb.size⟩
theorem NbBox.drew(h:NbBox w g gn on gd od):NbBox w.drew g gn on gd od:=⟨h.c0,h.c1,h.lt⟩
theorem Fs.cell0{l:List Ob}{k j:Nat}{v:qp}(hf:Fs l w w')(h:w.cell? ⟨k,j,qa⟩=qd v)(hk:k<w.heap.size)(hne:∀p∈l,p.1≠k):w'.cell? ⟨k,j,qa⟩=qd v:=(hf.cell k j hk (fun p hp e=>absurd e (hne p hp))).trans h
theorem NbBox.fs{l:List Ob}(h:NbBox w g gn on gd od)(hf:Fs l w w')(hne:∀p∈l,p.1≠g):NbBox w' g gn on gd od:=⟨Fs.cell0 hf h.c0 h.lt hne,Fs.cell0 hf h.c1 h.lt hne,k02 h.lt hf.size⟩
def q5e(x y:Nat)(w:qe)(e:Ending)(w':qe):Prop:=∃g1 o1 g2 o2,e=.returned (.tuple #[.pointer (qd ⟨g1,o1,qa⟩),.pointer (qd ⟨g2,o2,qa⟩)])/\IntAt w' g1 o1 (x:Int)/\IntAt w' g2 o2 (y:Int)/\qh w.heap.size w w'
theorem q8o(gn on gd od a b k:Nat)(w:qe)(hn:IntAt w gn on (a:Int))(hd:IntAt w gd od (b:Int))(sa:Sz a)(hk:(k:Int)<30000000000000):qi qb 267 #[q66 gn on gd od,.int .i64 (k:Int)] w (q5e (a*2^k) b w):=by
 have m:=(qc w.heap.size w).alloc (o:=.cells #[.pointer (qd ⟨gn,on,qa⟩),.pointer (qd ⟨gd,od,qa⟩)] 140) lr;have t:=NbBox.made w gn on gd od 140;obtain⟨L,s⟩:=yx (w.alloc (.cells #[.pointer (qd ⟨gn,on,qa⟩),.pointer (qd ⟨gd,od,qa⟩)] 140));rw[<- s] at m t;have c:=vv t;have f:=vv m;have C:=vv s;have n:=vv (hn.below m);have i:=vv (hd.below m);have M:=vv fun w' g (h:IntAt w' g 0 0) (h':IntAt w' gn on (a:Int))=>A.Lsh g 0 gn on k 0 (a:Int) w' h h' (by rw[k05];exact sa) (by omega)
 have N:qk ((a:Int)*2^k=((a*2^k:Nat):Int)):=vv (by rw[k08,k0D];rfl);have R:qf ((0:Int)<=(k:Int))=qq:=k03 (by omega);have D:qk (IntKind.u64.wrap (k:Int)=(k:Int)):=vv (by rw[qn];omega);clear m t s hn hd sa;go_enter func267,ntmps267;go_wp2_with fail;rw[<- C.o];refine q02 (fun w'=>w'.cell? ⟨w.heap.size,0,qa⟩=qd (.pointer (qd ⟨gn,on,qa⟩))/\w'.cell? ⟨w.heap.size,1,qa⟩=qd (.pointer (qd ⟨gd,od,qa⟩))) 10
  (.still 1 (.still 2 (.still 3 (.still 4 (.still 6 (.still 7 (.one 0 (.one 5 (.still 8 (.still 9 .done)))))))))) (by kernel_rfl) (by kernel_rfl) (fun _ _ d _ _ h=>by cases d<;>exact h) ⟨c.o.c0,c.o.c1⟩ (fun hS0=>?_)
 obtain⟨wc,j⟩:=yx (L.drew);have c:qk (NbBox wc w.heap.size gn on gd od):=vv (by rw[j];exact c.o.drew);have f:qk (qh w.heap.size w wc):=vv (by rw[j];exact q05 f.o);have n:qk (IntAt wc gn on (a:Int)):=vv (by rw[j];exact n.o.drew);have i:qk (IntAt wc gd od (b:Int)):=vv (by rw[j];exact i.o.drew);rw[<- j] at hS0 ⊢;clear j
 iterate 6
  refine q01 (v:=?_) rfl (by rfl) ?_ ?_;rotate_left
  ·intro w E;go_simp;with_reducible rfl
  simp only[Act.put,sa,sb,sc]
 refine q03 rfl (by rfl) (fun K hK=>?_);go_simp;have u:=IntAt.zero wc 142;have l:=(qc wc.heap.size wc).alloc (o:=.cells #[.bool qg,.slice qa 0 0] 142) lr;obtain⟨O,x⟩:=yx (wc.alloc (.cells #[.bool qg,.slice qa 0 0] 142));rw[<- x] at u l ⊢;have y:=vv u;have F:=vv i.o.lt;have G:=c.o.lt;have c:=vv (c.o.below l);have n:=vv (n.o.below l);have i:=vv (i.o.below l);have Q:=F.o;have H:=vv f.o;have I:=vv G;have f:=vn f l;clear u l x hS0;refine hK.out _ _ ⟨c.o.c0,c.o.c1⟩ (fun J=>?_);clear hK;refine q03 rfl (by rfl) (fun K hK=>?_);go_simp;rw[D.o];refine(M.o O wc.heap.size y.o n.o).mono ?_;rintro e S ⟨rfl,hi,z⟩;rw[N.o] at hi;have r:=z.fs y.o hi;have P:=vv hi;have i:=vv (i.o.fs1 r (by omega));have f:=vv (r.below f.o (by have:=f.o.size;omega) (by intro p q;simp at q;rw[q];exact H.o.size));have c:=vv (c.o.fs r (by intro p q;simp at q;rw[q];have:=I.o;show wc.heap.size≠w.heap.size;omega));clear hi z r;go_wp2_with fail;refine hK.out _ _ ⟨c.o.c0,c.o.c1⟩ (fun J=>?_);clear hK
 iterate 2
  refine q01 (v:=?_) rfl (by rfl) ?_ ?_;rotate_left
  ·intro w E;go_simp;with_reducible rfl
  simp only[Act.put,sa,sb,sc]
 refine q0K rfl ?_;go_wp2;go_ret2;exact⟨wc.heap.size,0,gd,od,rfl,P.o,i.o,f.o⟩
theorem q5X(gn on gd od a b k:Nat)(w:qe)(hn:IntAt w gn on (a:Int))(hd:IntAt w gd od (b:Int))(sb:Sz b)(hk0:0<k)(e:Int)(he:-e=(k:Int))(hk:(k:Int)<30000000000000):qi qb 267 #[q66 gn on gd od,.int .i64 e] w (q5e a (b*2^k) w):=by
 have m:=(qc w.heap.size w).alloc (o:=.cells #[.pointer (qd ⟨gn,on,qa⟩),.pointer (qd ⟨gd,od,qa⟩)] 140) lr;have t:=NbBox.made w gn on gd od 140;obtain⟨L,s⟩:=yx (w.alloc (.cells #[.pointer (qd ⟨gn,on,qa⟩),.pointer (qd ⟨gd,od,qa⟩)] 140));rw[<- s] at m t;have c:=vv t;have f:=vv m;have C:=vv s;have i:=vv (hn.below m);have n:=vv (hd.below m);have M:=vv fun w' g (h:IntAt w' g 0 0) (h':IntAt w' gd od (b:Int))=>A.Lsh g 0 gd od k 0 (b:Int) w' h h' (by rw[k05];exact sb) (by omega)
 have N:qk ((b:Int)*2^k=((b*2^k:Nat):Int)):=vv (by rw[k08,k0D];rfl);have T:qf ((0:Int)<=e)=qg:=k00 (by omega);have D:qk (IntKind.u64.wrap (IntKind.i64.wrap (k:Int))=(k:Int)):=vv (by rw[ql _ (by omega),qn];omega);have Q:e<=0:=by omega
 have R:-30000000000000<=e:=by omega
 clear m t s hn hd sb hk0;go_enter func267,ntmps267;go_wp2_with fail;rw[<- C.o];refine q02 (fun w'=>w'.cell? ⟨w.heap.size,0,qa⟩=qd (.pointer (qd ⟨gn,on,qa⟩))/\w'.cell? ⟨w.heap.size,1,qa⟩=qd (.pointer (qd ⟨gd,od,qa⟩))) 11
  (.still 0 (.still 1 (.still 3 (.still 4 (.still 5 (.still 6 (.still 7 (.one 2 (.one 8 (.still 9 (.still 10 .done))))))))))) (by kernel_rfl) (by kernel_rfl) (fun _ _ d _ _ h=>by cases d<;>exact h) ⟨c.o.c0,c.o.c1⟩ (fun hS0=>?_)
 obtain⟨wc,j⟩:=yx (L.drew);have c:qk (NbBox wc w.heap.size gn on gd od):=vv (by rw[j];exact c.o.drew);have f:qk (qh w.heap.size w wc):=vv (by rw[j];exact q05 f.o);have i:qk (IntAt wc gn on (a:Int)):=vv (by rw[j];exact i.o.drew);have n:qk (IntAt wc gd od (b:Int)):=vv (by rw[j];exact n.o.drew);rw[<- j] at hS0 ⊢;clear j
 iterate 7
  refine q01 (v:=?_) rfl (by rfl) ?_ ?_;rotate_left
  ·intro w E;go_simp;with_reducible rfl
  simp only[Act.put,sa,sb,sc]
 refine q03 rfl (by rfl) (fun K hK=>?_);go_simp;have u:=IntAt.zero wc 142;have l:=(qc wc.heap.size wc).alloc (o:=.cells #[.bool qg,.slice qa 0 0] 142) lr;obtain⟨O,x⟩:=yx (wc.alloc (.cells #[.bool qg,.slice qa 0 0] 142));rw[<- x] at u l ⊢;have y:=vv u;have F:=vv i.o.lt;have G:=c.o.lt;have c:=vv (c.o.below l);have i:=vv (i.o.below l);have n:=vv (n.o.below l);have S:=F.o;have H:=vv f.o;have I:=vv G;have f:=vn f l;clear u l x hS0;refine hK.out _ _ ⟨c.o.c0,c.o.c1⟩ (fun J=>?_);clear hK;refine q03 rfl (by rfl) (fun K hK=>?_);go_simp;rw[D.o];refine(M.o O wc.heap.size y.o n.o).mono ?_;rintro U V ⟨rfl,hi,z⟩;rw[N.o] at hi;have r:=z.fs y.o hi;have P:=vv hi;have i:=vv (i.o.fs1 r (by omega));have f:=vv (r.below f.o (by have:=f.o.size;omega) (by intro p q;simp at q;rw[q];exact H.o.size));have c:=vv (c.o.fs r (by intro p q;simp at q;rw[q];have:=I.o;show wc.heap.size≠w.heap.size;omega));clear hi z r;go_wp2_with fail;refine hK.out _ _ ⟨c.o.c0,c.o.c1⟩ (fun J=>?_);clear hK
 iterate 2
  refine q01 (v:=?_) rfl (by rfl) ?_ ?_;rotate_left
  ·intro w E;go_simp;with_reducible rfl
  simp only[Act.put,sa,sb,sc]
 refine q0K rfl ?_;go_wp2;go_ret2;exact⟨gn,on,wc.heap.size,0,rfl,i.o,P.o,f.o⟩
theorem q4S(gn on gd od a b:Nat)(e:Int)(w:qe)(hn:IntAt w gn on (a:Int))(hd:IntAt w gd od (b:Int))(sa:Sz a)(sb:Sz b)(h1:e<30000000000000)(h2:-30000000000000<e):qi qb 267 #[q66 gn on gd od,.int .i64 e] w (q5e (a*p2 e) (b*p2 (-e)) w):=by
 by_cases h:0<=e
 ·obtain⟨k,rfl⟩:∃k:Nat,e=k:=⟨e.toNat,by omega⟩;rw[q1s,q0l (by omega),k0A];exact q8o gn on gd od a b k w hn hd sa h1
 ·obtain⟨k,rfl⟩:∃k:Nat,e = -(k:Int):=⟨(-e).toNat,by omega⟩;rw[q0l (n:=-(k:Int)) (by omega),k0A,Int.neg_neg,q1s];exact q5X gn on gd od a b k w hn hd sb (by omega) _ (by omega) (by omega)
theorem log(gn on gd od a b:Nat)(w:qe)(hn:IntAt w gn on (a:Int))(hd:IntAt w gd od (b:Int))(sa:Sz a)(sb:Sz b):qi qb 266 #[q66 gn on gd od] w fun e w'=>e=.returned (.int .i64 (q1p a b))/\qh w.heap.size w w':=by
 have i:=(qc w.heap.size w).alloc (o:=.cells #[.pointer (qd ⟨gn,on,qa⟩),.pointer (qd ⟨gd,od,qa⟩)] 140) lr;have j:=NbBox.made w gn on gd od 140;obtain⟨w0,s⟩:=yx (w.alloc (.cells #[.pointer (qd ⟨gn,on,qa⟩),.pointer (qd ⟨gd,od,qa⟩)] 140));rw[<- s] at i j;have c:=vv j;have C:=vv i;have T:=vv s;have l:=vv (hn.below i);have m:=vv (hd.below i);have ba:(bl a:Int)<=8796093022208:=by have:=sa;unfold Sz at this;omega
 have bb:(bl b:Int)<=8796093022208:=by have:=sb;unfold Sz at this;omega
 obtain⟨D,O⟩:∃D:Int,(bl a:Int)-(bl b:Int)=D:=⟨_,rfl⟩;obtain⟨f,U⟩:∃f:Int,-D=f:=⟨_,rfl⟩;have P:q1p a b=if a*p2 f<b*p2 (-f) then D-1 else D:=by unfold q1p;rw[O,<- U,Int.neg_neg]
 have E:=vv P;have t:=vv fun w' (h:IntAt w' gn on (a:Int))=>A.BitLen gn on (a:Int) w' h
 have u:=vv fun w' (h:IntAt w' gd od (b:Int))=>A.BitLen gd od (b:Int) w' h
 rw[k05] at t u;have Q:=vv fun w' (h:IntAt w' gn on (a:Int)) (h':IntAt w' gd od (b:Int))=>q4S gn on gd od a b f w' h h' sa sb (by omega) (by omega)
 obtain⟨X,F⟩:=yx (a*p2 f);obtain⟨Y,G⟩:=yx (b*p2 (-f));simp only[<- F,<- G] at Q;rw[<- F,<- G] at E;obtain⟨la,x⟩:=yx (bl a);obtain⟨lb,y⟩:=yx (bl b);rw[<- x,<- y] at O;rw[<- x] at ba t;rw[<- y] at bb u;have V:qk (IntKind.i64.wrap D=D):=vv (ql _ (by omega));have r1:D<=8796093022208:=by omega
 have r2:-8796093022208<=D:=by omega
 have I:=vv fun w' n p q r (h:IntAt w' n p (X:Int)) (h':IntAt w' q r (Y:Int))=>A.Cmp n p q r (X:Int) (Y:Int) w' h h'
 obtain⟨z,k⟩:=yx (q1Z (X:Int) (Y:Int));simp only[<- k] at I;clear i j s hn hd sa sb P x y F G;go_enter func266,ntmps266;go_wp2_with fail;rw[<- T.o];refine q02 (fun w'=>w'.cell? ⟨w.heap.size,0,qa⟩=qd (.pointer (qd ⟨gn,on,qa⟩))/\w'.cell? ⟨w.heap.size,1,qa⟩=qd (.pointer (qd ⟨gd,od,qa⟩))) 7
  (.still 0 (.still 1 (.still 3 (.still 4 (.one 2 (.one 5 (.still 6 .done))))))) (by kernel_rfl) (by kernel_rfl) (fun _ _ d _ _ h=>by cases d<;>exact h) ⟨c.o.c0,c.o.c1⟩ (fun hS0=>?_)
 obtain⟨wc,g⟩:=yx (w0.drew);have c:qk (NbBox wc w.heap.size gn on gd od):=vv (by rw[g];exact c.o.drew);have C:qk (qh w.heap.size w wc):=vv (by rw[g];exact q05 C.o);have l:qk (IntAt wc gn on (a:Int)):=vv (by rw[g];exact l.o.drew);have m:qk (IntAt wc gd od (b:Int)):=vv (by rw[g];exact m.o.drew);rw[<- g] at hS0 ⊢;clear g
 iterate 4
  refine q01 (v:=?_) rfl (by rfl) ?_ ?_;rotate_left
  ·intro w W;go_simp;with_reducible rfl
  simp only[Act.put,sa,sb,sc]
 refine q03 rfl (by rfl) (fun K hK=>?_);go_simp;refine(t.o _ l.o).mono ?_;rintro e w' ⟨rfl,rfl⟩;go_wp2_with fail;refine hK.out _ _ ⟨c.o.c0,c.o.c1⟩ (fun J=>?_);clear hK;refine q03 rfl (by rfl) (fun K hK=>?_);go_simp;refine(u.o _ m.o).mono ?_;rintro e w' ⟨rfl,rfl⟩;go_wp2_with fail;refine hK.out _ _ ⟨c.o.c0,c.o.c1⟩ (fun J=>?_);clear hK
 iterate 1
  refine q01 (v:=?_) rfl (by rfl) ?_ ?_;rotate_left
  ·intro w W;go_simp;with_reducible rfl
  simp only[Act.put,sa,sb,sc]
 rw[V.o];refine q07 ?_;clear J hS0;obtain⟨j,x1,xl⟩:=c.o;go_wp2_with fail;refine(Q.o _ l.o m.o).mono ?_;rintro e w2 ⟨n,p,q,r,rfl,R,S,L⟩;have H1:=vv R;have H2:=vv S;have Z:=vn C L;clear R S L;go_wp2_with fail;refine(I.o _ n p q r H1.o H2.o).mono ?_;rintro e w3 ⟨rfl,M⟩;have N:=vn Z M;clear M j x1 xl;by_cases h:X<Y
 ·have H:qk (q1p a b=D-1):=vv (by rw[E.o,k0n h]);have dz:qf (z<0)=qq:=k03 (by rw[k,q44 (by omega)];decide);clear h k;go_wp2;go_ret;exact⟨q0U H.o.symm,N.o⟩
 ·have H:qk (q1p a b=D):=vv (by rw[E.o,k0o h]);have dz:qf (z<0)=qg:=k00 (by
   rw[k];rcases(by omega:(X:Int)=(Y:Int)\/(Y:Int)<(X:Int)) with e|e
   ·rw[e,q3q];decide
   ·rw[q45 e];decide)
  clear h k;go_wp2;go_ret;exact⟨q0U H.o.symm,N.o⟩
end Rnd
namespace A
open AB
open Go Go.RowKit
theorem qa0(y:Nat)(h:y<4294967296):bits .or .u32 0 (y:Int)=(y:Int):=by have:=u32_or_nat 0 y (by omega) h;rw[Nat.zero_or] at this;exact this
theorem Or0(g o gx ox gy oy:Nat)(v:Int)(X Y:Nat)(w:qe)(h:IntAt w g o v)(hx:IntAt w gx ox (X:Int))(hy:IntAt w gy oy (Y:Int))(sX:Sz X)(hY:Y<4294967296)(hX:X%4294967296=0):qi qb 173 #[.pointer (qd ⟨g,o,qa⟩),.pointer (qd ⟨gx,ox,qa⟩),.pointer (qd ⟨gy,oy,qa⟩)] w (q0B g o ((X+Y:Nat):Int) w):=by
 have O:=vv h;have a2:=hx.lt;have S:=hy.lt;obtain⟨A,n,c,h0,l,r,hz⟩:=hx.ex;obtain⟨B,m,d,k0,W,C,b3⟩:=hy.ex;rw[k05] at r C;have d3:m<=1:=C.bound (k:=1) (by rw[k23];exact hY);have d4:=r.sz sX;obtain⟨L,hL⟩:∃L,max n m=L:=⟨_,rfl⟩;obtain⟨Z,hZ⟩:=yx (X+Y);rw[<- hZ];have HZ:=vv hZ;have c9:max (n:Int) (m:Int)=(L:Int):=by omega
 have b4:L<=35184372088832:=by omega
 have d5:(L:Int)<=35184372088832:=by omega
 have b5:=mk L b4;have d6:(n:Int)<=274877906944:=by omega
 have HX:=vv r;have HY:=vv C;have T:n<=L:=by omega
 have b6:m<=L:=by omega
 have d7:=vv (show IntAt w.drew g o v from h.drew);have P:qk ((w.drew.alloc (.cells (madeCells #[.int .u32 0] L) 54)).heap[w.heap.size]?=qd (.cells (q0q (List.replicate L 0)).toArray 54 (0,0))):=vv (Own.made w.drew L 54).heap;have f:qk (qh w.heap.size w (w.drew.alloc (.cells (madeCells #[.int .u32 0] L) 54))):=vv ((q05 (qc _ w)).alloc lr _);have H2:=vv (r.below f.o rfl);have G:=vv r.len;have Hl:qk ((q0q (toL X)).length=Nat.min n L):=vv (by rw[show Nat.min n L=n from k12 T];simp [q0q,G.o]);have Hf:qk (0+(q0q (toL X)).length<=(q0q (List.replicate L 0)).length):=vv (by simp [q0q,G.o];omega);have Hs:qk ((Tryz.prog.info? 54).map (·.size)=qd 1):=vv (by kernel_rfl);have d8:=vv hL;have b7:=vv hX;have H:=vv hY;have b8:=vv T;clear hX hz b3 hx hy h hZ hY T;go_enter func173,ntmps173;go_wp2_with fail;refine q02 (fun Q=>Q.cell? ⟨gx,ox+1,qa⟩=qd (.slice A n c)/\Q.cell? ⟨gy,oy+1,qa⟩=qd (.slice B m d)) 12
  (.still 0 (.still 1 (.still 2 (.still 3 (.still 4 (.still 5 (.still 6 (.still 7 (.still 8 (.still 9 (.still 10 (.one 11 .done)))))))))))) (by kernel_rfl) (by kernel_rfl) (fun _ _ d _ _ h=>by cases d<;>exact h) ⟨l,W⟩ (fun hS0=>?_)
 iterate 11
  refine q01 (v:=?_) rfl (by rfl) ?_ ?_;rotate_left
  ·intro w d9;go_simp;with_reducible rfl
  simp only[Act.put,sa,sb,sc]
 refine q03 rfl (by rfl) (fun K hK=>?_);go_simp;obtain⟨wn,I⟩:=yx ((w.alloc (.cells (madeCells #[.int .u32 0] L) 54)).drew);rw[<- I];have P:qk (wn.heap[w.heap.size]?=qd (.cells (q0q (List.replicate L 0)).toArray 54 (0,0))):=vv (by rw[I];exact P.o);have f:qk (qh w.heap.size w wn):=vv (by rw[I];exact⟨f.o.os,f.o.tape,f.o.output,f.o.size,f.o.block⟩);have H2:=vv (r.below f.o rfl);clear I;refine hK.out _ _ ⟨(f.o.cell (p:=⟨gx,ox+1,qa⟩) a2).trans l,(f.o.cell (p:=⟨gy,oy+1,qa⟩) S).trans W⟩ (fun a1=>?_);clear hK;refine q07 ?_;have j1:=(f.o.cell (p:=⟨gx,ox+1,qa⟩) a2).trans l;go_wp2_with (with_reducible refine wpList_copy_splice (o:=⟨qd 27,_,_,_,_,_⟩) rfl _ _ 35 35 rfl 54 underlying35 Hs.o _ _ L L n c rfl rfl w.heap.size 0 _ 54 P.o (q0q (toL X)) Hl.o (fun hp=>⟨rfl,(H2.o.copyPos (d:=qa) (e:=qa) rfl hp).2⟩) Hf.o (q1M (toL X)) w.heap.size w f.o lr ?_);intro j hh D;have e:splice (q0q (List.replicate L 0)) 0 (q0q (toL X))=q0q (toL X++List.replicate (L-n) 0):=by unfold splice q0q;rw[k2I,k24,k0U,k1T,G.o,List.map_replicate,List.drop_replicate,List.map_append,List.map_replicate]
 have J:Own j w.heap.size 54 (toL X++List.replicate (L-n) 0):=Own.of_heap (by have:=hh.o;rw[e] at this;exact this) (q1L.2 ⟨r.lim,q16 _⟩);obtain⟨q,M⟩:=yx (toL X++List.replicate (L-n) 0);have U:val q=X:=by rw[M,q11,q0b,q04];simp
 have a3:q.length=L:=by rw[M,k1q,G.o,k0I];have:=b8.o;omega
 rw[<- M] at J;have a0:nth q 0=0:=by rw[q3d J.2,U,k0J,k1m];exact b7.o
 have u:=vv J;have a4:=vv U;have y:=vv a3;have a5:=vv a0;have b9:=vv (O.o.below (D.mono lr));have N:=vv D;have j2:=(D.cell (p:=⟨gy,oy+1,qa⟩) S).trans W;have d0:gy<j.heap.size:=k02 S D.size;clear e J M U a3 a0 hh D b5 hS0 a1 j1 P H2 f;rcases(by omega:m=0\/m=1) with rfl|rfl
 ·have a6:Y=0:=by
   have l:=HY.o.len;have R:val (toL Y)=val []:=by rw[k1u l]
   rw[q04] at R;exact R
  have c0:qk (Z=X):=vv (by rw[HZ.o,a6];rfl);clear a6;go_wp2;go_loop [33] (fun t=>t=.int .i64 0) (fun _=>0)
  case atStart=>rfl
  case round =>subst hrel;go_wp2_with fail;refine(trim (qd ⟨w.heap.size,0,qa⟩) L L q j (u.o.rd y.o.symm lr (by omega))).mono ?_;rintro e Q ⟨m',rfl,rfl,s⟩;rw[a4.o] at s;have HR:=vv s;clear s;go_wp2_with fail;refine(set_of g o v (Z:Int) qg _ m' L X j b9.o HR.o (fun a e=>by cases e;rfl) (by rw[k05,c0.o]) (by rw[qo];exact k00 (by omega))).mono ?_;rintro e w3 ⟨rfl,E,F⟩;have c1:=vv E;have c2:=vv (Fm.trans (Fm.of_below N.o O.o.lt) F);clear E F;go_wp2;go_ret;exact⟨rfl,c1.o,c2.o⟩
 ·have a7:nth (toL Y) 0=Y:=by rw[q0Z,k0J,k1m,k0u H.o]
  obtain⟨b,off,rfl,c3,hc⟩:=C.cell (by omega);have V:=hc 0 (by omega);rw[k14,a7] at V;have d1:j.cell? ⟨b,off,qa⟩=qd (.int .u32 (Y:Int)):=(N.o.cell (p:=⟨b,off,qa⟩) c3).trans V;have a8:0<L:=by have:=b6;omega
  have c4:=u.o.cell (i:=0) (by rw[y.o];exact a8);rw[a5.o] at c4;have e0:=u.o.frozen 0;have e1:=u.o.lt;have hO:=qa0 Y H.o;have e2:(Y:Int)<=4294967295:=by have:=H.o;omega
  have a9:=vv (u.o.set (i:=0) (x:=Y) (z:=(Y:Int)) (by rw[y.o];exact a8) H.o rfl);have c5:qk (val (q.set 0 Y)=Z):=vv (by
   have l:=a4.o;have R:=a5.o;have h3:=y.o;rcases q with _|⟨x,tl⟩
   ·exact absurd h3 (by simp;omega)
   ·have h4:x=0:=R;rw[h4] at l;show val (Y::tl)=Z;simp only[val] at l ⊢;rw[HZ.o];omega)
  have c6:qk ((q.set 0 Y).length=L):=vv (by rw[k07];exact y.o);have b0:=vv (show IntAt (j.setCell ⟨w.heap.size,0,qa⟩ (.int .u32 (Y:Int))) g o v from O.o.below (N.o.setCell lr _));have b1:=vv (N.o.setCell (p:=⟨w.heap.size,0,qa⟩) lr (.int .u32 (Y:Int)));have d2:(0:Int)<(L:Int):=by omega
  clear hc V a7 C;go_wp2;go_loopw [33] (fun t wr=>(t=.int .i64 0/\wr=j)\/(t=.int .i64 1/\wr=j.setCell ⟨w.heap.size,0,qa⟩ (.int .u32 (Y:Int)))) (fun t _=>1-(intOf t).toNat)
  case atStart=>exact .inl ⟨rfl,rfl⟩
  case round =>
   rcases hrel with ⟨rfl,rfl⟩|⟨rfl,rfl⟩
   ·go_wp2;go_roundw
    case rel=>exact .inr ⟨by go_num,trivial⟩
    case measure=>simp [intOf]
   ·obtain⟨w3,b2⟩:=yx (j.setCell ⟨w.heap.size,0,qa⟩ (.int .u32 (Y:Int)));rw[<- b2] at a9 b0 b1 ⊢;clear b2;go_wp2_with fail;refine(trim (qd ⟨w.heap.size,0,qa⟩) L L (q.set 0 Y) w3 (a9.o.rd c6.o.symm lr (by omega))).mono ?_;rintro e Q ⟨m',rfl,rfl,s⟩;rw[c5.o] at s;have HR:=vv s;clear s;go_wp2_with fail;refine(set_of g o v (Z:Int) qg _ m' L Z w3 b0.o HR.o (fun a e=>by cases e;rfl) (by rw[k05]) (by rw[qo];exact k00 (by omega))).mono ?_;rintro e w4 ⟨rfl,E,F⟩;have c7:=vv E;have c8:=vv (Fm.trans (Fm.of_below b1.o O.o.lt) F);clear E F;go_wp2;go_ret;exact⟨rfl,c7.o,c8.o⟩
end A
namespace Rnd
open Go Go.RowKit R5
theorem q4Q(xs:List Nat)(k:Nat):val (xs.drop k)*4294967296^k<=val xs:=by
 have h:=q11 (xs.take k) (xs.drop k);rw[k2K] at h;rcases Nat.le_total k xs.length with a|a
 ·rw[k0t,k12 a] at h;rw[h,k0b];omega
 ·rw[k0R a];simp [val]
theorem q8O(A:Option Addr)(n c N:Nat)(w:qe)(hr:Rd w A n c (toL N))(sN:Sz N):qi qb 89 #[q0I A n c] w (q19 (N:Int) w):=by
 have d4:=hr.sz sN;have d5:(n:Int)<=274877906944:=by omega
 have a5:=vv sN;have R:=(qc w.heap.size w).alloc (o:=.cells #[.slice A n c] 37) lr;have S:(w.alloc (.cells #[.slice A n c] 37)).cell? ⟨w.heap.size,0,qa⟩=qd (.slice A n c):=by simp only[World.cell?];rw[qj];rfl
 obtain⟨l,x⟩:=yx (w.alloc (.cells #[.slice A n c] 37));rw[<- x] at R S;have s0:l.heap.size=w.heap.size+1:=by rw[x];simp
 have E:=(qc l.heap.size l).alloc (o:=.cells #[.bool qg,.slice qa 0 0] 142) lr;have F:=IntAt.zero l 142;obtain⟨G,C⟩:=yx (l.alloc (.cells #[.bool qg,.slice qa 0 0] 142));rw[<- C] at E F;rw[s0] at F;have s1:G.heap.size=w.heap.size+2:=by rw[C];simp;omega
 have b1:qh w.heap.size w G:=R.trans (E.mono (by omega));have c1:=(E.cell (p:=⟨w.heap.size,0,qa⟩) (by show w.heap.size<l.heap.size;omega)).trans S;have b9:=vv F;have c2:=vv b1;have c3:=vv c1;have c4:=vv s1;have c5:qk (G=(w.alloc (.cells #[.slice A n c] 37)).alloc (.cells #[.bool qg,.slice qa 0 0] 142)):=vv (by rw[C,x]);have T:=vv hr;have l1:w.heap.size<G.heap.size:=by omega
 clear R S x s0 E F C s1 b1 hr sN;go_enter func89,ntmps89;go_wp2;rw[<- c5.o];clear c1 l1;go_loopw [4] (fun t wr=>∃(z:Int) (k:Nat),t=.int .i64 z/\z+1=k/\k<=n/\IntAt wr (w.heap.size+1) 0 ((val ((toL N).drop k):Nat):Int)/\wr.cell? ⟨w.heap.size,0,qa⟩=qd (.slice A n c)/\w.heap.size+1<wr.heap.size/\qh w.heap.size w wr) (fun t _=>(intOf t+1).toNat)
 case atStart=>exact⟨_,n,rfl,by omega,lr,by rw[k0R (by rw[T.o.len];exact lr)];exact b9.o,c3.o,by have:=c4.o;omega,c2.o⟩
 case round =>
  obtain⟨z,k,rfl,hz,hk,s,U,hl,W⟩:=hrel;have g:=vv s;have H:=vv U;have m:=vv W;rcases k01 k with rfl|d3
  ·obtain rfl:z = -1:=by omega
   rw[k0M,q04] at s;have g:=vv s;clear hz s U W;go_wp2;go_ret;exact⟨w.heap.size+1,rfl,by omega,g.o,m.o⟩
  ·obtain⟨j,rfl⟩:∃j,k=j+1:=⟨k-1,by omega⟩;obtain rfl:z=(j:Int):=by omega
   obtain⟨b,off,rfl,a6,a0⟩:=T.o.cell (by omega);have hx:=a0 j (by omega);have q:=vv (fun(w':qe) (h:qh w.heap.size w w')=>(h.cell (p:=⟨b,off+j,qa⟩) a6).trans hx);have Y:nth (toL N) j<4294967296:=T.o.nth_lt j;obtain⟨V,I⟩:=yx (val ((toL N).drop (j+1)));have L:=q0n (toL N) j;obtain⟨y,Z⟩:=yx (nth (toL N) j);rw[<- I,<- Z] at L;rw[<- Z] at Y q;rw[<- I] at g;have M:=q4Q (toL N) (j+1);rw[q04,<- I] at M;have O:4294967296^1<=4294967296^(j+1):=k04 (by omega) (by omega);rw[k23] at O;have a7:V*4294967296<=N:=k06 (k0g V O) M;have sV:Sz (V*4294967296):=Sz.mono a5.o a7;have a8:Sz V:=Sz.mono a5.o (by omega);obtain⟨X,J⟩:=yx (V*4294967296);rw[<- J] at sV;have a9:=vv fun w' (h:IntAt w' (w.heap.size+1) 0 (V:Int))=>A.Lsh (w.heap.size+1) 0 (w.heap.size+1) 0 32 (V:Int) (V:Int) w' h h (by rw[k05];exact a8) (by omega)
   have b0:(V:Int)*2^32=(X:Int):=by rw[J];omega
   simp only[b0] at a9;have c6:=vv fun w' gy (h:IntAt w' (w.heap.size+1) 0 (X:Int)) (h':IntAt w' gy 0 (y:Int))=>A.Or0 (w.heap.size+1) 0 (w.heap.size+1) 0 gy 0 (X:Int) X y w' h h h' sV Y (by omega)
   have c7:=vv fun w'=>A.NewInt (y:Int) w' (by omega) (by omega)
   have c8:qk (IntKind.i64.wrap (y:Int)=(y:Int)):=vv (ql _ (by omega));have a3:qk (val ((toL N).drop j)=X+y):=vv (by rw[L,J];omega);have d6:(j:Int)<(n:Int):=by omega
   have d7:(y:Int)<=4294967295:=by omega
   have d8:b<w.heap.size:=a6;have D:=vv hl;clear hz s U W a0 hx I L Z M O a7 sV a8 J b0 Y;go_wp2_with fail;refine q02 (fun w'=>w'.cell? ⟨w.heap.size,0,qa⟩=qd (.slice (qd ⟨b,off,qa⟩) n c)/\w'.cell? ⟨b,off+j,qa⟩=qd (.int .u32 (y:Int))) 12
    (.still 0 (.still 1 (.still 3 (.still 4 (.still 5 (.still 6 (.still 7 (.still 8 (.still 9 (.one 2 (.one 10 (.one 11 .done)))))))))))) (by kernel_rfl) (by kernel_rfl) (fun _ _ d _ _ h=>by cases d<;>exact h) ⟨H.o,q.o _ (q05 m.o)⟩ (fun hS0=>?_)
   obtain⟨wc,i⟩:=yx (wr.drew);have g:qk (IntAt wc (w.heap.size+1) 0 (V:Int)):=vv (by rw[i];exact g.o.drew);have m:qk (qh w.heap.size w wc):=vv (by rw[i];exact q05 m.o);have H:qk (wc.cell? ⟨w.heap.size,0,qa⟩=qd (.slice (qd ⟨b,off,qa⟩) n c)):=vv (by rw[i];exact H.o);have D:qk (w.heap.size+1<wc.heap.size):=vv (by rw[i];exact D.o);rw[<- i] at hS0 ⊢;clear i hl
   iterate 9
    refine q01 (v:=?_) rfl (by rfl) ?_ ?_;rotate_left
    ·intro w d9;go_simp;with_reducible rfl
    simp only[Act.put,sa,sb,sc]
   refine q03 rfl (by rfl) (fun K hK=>?_);go_simp;refine(a9.o _ g.o).mono ?_;rintro e w2 ⟨rfl,hi,u⟩;have f:=u.fs g.o hi;have c9:=vv hi;have b2:=vv (f.below m.o (by have:=m.o.size;omega) (by intro p a;simp at a;rw[a];simp));have b3:=vv (Fs.cell0 f H.o (by have:=D.o;omega) (by intro p a;simp at a;rw[a];simp));have a1:=vv (k02 D.o f.size);clear hi u f;go_wp2_with fail;refine hK.out _ _ ⟨b3.o,q.o _ b2.o⟩ (fun P=>?_);clear hK;refine q03 rfl (by rfl) (fun K hK=>?_);go_simp;rw[c8.o];refine(c7.o _).mono ?_;rintro e w3 ⟨g3,rfl,d0,b4,r⟩;have d1:=vv b4;have b5:=vv (c9.o.below r);have Q:=vn b2 r;have b6:=vv ((r.cell (p:=⟨w.heap.size,0,qa⟩) (by show w.heap.size<w2.heap.size;have:=a1.o;omega)).trans b3.o);have a2:=vv (k02 a1.o r.size);clear d0 b4 r;go_wp2_with fail;refine hK.out _ _ ⟨b6.o,q.o _ Q.o⟩ (fun P=>?_);clear hK;refine q03 rfl (by rfl) (fun K hK=>?_);go_simp;refine(c6.o _ g3 b5.o d1.o).mono ?_;rintro e w4 ⟨rfl,hi,u⟩;have f:=u.fs b5.o hi;have d2:=vv hi;have b7:=vv (f.below Q.o (by have:=Q.o.size;omega) (by intro p a;simp at a;rw[a];simp));have b8:=vv (Fs.cell0 f b6.o (by have:=a2.o;omega) (by intro p a;simp at a;rw[a];simp));have a4:=vv (k02 a2.o f.size);clear hi u f;go_wp2_with fail;refine hK.out _ _ ⟨b8.o,q.o _ b7.o⟩ (fun P=>?_);clear hK;refine q0K rfl ?_;clear P hS0;go_wp2;go_roundw
   case rel=>exact⟨_,j,rfl,by omega,by omega,by rw[a3.o];exact d2.o,b8.o,a4.o,b7.o⟩
   case measure=>simp [intOf]
end Rnd
namespace Rtp
open Go Go.RowKit R5
theorem q7n(g o:Nat)(u:Int)(w:qe)(h:IntAt w g o u)(hb:bl u.natAbs<=524288):qi qb 210 #[.pointer (qd ⟨g,o,qa⟩)] w fun e w'=>e=.returned (.bool qg)/\w=w':=by
 have a:=vv (A.BitLen g o u w h);obtain⟨l,b⟩:=yx (bl u.natAbs);rw[<- b] at a hb;have d:qf ((524288:Int)<(l:Int))=qg:=k00 (by omega);have c:(l:Int)<=524288:=by omega
 clear b hb h;go_enter func210,ntmps210;go_wp2_with fail;refine a.o.mono ?_;rintro e w' ⟨rfl,rfl⟩;go_wp2;go_ret;exact⟨rfl,rfl⟩
abbrev qbz(neg:Bool)(n m:Nat):qp:=.agg #[.bool neg,.int .i64 (n:Int),.int .i64 (m:Int)]
theorem seen(neg:Bool)(A:Option Addr)(n c:Nat)(B':Option Addr)(m d:Nat)(w:qe):qi qb 202 #[q0i neg A n c B' m d] w fun e w'=>e=.returned (qbz neg n m)/\qh w.heap.size w w':=by go_enter func202,ntmps202;go_wp2;exact qm (v:=qbz neg n m) (by simp [results,results202,go_sem]) rfl ⟨rfl,((qc _ _).alloc lr _).alloc (by simp) _⟩
structure RtCell(w:qe)(g:Nat):Prop where
 c0:w.cell? ⟨g,0,qa⟩=qd (.bool qg)
 c1:w.cell? ⟨g,1,qa⟩=qd (.slice qa 0 0)
 c2:w.cell? ⟨g,2,qa⟩=qd (.slice qa 0 0)
 fz:∀j,w.frozen? ⟨g,j,qa⟩=qg
 lt:g<w.heap.size
theorem RtCell.made(w:qe)(t:TypeId):RtCell (w.alloc (.cells #[.bool qg,.slice qa 0 0,.slice qa 0 0] t)) w.heap.size:=by constructor<;>first|(simp only[World.cell?];rw[qj];rfl)|(intro j;simp only[World.frozen?];rw[qj];simp)|simp
theorem RtCell.below(h:RtCell w g)(hb:qh w.heap.size w w'):RtCell w' g:=⟨(hb.cell (p:=⟨g,0,qa⟩) h.lt).trans h.c0,(hb.cell (p:=⟨g,1,qa⟩) h.lt).trans h.c1,(hb.cell (p:=⟨g,2,qa⟩) h.lt).trans h.c2,fun j=>(hb.frozen (p:=⟨g,j,qa⟩) h.lt).trans (h.fz j),k02 h.lt hb.size⟩
theorem qb2(g:Nat)(p:Int)(d:Nat)(w:qe)(h:RatAt w g p d)(h1:bl (lp p d).natAbs<=524288)(h2:bl (ld p d)<=524288):qi qb 121 #[.pointer (qd ⟨g,0,qa⟩)] w fun e w'=>∃X n Y m,e=.returned (.tuple #[q0i (qf (p<0)) X n n Y m m,.int .i64 0])/\Rd w' X n n (toL (lp p d).natAbs)/\Rd w' Y m m (toL (ld p d))/\qh w.heap.size w w':=by
 obtain⟨w0,s⟩:=yx (w.alloc (.cells #[.bool qg,.slice qa 0 0,.slice qa 0 0] 39));have O:qh w.heap.size w w0:=by rw[s];exact(qc _ w).alloc lr _
 have r0:RtCell w0 w.heap.size:=by rw[s];exact RtCell.made _ _
 have a0:=vv s;have f:=vv O;have b:=vv r0;have c:=vv (h.below O);have J:=vv fun w' (h:RatAt w' g p d)=>A.Num g p d w' h
 have L:=vv fun w' (h:RatAt w' g p d)=>A.Denom g p d w' h
 have Q:=vv fun w' (h:RatAt w' g p d)=>A.RSign g p d w' h
 obtain⟨P,hP⟩:=yx (lp p d);obtain⟨D,hD⟩:=yx (ld p d);rw[<- hP] at J h1 ⊢;rw[<- hD] at L h2 ⊢;have a1:=vv fun w' g (h:IntAt w' g 0 P)=>q7n g 0 P w' h h1
 have a2:=vv fun w' g (h:IntAt w' g 0 (D:Int))=>q7n g 0 (D:Int) w' h (by rw[k05];exact h2)
 have a3:=vv fun w' g (h:IntAt w' g 0 P)=>qad g 0 P w' h (by omega)
 have R:=vv fun w' g (h:IntAt w' g 0 (D:Int))=>qad g 0 (D:Int) w' h (by rw[k05];omega)
 simp only[k05] at R;obtain⟨neg,M⟩:=yx (qf (p<0));obtain⟨sg,N⟩:=yx (p.sign);have b9:qf (sg<0)=neg:=by
  rw[M,N];rcases k0K p 0 with h|h|h
  ·rw[k0L h,k03 h];rfl
  ·rw[h];rfl
  ·rw[k0r h,k00 (p:=p<0) (by omega)];rfl
 rw[<- M];rw[<- N] at Q;clear h s O r0 hP hD h1 h2 M N;go_enter func121,ntmps121;go_wp2_with fail;rw[<- a0.o];refine(J.o _ c.o).mono ?_;rintro e w1 ⟨g1,rfl,a4,S,t⟩;have a5:=vv S;have c:=vv (c.o.below t);have b:=vv (b.o.below t);have f:=vn f t;clear a4 S t;go_wp2_with fail;refine(a1.o _ g1 a5.o).mono ?_;rintro e w' ⟨rfl,rfl⟩;go_wp2_with fail;refine(L.o _ c.o).mono ?_;rintro e w2 ⟨g2,rfl,a6,T,u⟩;have a7:=vv T;have c:=vv (c.o.below u);have b:=vv (b.o.below u);have f:=vn f u;clear a6 T u;go_wp2_with fail;refine(a2.o _ g2 a7.o).mono ?_;rintro e w' ⟨rfl,rfl⟩;go_wp2_with fail;refine(Q.o _ c.o).mono ?_;rintro e w' ⟨rfl,rfl⟩;go_wp2_with fail;refine(J.o _ c.o).mono ?_;rintro e w3 ⟨g3,rfl,a8,U,x⟩;have a9:=vv U;have c:=vv (c.o.below x);have b:=vv (b.o.below x);have f:=vn f x;clear a8 U x;go_wp2_with fail;refine(a3.o _ g3 a9.o).mono ?_;rintro e w4 ⟨X,n,rfl,hX,V,y⟩;have b1:qk (Fr (w.heap.size+1) X):=vv (V.mono (by have:=b.o.lt;omega));have r:=vv hX;have c:=vv (c.o.below y);have b:=vv (b.o.below y);have f:=vn f y;clear hX V y;go_wp2_with fail;refine(L.o _ c.o).mono ?_;rintro e w5 ⟨g5,rfl,b2,W,z⟩;have b3:=vv W;have r:=vv (r.o.below z rfl);have b:=vv (b.o.below z);have f:=vn f z;clear b2 W z c;go_wp2_with fail;refine(R.o _ g5 b3.o).mono ?_;rintro e w6 ⟨Y,m,rfl,hY,Z,C⟩;have b4:qk (Fr (w.heap.size+1) Y):=vv (Z.mono (by have:=b.o.lt;omega));have HY:=vv hY;have r:=vv (r.o.below C rfl);have b:=vv (b.o.below C);have f:=vn f C;clear hY Z C;have c0:=b.o.c0;have c1:=b.o.c1;have c2:=b.o.c2;have fz:=b.o.fz;have lt:=b.o.lt;obtain⟨q,k⟩:=yx (((w6.setCell ⟨w.heap.size,0,qa⟩ (.bool neg)).setCell ⟨w.heap.size,1,qa⟩ (.slice X n n)).setCell ⟨w.heap.size,2,qa⟩ (.slice Y m m));have E:∀a,X=qd a->a.block≠w.heap.size:=fun a e=>by have:=(b1.o a e).1;omega
 have F:∀a,Y=qd a->a.block≠w.heap.size:=fun a e=>by have:=(b4.o a e).1;omega
 have b5:qk (Rd q X n n (toL P.natAbs)):=vv (by rw[k];exact((r.o.other _ _ _ E).other _ _ _ E).other _ _ _ E);have b6:qk (Rd q Y m m (toL D)):=vv (by rw[k];exact((HY.o.other _ _ _ F).other _ _ _ F).other _ _ _ F);have b7:qk (qh w.heap.size w q):=vv (by rw[k];exact((f.o.setCell lr _).setCell lr _).setCell lr _);have l:∀i j:Nat,i≠j->(⟨w.heap.size,i,qa⟩:Addr)≠⟨w.heap.size,j,qa⟩:=fun i j h e=>by injection e with _ e;exact h e
 have G:q.cell? ⟨w.heap.size,0,qa⟩=qd (.bool neg):=by rw[k,q0o (l 2 0 (by decide)),q0o (l 1 0 (by decide))];exact q0p c0
 have H:q.cell? ⟨w.heap.size,1,qa⟩=qd (.slice X n n):=by rw[k,q0o (l 2 1 (by decide))];exact q0p ((q0o (l 0 1 (by decide))).trans c1)
 have I:q.cell? ⟨w.heap.size,2,qa⟩=qd (.slice Y m m):=by rw[k];exact q0p ((q0o (l 1 2 (by decide))).trans ((q0o (l 0 2 (by decide))).trans c2))
 have b8:=vv k;have K:=vv (And.intro G (And.intro H I));clear k E F l G H I;go_wp2;rw[<- b8.o];obtain⟨G,H,I⟩:=K.o;exact qm (v:=.tuple #[q0i neg X n n Y m m,.int .i64 0]) (by simp [results,results121,go_sem,G,H,I]) rfl ⟨X,n,Y,m,rfl,b5.o,b6.o,b7.o⟩
end Rtp
end Go.Proofs.YtabcgemembkkcaaGreatDoor
