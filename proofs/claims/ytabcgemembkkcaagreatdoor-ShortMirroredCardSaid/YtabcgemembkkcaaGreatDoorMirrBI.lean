/- Lemmas. -/
import Derived.Test.YtabcgemembkkcaaGreatDoorMirrBH
set_option linter.all false
set_option maxHeartbeats 4000000
set_option maxRecDepth 100000
open Go.Proofs.Tryz
open Go renaming RowKit.Below.refl->qa,IntWalk.i64_in->qe,bodyPost_ret->qf,World.size_alloc->qg,World->qi,Calls->qk,Addr->qn,heap_alloc_new->qo,Value->qp
open Option renaming none->qb,some->qj
open Go.RowKit renaming Below->qc,Hid->qm
open Go.Proofs.Tryz renaming prog->qd
open Bool renaming false->qh
open Decidable renaming decide->ql
namespace Go.Proofs.YtabcgemembkkcaaGreatDoor
variable{g n c N base:Nat}{w:qi}{t:TypeId}{cs:List qp}
section
open Go Go.RowKit
theorem Fm.grown{o:Nat}{w':qi}(h:Fm g o w w'):w.grownBy w' (qj g):=⟨h.os,h.tape,h.output,h.size,fun i hi hne=>h.block i hi (fun e=>hne (by rw[e]))⟩
end
namespace Scn
open Go Go.RowKit R5
theorem Blk.alloc(h:Blk w g t cs)(o:Obj):Blk (w.alloc o) g t cs:=h.below ((qa _ _).alloc lr _)
theorem Blk.set(h:Blk w g t cs)(j:Nat)(v:qp):Blk (w.setCell ⟨g,j,qb⟩ v) g t (cs.set j v):=by unfold Blk;have:w.heap[g]?=qj (.cells cs.toArray t (0,0)):=h;simp [World.setCell,Array.getElem?_modify,this]
def qdf(L:List Nat)(k:Nat):List Nat:=(L.take k).map A.fig++L.drop k
def qdQ:ByteArray:=⟨#[48,49,50,51,52,53,54,55,56,57,97,98,99,100,101,102]⟩
end Scn
namespace Pnt
open Go Go.RowKit R5 Scn
theorem qbq{A:Option qn}(h:Rd w A n c (toL N))(hn:n<=16384):Nat_.natErr n (toL N)=0:=Nat_.natErr_ok (q1D h hn)
theorem Check_ok{A:Option qn}(h:Rd w A n c (toL N))(hn:n<=16384):qk qd 118 #[q0I A n c] w fun e w'=>e=.returned (.int .i64 0)/\qc w.heap.size w w':=by
 have:=Nat_.Check A n c _ w h
 rwa [qbq h hn] at this
theorem qdw(A:Option qn)(n c N:Nat)(w:qi)(ha:Rd w A n c (toL N))(hn:n<=16384):qk qd 137 #[q0I A n c] w fun e w'=>e=.returned (.tuple #[.int .i64 ((bl N:Nat):Int),.int .i64 0])/\qc w.heap.size w w':=by
 have j:qc w.heap.size w (w.alloc (.cells #[.slice A n c] 37)):=(qa _ _).alloc lr _;have r:Blk (w.alloc (.cells #[.slice A n c] 37)) w.heap.size 37 [.slice A n c]:=Blk.made w 37 [.slice A n c];have u:=vv (Check_ok (ha.below j rfl) hn);have v:=vv j;have k:=vv r;have G:(n:Int)<=16384:=by omega
 have f:=ha.words;rcases k01 n with rfl|O
 ·have l:N=0:=q06.1 f;subst l;clear j r f hn ha;go_enter func137,ntmps137;go_wp2_with fail;refine u.o.mono ?_;rintro e I ⟨rfl,a⟩;have s:=(k.o.below a).cell 0;have J:=(k.o.below a).lt;simp only[List.getElem?_cons_zero] at s;have g:=vn v a;clear a;go_wp2;go_ret2;exact⟨rfl,g.o⟩
 ·have l:0<N:=by
   rcases k01 N with h|h
   ·subst h;rw[q0s] at f;omega
   ·exact h
  obtain⟨d,_⟩:=bl_words l;rw[f] at d;obtain⟨m,rfl⟩:∃m,n=m+1:=⟨n-1,by omega⟩;rw[k1d] at d;obtain⟨b,off,rfl,t,x⟩:=ha.cell (by omega);have hx:=x m (by omega);have z:=ha.nth_lt m;have i:=vv fun w=>Go.Proofs.YtabcgemembkkcaaGreatDoor.AB.lz32 (nth (toL N) m) w z
  have q:bl (nth (toL N) m)<=32:=q0A (by omega);obtain⟨y,C⟩:=yx (nth (toL N) m);obtain⟨L,D⟩:=yx (bl y);rw[<- C] at hx i q d;rw[<- D] at i q d;have E:qm (((bl N:Nat):Int)=32*((m:Int)+1)-((32-L:Nat):Int)):=vv (by rw[d];omega);have K:((32-L:Nat):Int)<=32:=by omega
  have P:((m:Int)+1==0)=qh:=by rw[k09];omega
  have Q:(m:Int)<=16383:=by omega
  obtain⟨Z,F⟩:=yx (32-L);rw[<- F] at i E K;have M:=vv hx;have H:=vv t;clear j r f hn ha l d x z q C D F hx t G;go_enter func137,ntmps137;go_wp2_with fail;refine u.o.mono ?_;rintro e I ⟨rfl,a⟩;have s:=(k.o.below a).cell 0;have J:=(k.o.below a).lt;simp only[List.getElem?_cons_zero] at s;have g:=vn v a;have hx:=(g.o.cell (p:=⟨b,off+m,qb⟩) H.o).trans M.o;clear a;go_wp2_with fail;refine(i.o _).mono ?_;rintro e w' ⟨rfl,rfl⟩;go_wp2;go_ret2;rw[E.o];exact⟨rfl,g.o⟩
def NatP(N:Nat)(w:qi)(e:Ending)(w':qi):Prop:=
 ∃A m,e=.returned (.tuple #[q0I A m m,.int .i64 0])/\Rd w' A m m (toL N)/\Fr w.heap.size A/\qc w.heap.size w w'
theorem Down(A:Option qn)(n c N k:Nat)(w:qi)(ha:Rd w A n c (toL N))(hn:n<=16384)(hk:k<=1048576):qk qd 136 #[q0I A n c,.int .i64 (k:Int)] w (NatP (N/2^k) w):=by
 obtain⟨E,g⟩:=yx ((w.alloc (.cells #[.slice A n c] 37)).alloc (.cells #[.slice qb 0 0] 37));have l:qc w.heap.size w E:=by rw[g];exact((qa _ _).alloc lr _).alloc (by simp) _
 have F:Blk E w.heap.size 37 [.slice A n c]:=by rw[g];exact(Blk.made w 37 [.slice A n c]).alloc _
 have G:Blk E (w.heap.size+1) 37 [.slice qb 0 0]:=by
  rw[g];have:=Blk.made (w.alloc (.cells #[.slice A n c] 37)) 37 [.slice qb 0 0]
  rwa [qg] at this
 have T:=vv (Check_ok (ha.below l rfl) hn);have U:=vv l;have t:=vv F;have u:=vv G;have W:=vv g;have a8:(n:Int)<=16384:=by omega
 have a9:(k:Int)<=1048576:=by omega
 obtain⟨q,X⟩:=yx (k/32);obtain⟨s,Y⟩:=yx (k%32);have b0:(k:Int)/32=(q:Int):=by omega
 have b1:(k:Int)%32=(s:Int):=by omega
 have a7:(s:Int)<=31:=by omega
 have b2:(q:Int)<=32768:=by omega
 have x:k=32*q+s:=by omega
 by_cases hqn:n<=q
 ·have H:qm (N/2^k=0):=vv (by have h:=ha.lt;rw[q04,q1q] at h;have h2:2^(32*n)<=2^k:=k04 (by decide) (by omega);exact k0N (by omega));have t1:(n:Int)<=(q:Int):=by omega
  clear l F G g hn ha X Y hqn hk x;go_enter func136,ntmps136;go_wp2_with fail;rw[<- W.o];refine T.o.mono ?_;rintro e I ⟨rfl,d⟩;have J:=(t.o.below d).cell 0;have cl:=(t.o.below d).lt;have r:=(u.o.below d).cell 0;have df:=(u.o.below d).fz 0;have dl:=(u.o.below d).lt;simp only[List.getElem?_cons_zero] at J r;have y:=vn U d;clear d;have z:=vv (y.o.setCell (p:=⟨w.heap.size+1,0,qb⟩) (k1B _) (.slice qb 0 0));have f:(I.setCell ⟨w.heap.size+1,0,qb⟩ (.slice qb 0 0)).cell? ⟨w.heap.size+1,0,qb⟩=qj (.slice qb 0 0):=q0p r;have K:=vv f;clear f;go_wp2;have f:=K.o;rw[H.o];exact qf (v:=.tuple #[q0I qb 0 0,.int .i64 0]) (by simp [results,results136,go_sem,f]) rfl ⟨qb,0,rfl,Rd.nil _,Fr.none_ _,z.o⟩
 ·have Z:val ((toL N).drop q)=N/4294967296^q:=by rw[<- q0Y ha.lim,q04]
  have H:qm (val ((toL N).drop q)/2^s=N/2^k):=vv (by rw[Z,k0p,q1q,<- k0h,<- x]);obtain⟨b,off,rfl,a1,hc⟩:=ha.cell (by omega);have t1:(q:Int)<(n:Int):=by omega
  have HD:=vv fun w' (h:Rd w' (qj ⟨b,off,qb⟩) n c (toL N))=>qab _ _ _ _ s w' (h.drop (k:=q) (by omega)) (by omega) (by omega)
  have b3:(n:Int)<=(c:Int):=by have:=ha.le;omega
  have b4:((n-q:Nat):Int)=(n:Int)-(q:Int):=by omega
  have b5:((c-q:Nat):Int)=(c:Int)-(q:Int):=by have:=ha.le;omega
  have HA:=vv (ha.below l rfl);clear l F G g hn ha X Y hqn hk x Z hc a1;go_enter func136,ntmps136;go_wp2_with fail;rw[<- W.o];refine T.o.mono ?_;rintro e I ⟨rfl,d⟩;have J:=(t.o.below d).cell 0;have cl:=(t.o.below d).lt;simp only[List.getElem?_cons_zero] at J;have M:=vv (u.o.below d);have a2:=vv (HA.o.below d rfl);have y:=vn U d;clear d;go_wp2_with fail;refine(HD.o _ a2.o).mono ?_;rintro e w3 ⟨V,rfl,hO,O,P,d⟩;have b6:=d.size;have b7:=M.o.lt;have a3:=vv (M.o.below d);have a4:=vn y d;have HT:=vv (Nat_.trimmed _ (n-q) (n-q) V w3 (hO.rd O.symm lr (by omega)));rw[P,H.o] at HT;clear hO O P d;go_wp2_with fail;refine HT.o.mono ?_;rintro e w4 ⟨i,m,rfl,Q,R,C⟩;have S:qm (Fr (w.heap.size+2) i):=vv (fun a e=>by have h:=R a e;cases h;exact⟨by show w.heap.size+2<=I.heap.size;omega,rfl⟩);have D:=vv (a3.o.below C);have a5:=vn a4 C;have r:=D.o.cell 0;have df:=D.o.fz 0;have dl:=D.o.lt;simp only[List.getElem?_cons_zero] at r;obtain⟨L,j⟩:=yx (w4.setCell ⟨w.heap.size+1,0,qb⟩ (.slice i m m));have a0:qm (Rd L i m m (toL (N/2^k))):=vv (by rw[j];exact Q.other _ _ _ (fun a e=>by have:=(S.o a e).1;omega));have z:qm (qc w.heap.size w L):=vv (by rw[j];exact a5.o.setCell (k1B _) _);have f:L.cell? ⟨w.heap.size+1,0,qb⟩=qj (.slice i m m):=by rw[j];exact q0p r
  have K:=vv f;have a6:=vv j;clear Q R C f j;go_wp2;rw[<- a6.o];have f:=K.o;exact qf (v:=.tuple #[q0I i m m,.int .i64 0]) (by simp [results,results136,go_sem,f]) rfl ⟨i,m,rfl,a0.o,S.o.mono (by omega),z.o⟩
theorem q3Y{U:List Nat}(h:Own w g t U)(hb:base<=g)(hl:U.length<=1000000000):w.ownsRow base t 1 (.slice (qj ⟨g,0,qb⟩) U.length U.length) U.length (q0q U):=by
 refine⟨by simp [q0q],.inr ⟨g,U.length,(q0q U).toArray,rfl,hb,h.heap,lr,by unfold maxLen;omega,by simp [q0q],?_⟩⟩;rw[k0A];have:(q0q U).length=U.length:=by simp [q0q]
 simp [<- this]
theorem q3c{e:TypeId}{v:qp}{l:List qp}(h:w.ownsRow base e 1 v n l):∃A cap,v=.slice A n cap:=by
 rcases h.2 with ⟨a,rfl⟩|⟨g,cap,c,b,_⟩
 ·exact⟨qb,0,a⟩
 ·exact⟨_,_,b⟩
theorem q1M(U:List Nat):∀v∈q0q U,v.oneCell'=true:=by intro v a;obtain⟨x,_,rfl⟩:=List.mem_map.1 a;rfl
theorem Up(A:Option qn)(n c N k:Nat)(w:qi)(ha:Rd w A n c (toL N))(hn:n<=16384)(hk:k+bl N<=524288):qk qd 67 #[q0I A n c,.int .i64 (k:Int)] w (NatP (N*2^k) w):=by
 obtain⟨w0,P⟩:=yx ((w.alloc (.cells #[.slice A n c] 37)).alloc (.cells #[.slice qb 0 0] 37));have hb:qc w.heap.size w w0:=by rw[P];exact((qa _ _).alloc lr _).alloc (by simp) _
 have hQ:Blk w0 w.heap.size 37 [.slice A n c]:=by rw[P];exact(Blk.made w 37 [.slice A n c]).alloc _
 have hR:Blk w0 (w.heap.size+1) 37 [.slice qb 0 0]:=by
  rw[P];have:=Blk.made (w.alloc (.cells #[.slice A n c] 37)) 37 [.slice qb 0 0]
  rwa [qg] at this
 have HC:=vv (qdw A n c N w0 (ha.below hb rfl) hn);have HB:=vv hb;have HQ:=vv hQ;have HR:=vv hR;have HW:=vv P;have d8:(n:Int)<=16384:=by omega
 have d9:(k:Int)<=524288:=by omega
 obtain⟨L,hL⟩:=yx (bl N);rw[<- hL] at HC hk;have e0:(k:Int)<=524288-(L:Int):=by omega
 have e1:(L:Int)<=524288:=by omega
 rcases k01 N with h0|h0
 ·subst h0;have c7:L=0:=by rw[hL];rfl
  subst c7;clear hb hQ hR P hn ha hk hL;go_enter func67,ntmps67;go_wp2_with fail;rw[<- HW.o];refine HC.o.mono ?_;rintro e w1 ⟨rfl,b⟩;have x:=(HR.o.below b).cell 0;have df:=(HR.o.below b).fz 0;have dl:=(HR.o.below b).lt;simp only[List.getElem?_cons_zero] at x;have a7:=vn HB b;clear b;have T:=vv (a7.o.setCell (p:=⟨w.heap.size+1,0,qb⟩) (k1B _) (.slice qb 0 0));have f:(w1.setCell ⟨w.heap.size+1,0,qb⟩ (.slice qb 0 0)).cell? ⟨w.heap.size+1,0,qb⟩=qj (.slice qb 0 0):=q0p x;have HK:=vv f;clear f;go_wp2;have f:=HK.o;exact qf (v:=.tuple #[q0I qb 0 0,.int .i64 0]) (by simp [results,results67,go_sem,f]) rfl ⟨qb,0,rfl,by rw[k1H];exact Rd.nil _,Fr.none_ _,T.o⟩
 ·obtain⟨q,hq⟩:=yx (k/32);obtain⟨s,hs⟩:=yx (k%32);have c8:(k:Int)/32=(q:Int):=by omega
  have c9:(k:Int)%32=(s:Int):=by omega
  have d5:(s:Int)<=31:=by omega
  have e2:(q:Int)<=16384:=by omega
  have e3:((L:Int)==0)=qh:=by
   have:=q15 (a:=1) h0;have e:bl 1=1:=by decide
   rw[k09];omega
  have c1:k=32*q+s:=by omega
  have HS:=vv fun w' (h:Rd w' A n c (toL N))=>q9R A n c (toL N) s w' h (by omega) hn
  have e4:=Go.Proofs.YtabcgemembkkcaaGreatDoor.AB.mk q (by omega);have HA:=vv (ha.below hb rfl);have HE:qm (∀V,val V=val (toL N)*2^s->val (List.replicate q 0++V)=N*2^k):=vv (fun V h=>by rw[q11,q0b,h,q04,k0I,c1,k0h,<- q1q,k0b _ (2^s),<- k0f];rw[k0U,k0b (4294967296^q),k0f,k0b (4294967296^q) N,k0S]);clear hb hQ hR P hn ha hq hs hk hL h0 c1;go_enter func67,ntmps67;go_wp2_with fail;rw[<- HW.o];refine HC.o.mono ?_;rintro e w1 ⟨rfl,b⟩;have c0:=(HQ.o.below b).cell 0;have cl:=(HQ.o.below b).lt;simp only[List.getElem?_cons_zero] at c0;have d1:=vv (HR.o.below b);have d2:=vv (HA.o.below b rfl);have a7:=vn HB b;clear b;go_wp2_with fail;have e5:IntKind.i64.wrap (q:Int)=(q:Int):=qe _ (by omega);have d6:(k:Int).tdiv 32=(q:Int):=by rw[Int.tdiv_eq_ediv_of_nonneg (by omega)];exact c8
  have d7:(k:Int).tmod 32=(s:Int):=by rw[k1X (by omega)];exact c9
  refine q02 (fun w'=>w'.cell? ⟨w.heap.size,0,qb⟩=qj (.slice A n c)) 8
   (.still 0 (.still 1 (.still 3 (.still 4 (.still 5 (.still 6 (.two 2 (.one 7 .done) 7 (.one 2 .done)))))))) (by kernel_rfl) (by kernel_rfl) (fun _ _ d _ _ h=>by cases d<;>exact h) c0 (fun hS0=>?_)
  obtain⟨l,y⟩:=yx (w1.drew);have a5:qm (qc w.heap.size w l):=vv (by rw[y];exact q05 a7.o);have a8:qm (Blk l (w.heap.size+1) 37 [.slice qb 0 0]):=vv (by rw[y];exact d1.o);have c2:qm (Rd l A n c (toL N)):=vv (by rw[y];exact d2.o.drew);have a6:qm (w.heap.size<l.heap.size):=vv (by rw[y];exact cl);have a9:qm (l.cell? ⟨w.heap.size,0,qb⟩=qj (.slice A n c)):=vv (by rw[y];exact c0);have Q:qm (w.heap.size+2<=l.heap.size):=vv (a8.o.lt);obtain⟨i0,hi,c3,c4,c5⟩:=info_parts Go.Proofs.YtabcgemembkkcaaGreatDoor.AB.inf;rw[<- y] at hS0 ⊢;clear y c0 cl
  iterate 6
   refine q01 (v:=?_) rfl (by rfl) ?_ ?_;rotate_left
   ·intro w e6;go_simp;with_reducible rfl
   simp only[Act.put,sa,sb,sc]
  refine q0C rfl (by rfl) rfl (by rfl) (fun K hK=>?_) (fun K hK=>?_)
  ·go_simp;have J:=Own.made l q 54;have b:=(qa l.heap.size l).alloc (o:=.cells (madeCells #[.int .u32 0] q) 54) lr;obtain⟨wm,U⟩:=yx (l.alloc (.cells (madeCells #[.int .u32 0] q) 54));rw[<- U] at J b ⊢;have HO:=vv J;have r:=vv b;clear J b U;refine hK.out _ _ ((r.o.cell (p:=⟨w.heap.size,0,qb⟩) a6.o).trans a9.o) (fun z=>?_);clear hK hS0;refine q03 rfl (by rfl) (fun K hK=>?_);go_simp;refine(HS.o _ (c2.o.below r.o rfl)).mono ?_;rintro e wz ⟨V,rfl,R,S,W,i⟩;have C:=q3Y (base:=w.heap.size+2) (HO.o.below i HO.o.lt) Q.o (by rw[k0I];omega);rw[k0I] at C;have D:=q3Y (base:=w.heap.size+2) R (k06 Q.o r.o.size) (by rw[S];omega);rw[S] at D;have M:=vv C;have HV:=vv D;have X:=vv (And.intro W R.2);have Y:=vv (a5.o.trans ((r.o.trans (i.mono r.o.size)).mono a5.o.size));have b0:=vv ((a8.o.below r.o).below i);have b1:qm (w.heap.size+2<=wz.heap.size):=vv (k06 Q.o (k06 r.o.size i.size));have Z:=((r.o.trans (i.mono r.o.size)).cell (p:=⟨w.heap.size,0,qb⟩) a6.o).trans a9.o;clear C D R S W i z;refine hK.out _ _ Z (fun z=>?_);clear hK Z z;refine q07 ?_;simp only[k0H,k0M];go_wp2_with (at_builtin;refine q1r rfl _ _ 35 rfl (w.heap.size+2) (w.heap.size+2) 54 i0 (.int .u32 0) 4 underlying35 hi c3 c4 c5 rfl _ q (q0q (List.replicate q 0)) rfl M.o _ (n+1) (q0q V) rfl HV.o (q1M V) (by unfold maxLen;omega) (by omega) (by have:=b1.o;omega) ?_);intro v' u a0 E;have t:qm (qc w.heap.size w u):=vv (Y.o.grown E Y.o.size (fun k e=>by have:=(M.o.lt k e).1;omega));have b2:qm (Blk u (w.heap.size+1) 37 [.slice qb 0 0]):=vv (b0.o.grown E (fun e=>by have:=(M.o.lt _ e).1;omega));have b3:=t;have F:u.ownsRow (w.heap.size+2) 54 1 v' (q+(n+1)) (q0q (List.replicate q 0++V)):=by
    have e:q0q (List.replicate q 0++V)=q0q (List.replicate q 0)++q0q V:=by simp [q0q]
    rw[e];exact a0
   obtain⟨Av,cap,rfl⟩:=q3c F;have G:=Go.Proofs.YtabcgemembkkcaaGreatDoor.A.row_rd F (q1L.2 ⟨q16 q,X.o.2⟩) (by omega);have b4:qm (Fr (w.heap.size+2) Av):=vv G.2;have HT:=vv (Nat_.trimmed _ _ _ _ u G.1);rw[HE.o V X.o.1] at HT;clear a0 E F G;go_wp2_with fail;refine HT.o.mono ?_;rintro e w4 ⟨g,m,rfl,a2,a3,H⟩;have a4:qm (Fr (w.heap.size+2) g):=vv (fun a e=>by have h:=a3 a e;subst h;exact b4.o a rfl);have I:=vv (b2.o.below H);have b5:=vn b3 H;have x:=I.o.cell 0;have df:=I.o.fz 0;have dl:=I.o.lt;simp only[List.getElem?_cons_zero] at x;obtain⟨O,j⟩:=yx (w4.setCell ⟨w.heap.size+1,0,qb⟩ (.slice g m m));have a1:qm (Rd O g m m (toL (N*2^k))):=vv (by rw[j];exact a2.other _ _ _ (fun a e=>by have:=(a4.o a e).1;omega));have T:qm (qc w.heap.size w O):=vv (by rw[j];exact b5.o.setCell (k1B _) _);have f:O.cell? ⟨w.heap.size+1,0,qb⟩=qj (.slice g m m):=by rw[j];exact q0p x
   have HK:=vv f;have b6:=vv j;clear a2 a3 H f j;go_wp2;rw[<- b6.o];have f:=HK.o;exact qf (v:=.tuple #[q0I g m m,.int .i64 0]) (by simp [results,results67,go_sem,f]) rfl ⟨g,m,rfl,a1.o,a4.o.mono (by omega),T.o⟩
  ·go_simp;refine(HS.o _ c2.o).mono ?_;rintro e wy ⟨V,rfl,R,S,W,i⟩;have b7:=vv R;have d3:=vv W;have c6:=vv S;have t:=vv i;have b8:=(i.cell (p:=⟨w.heap.size,0,qb⟩) a6.o).trans a9.o;have d4:=vv b8;have b9:qm (w.heap.size<wy.heap.size):=vv (k02 a6.o i.size);refine hK.out _ _ b8 (fun z=>?_);clear hK hS0 b8 z R S W i;refine q03 rfl (by rfl) (fun K hK=>?_);go_simp;have J:=Own.made wy q 54;have b:=(qa wy.heap.size wy).alloc (o:=.cells (madeCells #[.int .u32 0] q) 54) lr;obtain⟨wz,U⟩:=yx (wy.alloc (.cells (madeCells #[.int .u32 0] q) 54));rw[<- U] at J b ⊢;have C:=q3Y (base:=w.heap.size+2) J (k06 Q.o t.o.size) (by rw[k0I];omega);rw[k0I] at C;have D:=q3Y (base:=w.heap.size+2) (b7.o.below b b7.o.lt) Q.o (by rw[c6.o];omega);rw[c6.o] at D;have M:=vv C;have HV:=vv D;have X:=vv (And.intro d3.o b7.o.2);have Y:=vv (a5.o.trans ((t.o.trans (b.mono t.o.size)).mono a5.o.size));have b0:=vv ((a8.o.below t.o).below b);have b1:qm (w.heap.size+2<=wz.heap.size):=vv (k06 Q.o (k06 t.o.size b.size));have Z:=(b.cell (p:=⟨w.heap.size,0,qb⟩) b9.o).trans d4.o;clear C D J b U;refine hK.out _ _ Z (fun z=>?_);clear hK Z z;refine q07 ?_;simp only[k0H,k0M];go_wp2_with (at_builtin;refine q1r rfl _ _ 35 rfl (w.heap.size+2) (w.heap.size+2) 54 i0 (.int .u32 0) 4 underlying35 hi c3 c4 c5 rfl _ q (q0q (List.replicate q 0)) rfl M.o _ (n+1) (q0q V) rfl HV.o (q1M V) (by unfold maxLen;omega) (by omega) (by have:=b1.o;omega) ?_);intro v' u a0 E;have t:qm (qc w.heap.size w u):=vv (Y.o.grown E Y.o.size (fun k e=>by have:=(M.o.lt k e).1;omega));have b2:qm (Blk u (w.heap.size+1) 37 [.slice qb 0 0]):=vv (b0.o.grown E (fun e=>by have:=(M.o.lt _ e).1;omega));have b3:=t;have F:u.ownsRow (w.heap.size+2) 54 1 v' (q+(n+1)) (q0q (List.replicate q 0++V)):=by
    have e:q0q (List.replicate q 0++V)=q0q (List.replicate q 0)++q0q V:=by simp [q0q]
    rw[e];exact a0
   obtain⟨Av,cap,rfl⟩:=q3c F;have G:=Go.Proofs.YtabcgemembkkcaaGreatDoor.A.row_rd F (q1L.2 ⟨q16 q,X.o.2⟩) (by omega);have b4:qm (Fr (w.heap.size+2) Av):=vv G.2;have HT:=vv (Nat_.trimmed _ _ _ _ u G.1);rw[HE.o V X.o.1] at HT;clear a0 E F G;go_wp2_with fail;refine HT.o.mono ?_;rintro e w4 ⟨g,m,rfl,a2,a3,H⟩;have a4:qm (Fr (w.heap.size+2) g):=vv (fun a e=>by have h:=a3 a e;subst h;exact b4.o a rfl);have I:=vv (b2.o.below H);have b5:=vn b3 H;have x:=I.o.cell 0;have df:=I.o.fz 0;have dl:=I.o.lt;simp only[List.getElem?_cons_zero] at x;obtain⟨O,j⟩:=yx (w4.setCell ⟨w.heap.size+1,0,qb⟩ (.slice g m m));have a1:qm (Rd O g m m (toL (N*2^k))):=vv (by rw[j];exact a2.other _ _ _ (fun a e=>by have:=(a4.o a e).1;omega));have T:qm (qc w.heap.size w O):=vv (by rw[j];exact b5.o.setCell (k1B _) _);have f:O.cell? ⟨w.heap.size+1,0,qb⟩=qj (.slice g m m):=by rw[j];exact q0p x
   have HK:=vv f;have b6:=vv j;clear a2 a3 H f j;go_wp2;rw[<- b6.o];have f:=HK.o;exact qf (v:=.tuple #[q0I g m m,.int .i64 0]) (by simp [results,results67,go_sem,f]) rfl ⟨g,m,rfl,a1.o,a4.o.mono (by omega),T.o⟩
end Pnt
namespace Fms
open Go Go.RowKit R5 Scn
def q09(E F:Int)(b:Nat):Int:=if R3.formOk E F then(if 1+E+F<(bl b:Int) then 6 else 0) else 5
theorem qdd(b:Nat)(w:qi)(h:b<18446744073709551616):qk qd 88 #[.int .u64 (b:Int)] w fun e w'=>e=.returned (.int .i64 ((bl b:Nat):Int))/\w=w':=(Tryz.bits_Len64 (b:Int) w (by omega) (by omega)).mono fun e w' ⟨h1,h2⟩=>⟨by rw[h1,k2l,q7o h],h2.symm⟩
theorem Fits(E F:Int)(b:Nat)(w:qi)(hb:b<18446744073709551616):qk qd 33 #[fm E F,.int .u64 (b:Int)] w fun e w'=>e=.returned (.int .i64 (q09 E F b))/\qc w.heap.size w w':=by
 have j:=vv fun w=>Check E F w
 have t:=vv fun w=>qdd b w hb
 have m:bl b<=64:=q0A (by rw[show(2:Nat)^64=18446744073709551616 from rfl];exact hb);obtain⟨L,k⟩:=yx (bl b);rw[<- k] at t m;have n:qc w.heap.size w (w.alloc (.cells #[.int .i64 E,.int .i64 F] 23)):=(qa _ _).alloc lr _;have u:=vv n;cases hok:R3.formOk E F with
 | false =>have l:qm (q09 E F b=5):=vv (by unfold q09;rw[hok];rfl);rw[R3.chk_no hok] at j;clear hb m k n hok;go_enter func33,ntmps33;go_wp2_with fail;refine(j.o _).mono ?_;rintro e r ⟨rfl,f⟩;have s:=vn u f;clear f;go_wp2;go_ret;exact⟨q0U l.o.symm,s.o⟩
 | true =>
  have l:qm (q09 E F b=if 1+E+F<(L:Int) then 6 else 0):=vv (by unfold q09;rw[hok,<- k];rfl);obtain⟨a,c,rfl,rfl,C,D,G,H⟩:=R3.formOk_nat hok;rw[R3.chk_ok hok] at j;have O:(a:Int)<=11:=by omega
  have P:(c:Int)<=52:=by omega
  have Q:(L:Int)<=64:=by omega
  have g:IntKind.i64.wrap (1+(a:Int))=1+(a:Int):=qe _ (by omega);have i:IntKind.i64.wrap (1+(a:Int)+(c:Int))=1+(a:Int)+(c:Int):=qe _ (by omega);have I:=vv (And.intro g i);clear hb m k n hok C D G H g i;go_enter func33,ntmps33;go_wp2_with fail;refine(j.o _).mono ?_;rintro e r ⟨rfl,f⟩;have J:=(f.cell (p:=⟨w.heap.size,0,qb⟩) (by simp)).trans (show _=qj (Value.int .i64 (a:Int)) by simp only[World.cell?];rw[qo];rfl);have M:=(f.cell (p:=⟨w.heap.size,1,qb⟩) (by simp)).trans (show _=qj (Value.int .i64 (c:Int)) by simp only[World.cell?];rw[qo];rfl);have R:w.heap.size<r.heap.size:=k02 (by simp) f.size;have s:=vn u f;clear f;go_wp2_with fail;refine q02 (fun w'=>w'.cell? ⟨w.heap.size,0,qb⟩=qj (.int .i64 (a:Int))/\w'.cell? ⟨w.heap.size,1,qb⟩=qj (.int .i64 (c:Int))) 9
   (.still 0 (.still 2 (.still 3 (.still 4 (.still 5 (.still 6 (.still 7 (.one 1 (.still 8 .done))))))))) (by kernel_rfl) (by kernel_rfl) (fun _ _ d _ _ h=>by cases d<;>exact h) ⟨J,M⟩ (fun hS0=>?_)
  obtain⟨g,i⟩:=I.o
  iterate 7
   refine q01 (v:=?_) rfl (by rfl) ?_ ?_;rotate_left
   ·intro w y;go_simp;with_reducible rfl
   simp only[Act.put,sa,sb,sc]
  refine q03 rfl (by rfl) (fun K hK=>?_);go_simp;refine(t.o _).mono ?_;rintro e w' ⟨rfl,rfl⟩;go_wp2_with fail;refine hK.out _ _ hS0 (fun z=>?_);clear hK
  iterate 1
   refine q01 (v:=?_) rfl (by rfl) ?_ ?_;rotate_left
   ·intro w y;go_simp;with_reducible rfl
   simp only[Act.put,sa,sb,sc]
  refine q0K rfl ?_;clear z hS0 g i;have x:qm (qc w.heap.size w r.drew):=vv (q05 s.o);by_cases hgt:1+(a:Int)+(c:Int)<(L:Int)
  ·have q:=vv (show q09 (a:Int) (c:Int) b=6 by rw[l.o,k0n hgt]);have N:¬(L:Int)<=1+(a:Int)+(c:Int):=by omega
   go_wp2;go_ret;exact⟨q0U q.o.symm,x.o⟩
  ·have q:=vv (show q09 (a:Int) (c:Int) b=0 by rw[l.o,k0o hgt]);have N:(L:Int)<=1+(a:Int)+(c:Int):=by omega
   clear hgt;go_wp2;go_ret;exact⟨q0U q.o.symm,x.o⟩
theorem and_mask(x sz:Nat)(h:sz<=63)(hx:x<18446744073709551616):bits .and .u64 (x:Int) ((R3.tw sz-1:Nat):Int)=((x%2^sz:Nat):Int):=by
 have d:2^sz<=2^63:=k04 (by omega) h;have e:(2:Nat)^63=9223372036854775808:=rfl;unfold R3.tw;have a:(BitVec.ofInt 64 (x:Int) &&& BitVec.ofInt 64 ((2^sz-1:Nat):Int)).toNat=x%2^sz:=by
  have b:(BitVec.ofInt 64 (x:Int)).toNat=x:=by rw[k1Z];omega
  have c:(BitVec.ofInt 64 ((2^sz-1:Nat):Int)).toNat=2^sz-1:=by rw[k1Z];omega
  rw[BitVec.toNat_and,b,c,k27]
 show IntKind.u64.wrap ((BitVec.ofInt 64 (x:Int) &&& BitVec.ofInt 64 ((2^sz-1:Nat):Int)).toNat:Nat)=_;have f:x%2^sz<=x:=Nat.mod_le _ _;rw[a,IntKind.wrap_u64];omega
theorem take(p sz b:Nat)(w:qi)(hs:sz<=63)(hp:p<=63)(hb:b<18446744073709551616):qk qd 63 #[.agg #[.int .i64 (p:Int),.int .i64 (sz:Int)],.int .u64 (b:Int)] w fun e w'=>e=.returned (.int .u64 ((b/2^p%2^sz:Nat):Int))/\qc w.heap.size w w':=by
 have d:=vv fun w=>qcv sz w hs
 have a:b/2^p<18446744073709551616:=k0F (k0e _ _) hb;have f:=vv (and_mask (b/2^p) sz hs a);have c:=vv (q1N b p);have g:(p:Int)<=63:=by omega
 clear hs hp hb a;go_enter func63,ntmps63;go_wp2_with fail;refine(d.o _).mono ?_;rintro e w' ⟨rfl,rfl⟩;go_wp2;go_ret;exact⟨q0U (by rw[c.o];exact f.o),(qa _ _).alloc lr _⟩
def q2x(E F b:Nat):Bool:=b/2^(F+E)%2==1
def q0E(E F b:Nat):Nat:=b/2^F%2^E
def q0W(F b:Nat):Nat:=b%2^F
abbrev q73(neg:Bool)(x f:Nat):qp:=.agg #[.bool neg,.int .i64 (x:Int),.int .u64 (f:Int)]
theorem blk3{v0 v1 v2:qp}(h:Blk w g t [v0,v1,v2]):w.cell? ⟨g,0,qb⟩=qj v0/\w.cell? ⟨g,1,qb⟩=qj v1/\w.cell? ⟨g,2,qb⟩=qj v2:=⟨h.cell 0,h.cell 1,h.cell 2⟩
theorem q7Y(E F b:Nat)(w:qi)(h1:2<=E)(h2:E<=11)(h3:1<=F)(h4:F<=52)(hb:b<2^(1+E+F)):qk qd 23 #[fm E F,.int .u64 (b:Int)] w fun e w'=>e=.returned (.tuple #[q73 (q2x E F b) (q0E E F b) (q0W F b),.int .i64 0])/\qc w.heap.size w w':=by
 have l:b<18446744073709551616:=k02 hb (by rw[show(18446744073709551616:Nat)=2^64 from rfl];exact k04 (by decide) (by omega));have Z:=q0A hb;have O:q09 E F b=0:=by unfold q09;rw[formOk_in h1 h2 h3 h4,k0n rfl,k0o (by omega)]
 have T:=vv fun w=>Fits E F b w l
 rw[O] at T;have a0:=vv fun w=>qbE E F w h2 h4
 have p:=vv fun w=>take (F+E) 1 b w (by omega) (by omega) l
 have P:=vv fun w=>take F E b w (by omega) (by omega) l
 have y:=vv fun w=>take 0 F b w (by omega) (by omega) l
 rw[show((F+E:Nat):Int)=(F:Int)+(E:Int) from k1g _ _] at p;simp only[k0J,k1m,k23] at y p;obtain⟨x,hx⟩:=yx (q0E E F b);obtain⟨f,I⟩:=yx (q0W F b);obtain⟨s,J⟩:=yx (b/2^(F+E)%2);obtain⟨neg,z⟩:=yx (q2x E F b);have a1:x<2^11:=by rw[hx];exact k02 (k0j _ (k0c _)) (k04 (by decide) h2)
 have a2:(x:Int)<=2047:=by omega
 have C:IntKind.i64.wrap (x:Int)=(x:Int):=qe _ (by omega);have D:((s:Int) != 0)=neg:=by rw[z,J];unfold q2x;rcases k0Z (b/2^(F+E)) with e|e<;>rw[e]<;>rfl
 rw[show b/2^F%2^E=x from hx.symm] at P;rw[show b%2^F=f from I.symm] at y;rw[<- J] at p;rw[<- hx,<- I,<- z];have U:=vv (And.intro C D);obtain⟨L,m⟩:=yx ((w.alloc (.cells #[.int .i64 (E:Int),.int .i64 (F:Int)] 23)).alloc (.cells #[.bool qh,.int .i64 0,.int .u64 0] 58));have g:qc w.heap.size w L:=by rw[m];exact((qa _ _).alloc lr _).alloc (by simp) _
 have V:Blk L (w.heap.size+1) 58 [.bool qh,.int .i64 0,.int .u64 0]:=by
  rw[m];have:=Blk.made (w.alloc (.cells #[.int .i64 (E:Int),.int .i64 (F:Int)] 23)) 58 [.bool qh,.int .i64 0,.int .u64 0]
  rwa [qg] at this
 have W:Blk L w.heap.size 23 [.int .i64 (E:Int),.int .i64 (F:Int)]:=by rw[m];exact(Blk.made w 23 [.int .i64 (E:Int),.int .i64 (F:Int)]).alloc _
 have HW:=vv m;have i:=vv g;have j:=vv V;have HQ:=vv W;clear h1 h2 h3 h4 hb l Z O hx I J z a1 a2 C D m g V W;go_enter func23,ntmps23;go_wp2_with fail;rw[<- HW.o];refine(T.o _).mono ?_;rintro e w1 ⟨rfl,g⟩;have a3:=vv (j.o.below g);have G:=vv (HQ.o.below g);have a4:=vn i g;have X:=G.o.cell 0;have Y:=G.o.cell 1;have cl:=G.o.lt;simp only[List.getElem?_cons_zero,List.getElem?_cons_succ] at X Y;clear g;go_wp2_with fail;refine(a0.o _).mono ?_;rintro e k ⟨rfl,g⟩;have a5:=vv (a3.o.below g);have a6:=vn a4 g;have q:=(qa k.heap.size k).alloc (o:=.cells #[.int .i64 0,.int .i64 (F:Int),.int .i64 (F:Int),.int .i64 (E:Int),.int .i64 ((F:Int)+(E:Int)),.int .i64 1] 113) lr;have M:=LayBox.made k (E:Int) (F:Int) 113;clear g X Y cl;go_wp2_with fail;obtain⟨w3,Q⟩:=yx (k.alloc (.cells #[.int .i64 0,.int .i64 (F:Int),.int .i64 (F:Int),.int .i64 (E:Int),.int .i64 ((F:Int)+(E:Int)),.int .i64 1] 113));rw[<- Q] at q M ⊢;have a:=vv M;have i:=vn a6 q;have j:=vv (a5.o.below q);clear q M Q;refine q02 (fun w'=>w'.cell? ⟨k.heap.size,0,qb⟩=qj (.int .i64 0)/\w'.cell? ⟨k.heap.size,1,qb⟩=qj (.int .i64 (F:Int))/\w'.cell? ⟨k.heap.size,2,qb⟩=qj (.int .i64 (F:Int))/\w'.cell? ⟨k.heap.size,3,qb⟩=qj (.int .i64 (E:Int))/\w'.cell? ⟨k.heap.size,4,qb⟩=qj (.int .i64 ((F:Int)+(E:Int)))/\w'.cell? ⟨k.heap.size,5,qb⟩=qj (.int .i64 1)) 14
  (.still 0 (.still 1 (.still 2 (.still 5 (.still 6 (.still 7 (.still 10 (.still 11 (.still 12 (.one 3 (.still 4 (.one 8 (.still 9 (.one 13 .done)))))))))))))) (by kernel_rfl) (by kernel_rfl) (fun _ _ d _ _ h=>by cases d<;>exact h) ⟨a.o.c0,a.o.c1,a.o.c2,a.o.c3,a.o.c4,a.o.c5⟩ (fun hS0=>?_)
 iterate 9
  refine q01 (v:=?_) rfl (by rfl) ?_ ?_;rotate_left
  ·intro w R;go_simp;with_reducible rfl
  simp only[Act.put,sa,sb,sc]
 obtain⟨N,n⟩:=yx (w3.drew);have a:qm (LayBox N k.heap.size E F):=vv (by rw[n];exact⟨a.o.c0,a.o.c1,a.o.c2,a.o.c3,a.o.c4,a.o.c5,a.o.lt⟩);have i:qm (qc w.heap.size w N):=vv (by rw[n];exact q05 i.o);have j:qm (Blk N (w.heap.size+1) 58 [.bool qh,.int .i64 0,.int .u64 0]):=vv (by rw[n];exact j.o);rw[<- n] at hS0 ⊢;clear n;refine q03 rfl (by rfl) (fun K hK=>?_);go_simp;refine(p.o _).mono ?_;rintro e w4 ⟨rfl,c⟩;have a:=vv (a.o.below c);have j:=vv (j.o.below c);have i:=vn i c;clear c;go_wp2_with fail;refine hK.out _ _ ⟨a.o.c0,a.o.c1,a.o.c2,a.o.c3,a.o.c4,a.o.c5⟩ (fun H=>?_);clear hK;have D:=U.o.2
 iterate 1
  refine q01 (v:=?_) rfl (by rfl) ?_ ?_;rotate_left
  ·intro w R;go_simp;with_reducible rfl
  simp only[Act.put,sa,sb,sc]
 refine q03 rfl (by rfl) (fun K hK=>?_);go_simp;refine(P.o _).mono ?_;rintro e w5 ⟨rfl,c⟩;have a:=vv (a.o.below c);have j:=vv (j.o.below c);have i:=vn i c;clear c;go_wp2_with fail;refine hK.out _ _ ⟨a.o.c0,a.o.c1,a.o.c2,a.o.c3,a.o.c4,a.o.c5⟩ (fun H=>?_);clear hK;have C:=U.o.1
 iterate 1
  refine q01 (v:=?_) rfl (by rfl) ?_ ?_;rotate_left
  ·intro w R;go_simp;with_reducible rfl
  simp only[Act.put,sa,sb,sc]
 refine q03 rfl (by rfl) (fun K hK=>?_);go_simp;refine(y.o _).mono ?_;rintro e w6 ⟨rfl,c⟩;have j:=vv (j.o.below c);have a:=vv (a.o.below c);have i:=vn i c;clear c;go_wp2_with fail;refine hK.out _ _ ⟨a.o.c0,a.o.c1,a.o.c2,a.o.c3,a.o.c4,a.o.c5⟩ (fun H=>?_);clear hK;refine q07 ?_;clear H hS0;go_wp2_with (with_reducible refine q00 rfl 58 (.tmp 4) (.tmp 31) rfl (w.heap.size+1) [.bool neg,.int .i64 (x:Int),.int .u64 (f:Int)] rfl rfl 58 _ j.o (by kernel_rfl) rfl rfl ?_);intro w8 g S;have a7:=vv (q0a i.o S i.o.size (k1B _));obtain⟨r,t,u⟩:=blk3 g;have K:=vv (And.intro r (And.intro t u));clear g S r t u;go_wp2;obtain⟨r,t,u⟩:=K.o;exact qf (v:=.tuple #[q73 neg x f,.int .i64 0]) (by simp [results,results23,go_sem,r,t,u,q73]) rfl ⟨rfl,a7.o⟩
def q1J(E x f:Nat):Nat:=if x=0 then(if f=0 then 1 else 2) else if x=R3.tw E-1 then(if f=0 then 4 else 5) else 3
theorem qaI(E F b:Nat)(w:qi)(h1:2<=E)(h2:E<=11)(h3:1<=F)(h4:F<=52)(hb:b<2^(1+E+F)):qk qd 64 #[fm E F,.int .u64 (b:Int)] w fun e w'=>e=.returned (.tuple #[.int .u8 ((q1J E (q0E E F b) (q0W F b):Nat):Int),.int .i64 0])/\qc w.heap.size w w':=by
 have j:=vv fun w=>q7Y E F b w h1 h2 h3 h4 hb
 have q:=vv fun w=>qcv E w (by omega)
 have u:q0E E F b<2^11:=k02 (k0j _ (k0c _)) (k04 (by decide) h2);have G:3<=R3.tw E-1:=by have:=R3.tw_le h1;unfold R3.tw at *;omega
 obtain⟨x,hx⟩:=yx (q0E E F b);obtain⟨f,y⟩:=yx (q0W F b);obtain⟨neg,v⟩:=yx (q2x E F b);obtain⟨m,s⟩:=yx (R3.tw E-1);have l:qm (q1J E x f=if x=0 then(if f=0 then 1 else 2) else if x=m then(if f=0 then 4 else 5) else 3):=vv (by unfold q1J;rw[s]);rw[<- hx] at j u ⊢;rw[<- y] at j ⊢;rw[<- v] at j;rw[<- s] at q G;have I:(x:Int)<=2047:=by omega
 have g:qc w.heap.size w (w.alloc (.cells #[.int .i64 (E:Int),.int .i64 (F:Int)] 23)):=(qa _ _).alloc lr _;have z:Blk (w.alloc (.cells #[.int .i64 (E:Int),.int .i64 (F:Int)] 23)) w.heap.size 23 [.int .i64 (E:Int),.int .i64 (F:Int)]:=Blk.made w 23 [.int .i64 (E:Int),.int .i64 (F:Int)];have n:=vv g;have k:=vv z;have H:(x=0/\f=0)\/(x=0/\f≠0)\/(x≠0/\x=m/\f=0)\/(x≠0/\x=m/\f≠0)\/(x≠0/\x≠m):=by omega
 clear h1 h2 h3 h4 hb u hx y v s g z;rcases H with ⟨a,c⟩|⟨a,c⟩|⟨a,c,d⟩|⟨a,c,d⟩|⟨a,c⟩
 ·have i:qm (q1J E x f=1):=vv (by rw[l.o,k0n a,k0n c]);subst a c;go_enter func64,ntmps64;go_wp2_with fail;refine(j.o _).mono ?_;rintro e r ⟨rfl,g⟩;have h:=vn n g;clear g;go_wp2;go_ret2;rw[i.o];exact⟨rfl,h.o.alloc h.o.size _⟩
 ·have i:qm (q1J E x f=2):=vv (by rw[l.o,k0n a,k0o c]);subst a;have t:((f:Int)==0)=qh:=by rw[k09];omega
  clear c;go_enter func64,ntmps64;go_wp2_with fail;refine(j.o _).mono ?_;rintro e r ⟨rfl,g⟩;have h:=vn n g;clear g;go_wp2;go_ret2;rw[i.o];exact⟨rfl,h.o.alloc h.o.size _⟩
 ·have i:qm (q1J E x f=4):=vv (by rw[l.o,k0o a,k0n c,k0n d]);subst d;have t:((x:Int)==0)=qh:=by rw[k09];omega
  have C:((x:Int)==(m:Int))=true:=by rw[k1S];omega
  clear a c;go_enter func64,ntmps64;go_wp2_with fail;refine(j.o _).mono ?_;rintro e r ⟨rfl,g⟩;have h:=vn n g;have p:=(k.o.below g).cell 0;have D:=(k.o.below g).lt;simp only[List.getElem?_cons_zero,List.getElem?_cons_succ] at p;clear g;go_wp2_with fail;refine(q.o _).mono ?_;rintro e w' ⟨rfl,rfl⟩;go_wp2;go_ret2;rw[i.o];exact⟨rfl,h.o.alloc h.o.size _⟩
 ·have i:qm (q1J E x f=5):=vv (by rw[l.o,k0o a,k0n c,k0o d]);have t:((x:Int)==0)=qh:=by rw[k09];omega
  have C:((x:Int)==(m:Int))=true:=by rw[k1S];omega
  have J:((f:Int)==0)=qh:=by rw[k09];omega
  clear a c d;go_enter func64,ntmps64;go_wp2_with fail;refine(j.o _).mono ?_;rintro e r ⟨rfl,g⟩;have h:=vn n g;have p:=(k.o.below g).cell 0;have D:=(k.o.below g).lt;simp only[List.getElem?_cons_zero,List.getElem?_cons_succ] at p;clear g;go_wp2_with fail;refine(q.o _).mono ?_;rintro e w' ⟨rfl,rfl⟩;go_wp2;go_ret2;rw[i.o];exact⟨rfl,h.o.alloc h.o.size _⟩
 ·have i:qm (q1J E x f=3):=vv (by rw[l.o,k0o a,k0o c]);have t:((x:Int)==0)=qh:=by rw[k09];omega
  have C:((x:Int)==(m:Int))=qh:=by rw[k09];omega
  clear a c;go_enter func64,ntmps64;go_wp2_with fail;refine(j.o _).mono ?_;rintro e r ⟨rfl,g⟩;have h:=vn n g;have p:=(k.o.below g).cell 0;have D:=(k.o.below g).lt;simp only[List.getElem?_cons_zero,List.getElem?_cons_succ] at p;clear g;go_wp2_with fail;refine(q.o _).mono ?_;rintro e w' ⟨rfl,rfl⟩;go_wp2;go_ret2;rw[i.o];exact⟨rfl,h.o.alloc h.o.size _⟩
end Fms
namespace Pnt
open Go Go.RowKit R5 Scn
theorem Of(n:Nat)(w:qi)(hn:n<18446744073709551616):qk qd 55 #[.int .u64 (n:Int)] w fun e w'=>∃A m,e=.returned (q0I A m m)/\Rd w' A m m (toL n)/\Fr w.heap.size A/\qc w.heap.size w w':=by
 obtain⟨c,z⟩:=yx (n%4294967296);obtain⟨hi,C⟩:=yx (n/4294967296);have J:(n:Int)%4294967296=(c:Int):=by omega
 have K:(n:Int)/4294967296=(hi:Int):=by omega
 have L:(hi:Int)%4294967296=(hi:Int):=by omega
 have p:val [c,hi]=n:=by simp [val];omega
 have j:c<4294967296:=by omega
 have k:hi<4294967296:=by omega
 obtain⟨g,h⟩:=R1.two_words (w.alloc (.cells #[.slice qb 0 0] 37)) c hi j k 54;have q:(w.alloc (.cells #[.slice qb 0 0] 37)).heap.size=w.heap.size+1:=by simp
 have r:Blk (w.alloc (.cells #[.slice qb 0 0] 37)) w.heap.size 37 [.slice qb 0 0]:=Blk.made w 37 [.slice qb 0 0];have s:=(qa w.heap.size w).alloc (o:=.cells #[.slice qb 0 0] 37) lr;have H:=vv (r.below h);have I:=vv (s.trans (h.mono (by simp)));rw[q] at g;have t:=vv (Nat_.trimmed (qj ⟨w.heap.size+1,0,qb⟩) 2 2 [c,hi] _ g);rw[p] at t;clear z C hn p j k g h q r s;go_enter func55,ntmps55;go_wp2_with fail;refine t.o.mono ?_;rintro e i ⟨b,m,rfl,u,x,d⟩;have f:=vv (H.o.below d);have D:=vn I d;have y:=f.o.cell 0;have fz:=f.o.fz 0;have lt:=f.o.lt;simp only[List.getElem?_cons_zero] at y;have l:qm (Fr (w.heap.size+1) b):=vv (fun a e=>by have:=x a e;cases this;exact⟨lr,rfl⟩);have E:qm (Rd (i.setCell ⟨w.heap.size,0,qb⟩ (.slice b m m)) b m m (toL n)):=vv (u.other _ _ _ (fun a e=>by have:=(l.o a e).1;omega));have F:qm (qc w.heap.size w (i.setCell ⟨w.heap.size,0,qb⟩ (.slice b m m))):=vv (D.o.setCell lr _);have G:(i.setCell ⟨w.heap.size,0,qb⟩ (.slice b m m)).cell? ⟨w.heap.size,0,qb⟩=qj (.slice b m m):=q0p y;clear d u x;go_wp2;exact qf (v:=q0I b m m) (by simp [results,results55,go_sem,G]) rfl ⟨b,m,rfl,E.o,l.o.mono (k1B _),F.o⟩
end Pnt
namespace Exa
open Go Go.RowKit R5 Scn
theorem q32(A:Option qn)(n c N:Nat)(w:qi)(ha:Rd w A n c (toL N))(h0:0<N)(hs:Std w)(hn:n<=16384):qk qd 134 #[q0I A n c] w fun e w'=>e=.returned (.int .i64 ((tz N:Nat):Int))/\qc w.heap.size w w':=by
 have l:qc w.heap.size w (w.alloc (.cells #[.slice A n c] 37)):=(qa _ _).alloc lr _;have m:=vv l;have G:(n:Int)<=16384:=by omega
 have g:qm (N<4294967296^n):=vv (by have:=ha.lt;rwa [q04] at this);have i:0<n:=by
  rcases k01 n with rfl|h
  ·have:=g.o;rw[k0J] at this;omega
  ·exact h
 obtain⟨b,off,rfl,H,j⟩:=ha.cell i;have x:=vv j;have z:=vv ha;clear ha j l;go_enter func134,ntmps134;go_wp2;go_loop [3] (fun t=>∃k:Nat,k<n/\t=.int .i64 (32*(k:Int))/\N%4294967296^k=0) (fun t=>32*n-(intOf t).toNat)
 case atStart=>exact⟨0,i,rfl,by rw[k0J,Nat.mod_one]⟩
 case round =>
  obtain⟨k,C,rfl,p⟩:=hrel;have q:=vv p;clear p;have hx:=x.o k C;have f:=z.o.nth_lt k;have a:=vv (q0Z N k);have I:32*(k:Int)/32=(k:Int):=by omega
  have J:(k:Int)<(n:Int):=by omega
  obtain⟨y,d⟩:=yx (nth (toL N) k);rw[<- d] at hx f a;by_cases h0:y=0
  ·have D:((y:Int)==0)=true:=by rw[h0];rfl
   have r:qm (N%4294967296^(k+1)=0):=vv (by rw[k0a,Nat.mod_mul,q.o,<- a.o,h0];simp);have s:k+1<n:=by
    rcases k0y (k+1) n with h|h
    ·exact h
    ·exfalso;have e:k+1=n:=by omega
     have:=r.o;rw[e,k0u g.o] at this;omega
   clear h0 d;go_wp2;go_round
   case rel=>exact⟨k+1,s,by go_num,r.o⟩
   case measure=>simp [intOf];omega
  ·have D:((y:Int)==0)=qh:=by rw[k09];omega
   have E:=vv (q6A q.o (by rw[<- a.o];exact h0));have u:qm (tz y<=31):=vv (by have:=q1a (k0G h0);have L:bl y<=32:=q0A (by omega);omega);have F:=vv (qbO (k0G h0) f);have v:=vv (qcK y _ f (k0G h0) (hs.below m.o));have M:=vv d;clear h0 d;go_wp2_with fail;refine v.o.mono ?_;rintro e w' ⟨rfl,rfl⟩;rw[F.o];have K:=u.o;go_wp2;go_ret;exact⟨q0U (by rw[E.o,<- a.o];omega),m.o⟩
def DyP(neg:Bool)(N:Nat)(x:Int)(w:qi)(e:Ending)(w':qi):Prop:=
 ∃A m,e=.returned (.tuple #[q14 neg A m m x,.int .i64 0])/\Rd w' A m m (toL N)/\Fr w.heap.size A/\qc w.heap.size w w'
theorem qc0(neg:Bool)(A:Option qn)(c:Nat)(x:Int)(w:qi)(ha:Rd w A 0 c (toL 0)):qk qd 65 #[.bool neg,q0I A 0 c,.int .i64 x] w (DyP qh 0 0 w):=by
 obtain⟨h,b⟩:=yx ((w.alloc (.cells #[.slice A 0 c] 37)).alloc (.cells #[.bool qh,.slice qb 0 0,.int .i64 0] 62));have i:qc w.heap.size w h:=by rw[b];exact((qa _ _).alloc lr _).alloc (by simp) _
 have l:Blk h w.heap.size 37 [.slice A 0 c]:=by rw[b];exact(Blk.made w 37 [.slice A 0 c]).alloc _
 have m:Blk h (w.heap.size+1) 62 [.bool qh,.slice qb 0 0,.int .i64 0]:=by
  rw[b];have:=Blk.made (w.alloc (.cells #[.slice A 0 c] 37)) 62 [.bool qh,.slice qb 0 0,.int .i64 0]
  rwa [qg] at this
 have y:=vv (Pnt.Check_ok (ha.below i rfl) (k0x _));have q:=vv fun w=>q5v A c w
 have z:=vv i;have n:=vv l;have C:=vv m;have D:=vv b;clear i l m b ha;go_enter func65,ntmps65;go_wp2_with fail;rw[<- D.o];refine y.o.mono ?_;rintro e F ⟨rfl,a⟩;have r:=vv (C.o.below a);have s:=vn z a;have p:=(n.o.below a).cell 0;have E:=(n.o.below a).lt;simp only[List.getElem?_cons_zero] at p;clear a;go_wp2_with fail;refine(q.o _).mono ?_;rintro e G ⟨rfl,a⟩;have t:=vv (r.o.below a);have j:=vn s a;clear a p E;go_wp2_with (with_reducible refine q00 rfl 62 (.tmp 6) (.tmp 20) rfl (w.heap.size+1) [.bool qh,.slice qb 0 0,.int .i64 0] rfl rfl 62 _ t.o (by kernel_rfl) rfl rfl ?_);intro H a k;have u:=vv (q0a j.o k j.o.size (k1B _));obtain⟨d,f,g⟩:=Fms.blk3 a;have K:=vv (And.intro d (And.intro f g));clear a k d f g;go_wp2;obtain⟨d,f,g⟩:=K.o;exact qf (v:=.tuple #[q14 qh qb 0 0 0,.int .i64 0]) (by simp [results,results65,go_sem,d,f,g]) rfl ⟨qb,0,rfl,Rd.nil _,Fr.none_ _,u.o⟩
theorem qc9(neg:Bool)(A:Option qn)(n c N:Nat)(x:Int)(w:qi)(ha:Rd w A n c (toL N))(h0:0<N)(hs:Std w)(hn:n<=16384)(hx:-1073741824<=x)(hx2:x+(tz N:Int)<=1073741824):qk qd 65 #[.bool neg,q0I A n c,.int .i64 x] w (DyP neg (N/2^tz N) (x+(tz N:Int)) w):=by
 obtain⟨u,f⟩:=yx ((w.alloc (.cells #[.slice A n c] 37)).alloc (.cells #[.bool qh,.slice qb 0 0,.int .i64 0] 62));have y:qc w.heap.size w u:=by rw[f];exact((qa _ _).alloc lr _).alloc (by simp) _
 have S:Blk u w.heap.size 37 [.slice A n c]:=by rw[f];exact(Blk.made w 37 [.slice A n c]).alloc _
 have T:Blk u (w.heap.size+1) 62 [.bool qh,.slice qb 0 0,.int .i64 0]:=by
  rw[f];have:=Blk.made (w.alloc (.cells #[.slice A n c] 37)) 62 [.bool qh,.slice qb 0 0,.int .i64 0]
  rwa [qg] at this
 have HC:=vv (Pnt.Check_ok (ha.below y rfl) hn);have HB:=vv y;have HQ:=vv S;have HR:=vv T;have HW:=vv f;have D:0<n:=by
  rcases k01 n with rfl|h
  ·have:=ha.lt;rw[q04,k0J] at this;omega
  ·exact h
 have W:bl N<=524288:=by have h:=ha.lt;rw[q04,q1q] at h;have:=q0A h;omega
 have E:=q1a h0;have X:=vv fun w=>q2w A n c w D
 have F:=vv fun d (h:qc w.heap.size w d)=>q32 A n c N d (ha.below h rfl) h0 (hs.below h) hn
 have G:=vv fun d (h:qc w.heap.size w d)=>Pnt.Down A n c N (tz N) d (ha.below h rfl) hn (by omega)
 obtain⟨z,U⟩:=yx (tz N);rw[<- U] at F G E hx2 ⊢;have a5:(z:Int)<=524288:=by omega
 have H:=vv fun w=>far (x+(z:Int)) w
 have I:Dec.farB (x+(z:Int))=qh:=by unfold Dec.farB;rw[k00 (by omega),k00 (by omega)];rfl
 rw[I] at H;clear y S T f ha h0 hs D W E U I hn;go_enter func65,ntmps65;go_wp2_with fail;rw[<- HW.o];refine HC.o.mono ?_;rintro e w1 ⟨rfl,b⟩;have q:=vv (HQ.o.below b);have Y:=vv (HR.o.below b);have Z:=vn HB b;have g:=q.o.cell 0;have V:=q.o.lt;simp only[List.getElem?_cons_zero] at g;clear b;go_wp2_with fail;refine(X.o _).mono ?_;rintro e w2 ⟨rfl,b⟩;have r:=vv (q.o.below b);have a2:=vv (Y.o.below b);have J:=vn Z b;have g:=r.o.cell 0;have V:=r.o.lt;simp only[List.getElem?_cons_zero] at g;clear b;go_wp2_with fail;refine(F.o _ J.o).mono ?_;rintro e w3 ⟨rfl,b⟩;have L:=vv (r.o.below b);have M:=vv (a2.o.below b);have s:=vn J b;have g:=L.o.cell 0;have V:=L.o.lt;simp only[List.getElem?_cons_zero] at g;clear b;go_wp2_with fail;refine(H.o _).mono ?_;rintro e d ⟨rfl,rfl⟩;go_wp2_with fail;refine(G.o _ s.o).mono ?_;rintro e C ⟨i,m,rfl,O,P,b⟩;have j:qc C.heap.size C (C.alloc (.cells #[.slice i m m] 37)):=(qa _ _).alloc lr _;have a3:=vv ((M.o.below b).below j);have Q:=vv (s.o.trans ((b.trans (j.mono b.size)).mono s.o.size));have a0:=vv (O.below j rfl);have R:qm (Fr (w.heap.size+2) i):=vv (P.mono M.o.lt);clear O P b j;go_wp2_with (with_reducible refine q00 rfl 62 (.tmp 6) (.tmp 52) rfl (w.heap.size+1) [.bool neg,.slice i m m,.int .i64 (x+(z:Int))] rfl rfl 62 _ a3.o (by kernel_rfl) rfl rfl ?_);intro w8 b t;have a4:=vv (q0a Q.o t Q.o.size (k1B _));have a1:=vv (a0.o.only t (fun a e=>by have:=(R.o a e).1;omega));obtain⟨k,l,p⟩:=Fms.blk3 b;have K:=vv (And.intro k (And.intro l p));clear b t k l p;go_wp2;obtain⟨k,l,p⟩:=K.o;exact qf (v:=.tuple #[q14 neg i m m (x+(z:Int)),.int .i64 0]) (by simp [results,results65,go_sem,k,l,p]) rfl ⟨i,m,rfl,a1.o,R.o.mono (by omega),a4.o⟩
end Exa
namespace Exa
open Go Go.RowKit R5 Scn Fms
def mantOf(F x f:Nat):Nat:=if x=0 then f else f+2^F
def powOf(E F x:Nat):Int:=2-(2^(E-1):Nat)-F+(if x=0 then 0 else(x:Int)-1)
def q9b(neg:Bool)(M:Nat)(p:Int)(w:qi)(e:Ending)(w':qi):Prop:=
 if M=0 then DyP qh 0 0 w e w' else DyP neg (M/2^tz M) (p+(tz M:Int)) w e w'
theorem ValueF(E F b:Nat)(w:qi)(h1:2<=E)(h2:E<=11)(h3:1<=F)(h4:F<=52)(hb:b<2^(1+E+F))(hf:q0E E F b≠R3.tw E-1)(hs:Std w):qk qd 24 #[fm E F,.int .u64 (b:Int)] w (q9b (q2x E F b) (mantOf F (q0E E F b) (q0W F b)) (powOf E F (q0E E F b)) w):=by
 have C:=vv fun w=>q7Y E F b w h1 h2 h3 h4 hb
 have V:=vv fun w=>qaI E F b w h1 h2 h3 h4 hb
 have b4:q0E E F b<2^11:=k02 (k0j _ (k0c _)) (k04 (by decide) h2);have a7:q0W F b<2^F:=k0j _ (k0c _);obtain⟨x,hx⟩:=yx (q0E E F b);obtain⟨f,b5⟩:=yx (q0W F b);obtain⟨neg,a0⟩:=yx (q2x E F b);rw[<- hx] at C V b4 hf ⊢;rw[<- b5] at C V a7 ⊢;rw[<- a0] at C ⊢;obtain⟨Po,y⟩:=yx (q9b neg (mantOf F x f) (powOf E F x) w);rw[<- y];have W:=vv y;clear y;have a1:2^F<=2^52:=k04 (by decide) h4;have a2:2^(E-1)<=2^10:=k04 (by decide) (by omega);obtain⟨P,hP⟩:=yx (2^(E-1));rw[<- hP] at a2;have f0:(x:Int)<=2047:=by omega
 have f1:(E:Int)<=11:=by omega
 have f2:(2:Int)<=(E:Int):=by omega
 have f3:(F:Int)<=52:=by omega
 have f4:(P:Int)<=1024:=by omega
 obtain⟨w0,D⟩:=yx ((w.alloc (.cells #[.int .i64 (E:Int),.int .i64 (F:Int)] 23)).alloc (.cells #[.bool qh,.slice qb 0 0,.int .i64 0] 62));have g:qc w.heap.size w w0:=by rw[D];exact((qa _ _).alloc lr _).alloc (by simp) _
 have hR:Blk w0 (w.heap.size+1) 62 [.bool qh,.slice qb 0 0,.int .i64 0]:=by
  rw[D];have:=Blk.made (w.alloc (.cells #[.int .i64 (E:Int),.int .i64 (F:Int)] 23)) 62 [.bool qh,.slice qb 0 0,.int .i64 0]
  rwa [qg] at this
 have hQ:Blk w0 w.heap.size 23 [.int .i64 (E:Int),.int .i64 (F:Int)]:=by rw[D];exact(Blk.made w 23 [.int .i64 (E:Int),.int .i64 (F:Int)]).alloc _
 have HW:=vv D;have HB:=vv g;have HR:=vv hR;have N:=vv hQ;have HS:=vv hs;have X:IntKind.i64.wrap ((E:Int)-1)=(E:Int)-1:=qe _ (by omega);have n:IntKind.i64.wrap (2-(P:Int))=2-(P:Int):=qe _ (by omega);have G:IntKind.i64.wrap (2-(P:Int)-(F:Int))=2-(P:Int)-(F:Int):=qe _ (by omega);have b6:=vv (And.intro X (And.intro n G));have HX:=vv hx;have H:=vv hP;have Y:=vv (And.intro hf (And.intro a7 a1));have HH:=vv (And.intro h1 (And.intro h2 (And.intro h3 h4)));clear hx b5 a0 hb D g hR hQ hs X n G hP h1 h2 h3 h4 hf a7 a1 b4 a2;go_enter func24,ntmps24;go_wp2_with fail;rw[<- HW.o];refine(C.o _).mono ?_;rintro e q ⟨rfl,g⟩;have I:qc q.heap.size q (q.alloc (.cells #[.bool neg,.int .i64 (x:Int),.int .u64 (f:Int)] 58)):=(qa _ _).alloc lr _;obtain⟨w2,n⟩:=yx (q.alloc (.cells #[.bool neg,.int .i64 (x:Int),.int .u64 (f:Int)] 58));have b7:Blk w2 q.heap.size 58 [.bool neg,.int .i64 (x:Int),.int .u64 (f:Int)]:=by rw[n];exact Blk.made q 58 [.bool neg,.int .i64 (x:Int),.int .u64 (f:Int)]
 rw[<- n] at I;have d8:=vv n;have b8:=vv b7;have b9:=vv ((HR.o.below g).below I);have c2:=vv ((N.o.below g).below I);have c3:=vv (HB.o.trans ((g.trans (I.mono g.size)).mono HB.o.size));have r:=(N.o.below g).cell 0;have s:=(N.o.below g).cell 1;have cl:=(N.o.below g).lt;simp only[List.getElem?_cons_zero,List.getElem?_cons_succ] at r s;clear g I n b7;go_wp2_with fail;rw[<- d8.o];refine(V.o _).mono ?_;rintro e w3 ⟨rfl,g⟩;have Z:=vv (b8.o.below g);have c4:=vv (b9.o.below g);have J:=vv (c2.o.below g);have c5:=vn c3 g;obtain⟨p0,p1,p2⟩:=blk3 Z.o;have r:=J.o.cell 0;have s:=J.o.cell 1;have cl:=J.o.lt;have pl:=Z.o.lt;simp only[List.getElem?_cons_zero,List.getElem?_cons_succ] at r s;clear g;go_wp2_with fail;refine q02 (fun w'=>w'.cell? ⟨w.heap.size,0,qb⟩=qj (.int .i64 (E:Int))/\w'.cell? ⟨w.heap.size,1,qb⟩=qj (.int .i64 (F:Int))/\w'.cell? ⟨q.heap.size,2,qb⟩=qj (.int .u64 (f:Int))) 12
  (.still 0 (.still 1 (.still 2 (.still 3 (.still 4 (.still 5 (.still 6 (.still 7 (.still 8 (.still 9 (.still 10 (.still 11 .done)))))))))))) (by kernel_rfl) (by kernel_rfl) (fun _ _ d _ _ h=>by cases d<;>exact h) ⟨r,s,p2⟩ (fun hS0=>?_)
 obtain⟨X,n,G⟩:=b6.o
 iterate 12
  refine q01 (v:=?_) rfl (by rfl) ?_ ?_;rotate_left
  ·intro w c6;go_simp;with_reducible rfl
  simp only[Act.put,sa,sb,sc]
 refine q0K rfl ?_;have j:IntKind.i64.wrap ((2:Int)^(E-1))=(P:Int):=by rw[show((2:Int)^(E-1))=((2^(E-1):Nat):Int) by simp,<- H.o];exact qe _ (by omega)
 rw[j,n,G];clear X n G j b6 hS0 r s cl pl p0 p1 p2;obtain⟨B,a8⟩:=yx (2-(P:Int)-(F:Int));have f5:-2000<=B:=by omega
 have f6:B<=2:=by omega
 rw[<- a8];have L:=vv a8;have a4:=vv (Z.o.below (q05 (qa _ _)));have c7:=vv (c4.o.below (q05 (qa _ _)));have a5:=vv (J.o.below (q05 (qa _ _)));have a6:qm (qc w.heap.size w w3.drew):=vv (q05 c5.o);obtain⟨w4,c8⟩:=yx (w3.drew);rw[<- c8] at a4 c7 a5 a6 ⊢;clear c8 a8 Z c4 J c5 b8 b9 c2 c3 HR N HB;obtain⟨p0,p1,p2⟩:=blk3 a4.o;have r:=a5.o.cell 0;have s:=a5.o.cell 1;have cl:=a5.o.lt;have pl:=a4.o.lt;simp only[List.getElem?_cons_zero,List.getElem?_cons_succ] at r s;obtain⟨c,hc⟩:=yx (q1J E x f);rw[<- hc];have d9:(x=0/\f=0/\c=1)\/(x=0/\f≠0/\c=2)\/(x≠0/\c=3):=by
  have:=Y.o.1;rw[hc];unfold q1J;by_cases h:x=0
  ·by_cases h':f=0
   ·exact Or.inl ⟨h,h',by rw[k0n h,k0n h']⟩
   ·exact Or.inr (Or.inl ⟨h,h',by rw[k0n h,k0o h']⟩)
  ·exact Or.inr (Or.inr ⟨h,by rw[k0o h,k0o this]⟩)
 clear hc;obtain⟨M,l⟩:=yx (mantOf F x f);obtain⟨p,j⟩:=yx (powOf E F x);have z:M<2^53 /\ -2000<=p/\p<=2050:=by
  have h:=Y.o;unfold mantOf at l;unfold powOf at j;rw[<- H.o,<- L.o] at j;split at l
  next e=>rw[k0n e] at j;omega
  next e=>rw[k0o e] at j;omega
 rcases d9 with ⟨k,a9,rfl⟩|⟨k,a9,rfl⟩|⟨k,rfl⟩
 case' inr.inr =>
  have h1:IntKind.i64.wrap ((x:Int)-1)=(x:Int)-1:=qe _ (by omega);have h2:IntKind.i64.wrap (B+((x:Int)-1))=p:=by rw[j];unfold powOf;rw[k0o k,<- H.o,<- L.o];exact qe _ (by omega)
  have H3:qm (IntKind.u64.wrap ((2:Int)^F)=((2^F:Nat):Int)):=vv (R5.wu_pow (by omega));have c9:qm (bits .or .u64 (f:Int) ((2^F:Nat):Int)=(M:Int)):=vv (by have h:=Y.o;rw[u64_or_nat _ _ (by omega) (by omega),l];unfold mantOf;rw[k0o k,Nat.or_comm];have h:=k1c (i:=F) (b:=f) (by omega) 1;rw[k0A] at h;rw[<- h,k11]);clear k;have HM:=vv l;have HP:=vv j;have u:=vv z;clear l j z;go_wp2_with fail;rw[H3.o,c9.o];clear h1 h2 H3 c9
 case' inl =>
  have O:f=M:=by rw[l];unfold mantOf;rw[k0n k]
  have Q:B=p:=by rw[j];unfold powOf;rw[k0n k,L.o,H.o];omega
  rw[O,Q];clear k a9;have HM:=vv l;have HP:=vv j;have u:=vv z;clear l j z O Q;go_wp2_with fail
 case' inr.inl =>
  have O:f=M:=by rw[l];unfold mantOf;rw[k0n k]
  have Q:B=p:=by rw[j];unfold powOf;rw[k0n k,L.o,H.o];omega
  rw[O,Q];clear k a9;have HM:=vv l;have HP:=vv j;have u:=vv z;clear l j z O Q;go_wp2_with fail
 all_goals
  have W:qm (∀e w',q9b neg M p w e w'->Po e w'):=vv (by rw[W.o,<- HM.o,<- HP.o];exact fun _ _ h=>h);have e0:=vv fun w=>Pnt.Of M w (by have:=u.o.1;omega)
  have e3:=vv (HS.o.below a6.o);clear r s cl p1 p2 HP HX Y L HM V C;refine q02 (fun w'=>w'.cell? ⟨q.heap.size,0,qb⟩=qj (.bool neg)) 8
   (.still 0 (.still 1 (.still 2 (.still 4 (.one 3 (.one 5 (.still 6 (.still 7 .done)))))))) (by kernel_rfl) (by kernel_rfl) (fun _ _ d _ _ h=>by cases d<;>exact h) p0 (fun hS0=>?_)
  iterate 4
   refine q01 (v:=?_) rfl (by rfl) ?_ ?_;rotate_left
   ·intro w c6;go_simp;with_reducible rfl
   simp only[Act.put,sa,sb,sc]
  refine q03 rfl (by rfl) (fun K hK=>?_);go_simp;refine(e0.o _).mono ?_;rintro e R ⟨A,m,rfl,t,hF,g⟩;have g:qc w4.heap.size w4 R:=⟨g.os,g.tape,g.output,g.size,g.block⟩;have d0:=vv (a4.o.below g);have d1:=vv (c7.o.below g);have e4:=vn a6 g;have b2:=vv (e3.o.below g);have f7:=vv (hF.mono (k06 a6.o.size lr));have d2:=vv t;clear g hF t;go_wp2_with fail;refine hK.out _ _ (d0.o.cell 0) (fun a3=>?_);clear hK;have b0:qm (∃S N2 T,qk qd 65 #[.bool neg,q0I A m m,.int .i64 p] R (DyP S N2 T R)/\∀e w',DyP S N2 T w e w'->Po e w'):=vv (by
   have t:=d2.o;have hm:m<=2:=t.bound (by have:=u.o.1;omega);by_cases h0:M=0
   ·refine⟨qh,0,0,?_,fun e w' h=>W.o e w' (by unfold q9b;rw[k0n h0];exact h)⟩;rw[h0,q2r] at t;have:m=0:=t.len.symm;subst this;exact qc0 neg A 0 p R (by rw[q2r];exact t)
   ·have ht:=q1a (k0G h0);have hb:=q0A u.o.1;have hv:=u.o;exact⟨neg,_,_,qc9 neg A m m M p R t (k0G h0) b2.o (by omega) (by omega) (by omega),fun e w' h=>W.o e w' (by unfold q9b;rw[k0o h0];exact h)⟩)
  obtain⟨S,N2,T,d3,y⟩:=b0.o;have b0:=vv d3;have e5:=vv y;clear d3 y d2 u;refine q03 rfl (by rfl) (fun K hK=>?_);go_simp;refine b0.o.mono ?_;rintro e w6 ⟨A6,U,rfl,d4,d5,g⟩;have e6:=vv (d0.o.below g);have e7:=vv (d1.o.below g);have d6:=vn e4 g;have d7:=vv (d5.mono d1.o.lt);have e8:=vv d4;clear g d5 d4;go_wp2_with fail;refine hK.out _ _ (e6.o.cell 0) (fun a3=>?_);clear hK
  iterate 2
   refine q01 (v:=?_) rfl (by rfl) ?_ ?_;rotate_left
   ·intro w c6;go_simp;with_reducible rfl
   simp only[Act.put,sa,sb,sc]
  refine q07 ?_;simp only[k0H,k0M];go_wp2_with (with_reducible refine q00 rfl 62 (.tmp 4) (.tmp 63) rfl (w.heap.size+1) [.bool S,.slice A6 U U,.int .i64 T] rfl rfl 62 _ e7.o (by kernel_rfl) rfl rfl ?_)
  all_goals
   intro w8 g b1;have e9:=vv (q0a d6.o b1 d6.o.size (k1B _));have b3:=vv (e8.o.only b1 (fun a e=>by have:=(d7.o a e).1;omega));obtain⟨k0,k1,k2⟩:=Fms.blk3 g;have K:=vv (And.intro k0 (And.intro k1 k2));clear g b1 k0 k1 k2;go_wp2;obtain⟨k0,k1,k2⟩:=K.o;exact qf (v:=.tuple #[q14 S A6 U U T,.int .i64 0]) (by simp [results,results24,go_sem,k0,k1,k2]) rfl (e5.o _ _ ⟨A6,U,rfl,b3.o,d7.o.mono (by omega),e9.o⟩)
end Exa
namespace Pnt
open Go Go.RowKit R5 Scn
theorem qda(A B:Option qn)(n m c d:Nat)(xs ys:List Nat)(w:qi)(ha:Rd w A n c xs)(hb:Rd w B m d ys)(hx:xs=toL (val xs))(hy:ys=toL (val ys)):qk qd 290 #[.slice A n c,.slice B m d] w fun e w'=>e=.returned (.int .i64 (q0F (val xs) (val ys)))/\qc w.heap.size w w':=by
 have L:=ha.sm;have M:=hb.sm;have l:words (val xs)=n:=by unfold words;rw[<- hx,ha.len]
 have q:words (val ys)=m:=by unfold words;rw[<- hy,hb.len]
 have x:=vv l;have y:=vv q;clear l q;clear hx hy;rcases k1w n m with h|h|h
 ·have C:=vv (q1y (q1O (a:=val xs) (b:=val ys) (by rw[x.o,y.o];exact h)));go_enter func290,ntmps290;go_wp2;go_ret;exact⟨q0U C.o.symm,qa _ _⟩
 ·subst h;go_enter func290,ntmps290;go_wp2;go_loopw [5] (fun i wr=>∃(z:Int) (k:Nat),i=.int .i64 z/\z+1=k/\k<=n/\val (xs.drop k)=val (ys.drop k)/\qc w.heap.size w wr) (fun i _=>(intOf i+1).toNat)
  case atStart=>exact⟨_,n,rfl,by omega,lr,by rw[k0R (by rw[ha.len];omega),k0R (by rw[hb.len];omega)],qa _ _⟩
  case round =>
   obtain⟨z,k,rfl,D,Q,r,f⟩:=hrel;have g:=vv r;clear r;rcases k01 k with rfl|N
   ·obtain rfl:z = -1:=by omega
    have C:=vv (q47 (a:=val xs) (b:=val ys) (by have:=g.o;simpa using this));clear D;go_wp2;go_ret;exact⟨q0U C.o.symm,f⟩
   ·obtain⟨j,rfl⟩:∃j,k=j+1:=⟨k-1,by omega⟩;obtain rfl:z=(j:Int):=by omega
    clear D;obtain⟨b,off,rfl,F,s⟩:=ha.cell (by omega);have O:wr.cell? ⟨b,off+j,qb⟩=qj (.int .u32 ((nth xs j:Nat):Int)):=(f.cell (p:=⟨b,off+j,qb⟩) F).trans (s j (by omega));clear s;obtain⟨E,t,rfl,G,u⟩:=hb.cell (by omega);have P:wr.cell? ⟨E,t+j,qb⟩=qj (.int .u32 ((nth ys j:Nat):Int)):=(f.cell (p:=⟨E,t+j,qb⟩) G).trans (u j (by omega));clear u;have R:(j:Int)<(n:Int):=by omega
    have S:(0:Int)<=(j:Int):=by omega
    rcases k1w (nth xs j) (nth ys j) with H|v|I
    ·have C:=vv (q1y (q2A ha.lim (by rw[ha.len];omega) (by rw[hb.len];omega) g.o H));go_wp2_with fail;go_quiet (fail);go_wp2;go_ret;exact⟨q0U C.o.symm,q0k f _⟩
    ·have J:ql (nth xs j<nth ys j)=qh:=by simp;omega
     have T:ql (nth ys j<nth xs j)=qh:=by simp;omega
     have K:qm (val (xs.drop j)=val (ys.drop j)):=vv (by rw[q0n xs,q0n ys,g.o,v]);clear v;go_wp2_with fail;go_quiet (fail);go_wp2_with fail;go_quiet (fail);go_wp2;go_roundw
     case rel=>exact⟨_,j,rfl,by omega,by omega,K.o,q0k f _⟩
     case measure=>simp [intOf]
    ·have C:=vv (q2m (q2A hb.lim (by rw[hb.len];omega) (by rw[ha.len];omega) g.o.symm I));have J:ql (nth xs j<nth ys j)=qh:=by simp;omega
     go_wp2_with fail;go_quiet (fail);go_wp2_with fail;go_quiet (fail);go_wp2;go_ret;exact⟨q0U C.o.symm,q0k (q0k f _) _⟩
 ·have C:=vv (q2m (q1O (a:=val ys) (b:=val xs) (by rw[x.o,y.o];exact h)));go_enter func290,ntmps290;go_wp2;go_ret;exact⟨q0U C.o.symm,qa _ _⟩
theorem qdj(A B:Option qn)(n m c d N M:Nat)(w:qi)(ha:Rd w A n c (toL N))(hb:Rd w B m d (toL M)):qk qd 290 #[.slice A n c,.slice B m d] w fun e w'=>e=.returned (.int .i64 (q0F N M))/\qc w.heap.size w w':=by
 have h:=qda A B n m c d (toL N) (toL M) w ha hb (by rw[q04]) (by rw[q04])
 rwa [q04,q04] at h
theorem q48(A B:Option qn)(n m c d N M g:Nat)(w:qi)(ha:Rd w A n c (toL N))(hb:Rd w B m d (toL M))(hn:n<=16384)(hm:m<=16384)(hQ:Blk w g 37 [.slice A n c,.slice B m d]):qk qd 123 #[.slice (qj ⟨g,0,qb⟩) 2 2] w fun e w'=>e=.returned (.int .i64 0)/\qc w.heap.size w w':=by
 have t:=vv fun w' (h:qc w.heap.size w w')=>Check_ok (ha.below h rfl) hn
 have u:=vv fun w' (h:qc w.heap.size w w')=>Check_ok (hb.below h rfl) hm
 have p:=vv hQ;clear ha hb hn hm hQ;go_enter func123,ntmps123;go_wp2_with fail;go_loopw [8] (fun i wr=>∃k:Nat,k<=2/\i=.int .i64 (k:Int)/\qc w.heap.size w wr) (fun i _=>(2-intOf i).toNat)
 case atStart=>exact⟨0,by decide,rfl,qa _ _⟩
 case round =>
  obtain⟨k,x,rfl,b⟩:=hrel;have f:=vv b;have q:=(p.o.below b).cell 0;have r:=(p.o.below b).cell 1;have s:=(p.o.below b).lt;simp only[List.getElem?_cons_zero,List.getElem?_cons_succ] at q r;clear b;rcases(by omega:k=0\/k=1\/k=2) with rfl|rfl|rfl
  ·go_wp2_with fail;have a:=f.o.alloc f.o.size (.cells #[.slice A n c] 37);refine(t.o _ a).mono ?_;rintro e v ⟨rfl,j⟩;have l:=vv (a.trans (j.mono a.size));clear j q r s a;go_wp2;go_roundw
   case rel=>exact⟨1,by decide,rfl,l.o⟩
   case measure=>simp [intOf]
  ·go_wp2_with fail;have a:=f.o.alloc f.o.size (.cells #[.slice B m d] 37);refine(u.o _ a).mono ?_;rintro e v ⟨rfl,j⟩;have l:=vv (a.trans (j.mono a.size));clear j q r s a;go_wp2;go_roundw
   case rel=>exact⟨2,by decide,rfl,l.o⟩
   case measure=>simp [intOf]
  ·go_wp2;go_ret;exact⟨rfl,f.o⟩
theorem Cmp(A B:Option qn)(n m c d N M:Nat)(w:qi)(ha:Rd w A n c (toL N))(hb:Rd w B m d (toL M))(hn:n<=16384)(hm:m<=16384):qk qd 295 #[q0I A n c,q0I B m d] w fun e w'=>e=.returned (.tuple #[.int .i64 (q0F N M),.int .i64 0])/\qc w.heap.size w w':=by
 have C:=vv fun g w' (h:qc w.heap.size w w') (j:Blk w' g 37 [.slice A n c,.slice B m d])=>q48 A B n m c d N M g w' (ha.below h rfl) (hb.below h rfl) hn hm j
 have D:=vv fun w' (h:qc w.heap.size w w')=>qdj A B n m c d N M w' (ha.below h rfl) (hb.below h rfl)
 obtain⟨f,b⟩:=yx (((w.alloc (.cells #[.slice A n c] 37)).alloc (.cells #[.slice B m d] 37)));have a:qc w.heap.size w f:=by rw[b];exact((qa _ _).alloc lr _).alloc (by simp) _
 have k:Blk f w.heap.size 37 [.slice A n c]:=by rw[b];exact(Blk.made w 37 [.slice A n c]).alloc _
 have l:Blk f (w.heap.size+1) 37 [.slice B m d]:=by
  rw[b];have:=Blk.made (w.alloc (.cells #[.slice A n c] 37)) 37 [.slice B m d]
  rwa [qg] at this
 have E:=vv b;have u:=vv a;have F:=vv k;have G:=vv l;have y:qm (f.heap.size=w.heap.size+1+1):=vv (by rw[b];simp);have p:=k.cell 0;have v:=k.lt;have q:=l.cell 0;have x:=l.lt;simp only[List.getElem?_cons_zero] at p q;clear ha hb hn hm b a k l;go_enter func295,ntmps295;go_wp2_with fail;rw[<- E.o];go_wp2_with fail;have i:=u.o.alloc u.o.size (.cells #[.slice A n c,.slice B m d] 37);have j:Blk (f.alloc (.cells #[.slice A n c,.slice B m d] 37)) (w.heap.size+1+1) 37 [.slice A n c,.slice B m d]:=by rw[<- y.o];exact Blk.made f 37 [.slice A n c,.slice B m d]
 refine(C.o _ _ i j).mono ?_;rintro e H ⟨rfl,a⟩;have t:=vv (i.trans (a.mono i.size));have r:=(F.o.alloc (.cells #[.slice A n c,.slice B m d] 37)).below a;have s:=(G.o.alloc (.cells #[.slice A n c,.slice B m d] 37)).below a;clear a p v q x i j;have p:=r.cell 0;have v:=r.lt;have q:=s.cell 0;have x:=s.lt;simp only[List.getElem?_cons_zero] at p q;clear r s;go_wp2_with fail;refine(D.o _ t.o).mono ?_;rintro e I ⟨rfl,a⟩;have z:=vn t a;clear a;go_wp2;go_ret2;exact⟨rfl,z.o⟩
end Pnt
end Go.Proofs.YtabcgemembkkcaaGreatDoor
