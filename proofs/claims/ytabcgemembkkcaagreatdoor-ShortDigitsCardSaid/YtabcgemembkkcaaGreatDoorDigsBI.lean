/- Lemmas. -/
import Derived.Test.YtabcgemembkkcaaGreatDoorDigsBH
set_option linter.all false
set_option maxHeartbeats 4000000
set_option maxRecDepth 100000
open Go.Proofs.Tryz
open Go renaming RowKit.Below.refl->qa,IntWalk.i64_in->qe,bodyPost_ret->qf,World.size_alloc->qh,World->qi,Calls->ql,Addr->qn,heap_alloc_new->qo,Value->qp
open Option renaming none->qb,some->qj
open Go.RowKit renaming Below->qc,Hid->qm
open Go.Proofs.Tryz renaming prog->qd
open Bool renaming false->qg
open Decidable renaming decide->qk
namespace Go.Proofs.YtabcgemembkkcaaGreatDoor
variable{g n c N base:Nat}{w:qi}{t:TypeId}{cs:List qp}
section
open Go Go.RowKit
theorem Fm.grown{o:Nat}{w':qi}(h:Fm g o w w'):w.grownBy w' (qj g):=⟨h.os,h.tape,h.output,h.size,fun i hi hne=>h.block i hi (fun e=>hne (by rw[e]))⟩
end
namespace Scn
open Go Go.RowKit R5
theorem Blk.alloc(h:Blk w g t cs)(o:Obj):Blk (w.alloc o) g t cs:=h.below ((qa _ _).alloc lr _)
theorem Blk.set(h:Blk w g t cs)(j:Nat)(v:qp):Blk (w.setCell ⟨g,j,qb⟩ v) g t (cs.set j v):=by unfold Blk;have:w.heap[g]?=qj (.cells cs.toArray t (0,0)):=h;simp [World.setCell,k2t,this]
def qex(L:List Nat)(k:Nat):List Nat:=(L.take k).map A.fig++L.drop k
def qf8:ByteArray:=⟨#[48,49,50,51,52,53,54,55,56,57,97,98,99,100,101,102]⟩
end Scn
namespace Pnt
open Go Go.RowKit R5 Scn
theorem qck{A:Option qn}(h:Rd w A n c (toL N))(hn:n<=16384):Nat_.natErr n (toL N)=0:=Nat_.natErr_ok (q1y h hn)
theorem Check_ok{A:Option qn}(h:Rd w A n c (toL N))(hn:n<=16384):ql qd 118 #[q0x A n c] w fun e w'=>e=.returned (.int .i64 0)/\qc w.heap.size w w':=by
 have:=Nat_.Check A n c _ w h
 rwa [qck h hn] at this
theorem qeN(A:Option qn)(n c N:Nat)(w:qi)(ha:Rd w A n c (toL N))(hn:n<=16384):ql qd 137 #[q0x A n c] w fun e w'=>e=.returned (.tuple #[.int .i64 ((bl N:Nat):Int),.int .i64 0])/\qc w.heap.size w w':=by
 have j:qc w.heap.size w (w.alloc (.cells #[.slice A n c] 37)):=(qa _ _).alloc lr _;have r:Blk (w.alloc (.cells #[.slice A n c] 37)) w.heap.size 37 [.slice A n c]:=Blk.made w 37 [.slice A n c];have u:=vv (Check_ok (ha.below j rfl) hn);have v:=vv j;have k:=vv r;have G:(n:Int)<=16384:=by omega
 have f:=ha.words;rcases k01 n with rfl|O
 ·have l:N=0:=q06.1 f;subst l;clear j r f hn ha;go_enter func137,ntmps137;go_wp2_with fail;refine u.o.mono ?_;rintro e I ⟨rfl,a⟩;have s:=(k.o.below a).cell 0;have J:=(k.o.below a).lt;simp only[k06] at s;have g:=vn v a;clear a;go_wp2;go_ret2;exact⟨rfl,g.o⟩
 ·have l:0<N:=by
   rcases k01 N with h|h
   ·subst h;rw[q0h] at f;omega
   ·exact h
  obtain⟨d,_⟩:=bl_words l;rw[f] at d;obtain⟨m,rfl⟩:∃m,n=m+1:=⟨n-1,by omega⟩;rw[k0T] at d;obtain⟨b,off,rfl,t,x⟩:=ha.cell (by omega);have hx:=x m (by omega);have z:=ha.nth_lt m;have i:=vv fun w=>Go.Proofs.YtabcgemembkkcaaGreatDoor.AB.lz32 (nth (toL N) m) w z
  have q:bl (nth (toL N) m)<=32:=q0A (by omega);obtain⟨y,C⟩:=yx (nth (toL N) m);obtain⟨L,D⟩:=yx (bl y);rw[<- C] at hx i q d;rw[<- D] at i q d;have E:qm (((bl N:Nat):Int)=32*((m:Int)+1)-((32-L:Nat):Int)):=vv (by rw[d];omega);have K:((32-L:Nat):Int)<=32:=by omega
  have P:((m:Int)+1==0)=qg:=by rw[k05];omega
  have Q:(m:Int)<=16383:=by omega
  obtain⟨Z,F⟩:=yx (32-L);rw[<- F] at i E K;have M:=vv hx;have H:=vv t;clear j r f hn ha l d x z q C D F hx t G;go_enter func137,ntmps137;go_wp2_with fail;refine u.o.mono ?_;rintro e I ⟨rfl,a⟩;have s:=(k.o.below a).cell 0;have J:=(k.o.below a).lt;simp only[k06] at s;have g:=vn v a;have hx:=(g.o.cell (p:=⟨b,off+m,qb⟩) H.o).trans M.o;clear a;go_wp2_with fail;refine(i.o _).mono ?_;rintro e w' ⟨rfl,rfl⟩;go_wp2;go_ret2;rw[E.o];exact⟨rfl,g.o⟩
theorem q9L{i:Nat}(h:N<4294967296^n)(hi:n<=i/32):N/2^i%2=0:=by rw[q1u] at h;have a:2^(32*n)<=2^i:=k00 (by decide) (by omega);rw[k0K (by omega)]
theorem Bit(A:Option qn)(n c N i:Nat)(w:qi)(ha:Rd w A n c (toL N))(hn:n<=16384)(hi:i<=1048576):ql qd 336 #[q0x A n c,.int .i64 (i:Int)] w fun e w'=>e=.returned (.tuple #[.bool (N/2^i%2==1),.int .i64 0])/\qc w.heap.size w w':=by
 have g:qc w.heap.size w (w.alloc (.cells #[.slice A n c] 37)):=(qa _ _).alloc lr _;have l:Blk (w.alloc (.cells #[.slice A n c] 37)) w.heap.size 37 [.slice A n c]:=Blk.made w 37 [.slice A n c];have z:=vv (Check_ok (ha.below g rfl) hn);have C:=vv g;have j:=vv l;have Q:(n:Int)<=16384:=by omega
 have R:(i:Int)<=1048576:=by omega
 obtain⟨q,m⟩:=yx (i/32);obtain⟨s,r⟩:=yx (i%32);have S:(i:Int)/32=(q:Int):=by omega
 have T:(i:Int)%32=(s:Int):=by omega
 have U:(s:Int)<=31:=by omega
 have V:(q:Int)<=32768:=by omega
 by_cases hqn:n<=q
 ·have K:qm ((N/2^i%2==1)=qg):=vv (by have h:=ha.lt;rw[q04] at h;rw[q9L h (by omega)];rfl);have L:(n:Int)<=(q:Int):=by omega
  clear g l hn ha m r hqn hi;go_enter func336,ntmps336;go_wp2_with fail;refine z.o.mono ?_;rintro e M ⟨rfl,a⟩;have t:=(j.o.below a).cell 0;have O:=(j.o.below a).lt;simp only[k06] at t;have f:=vn C a;clear a;go_wp2;go_ret2;rw[K.o];exact⟨rfl,f.o⟩
 ·obtain⟨b,off,rfl,x,D⟩:=ha.cell (by omega);have hx:=D q (by omega);have E:=ha.nth_lt q;have d:=q41 (nth (toL N) q) s E;have k:=q4l N i;rw[<- m,<- r] at k;rw[k] at d;obtain⟨y,F⟩:=yx (nth (toL N) q);rw[<- F] at hx d;obtain⟨v,u⟩:=yx ((N/2^i%2==1));have G:qk (N/2^i%2=1)=v:=by rw[u];rcases k0U (N/2^i) with e|e<;>rw[e]<;>rfl
  rw[G] at d;rw[<- u];have L:(q:Int)<(n:Int):=by omega
  have H:((2:Int)^s)=((2^s:Nat):Int):=by rw[k0C];rfl
  have P:=vv hx;have I:=vv x;have J:=vv d;clear g l hn ha m r hqn hi D E k F u G hx x H d;go_enter func336,ntmps336;go_wp2_with fail;refine z.o.mono ?_;rintro e M ⟨rfl,a⟩;have t:=(j.o.below a).cell 0;have O:=(j.o.below a).lt;simp only[k06] at t;have f:=vn C a;have hx:=(f.o.cell (p:=⟨b,off+q,qb⟩) I.o).trans P.o;clear a;have d:=J.o;go_wp2;go_ret2;exact⟨rfl,f.o⟩
def NatP(N:Nat)(w:qi)(e:Ending)(w':qi):Prop:=
 ∃A m,e=.returned (.tuple #[q0x A m m,.int .i64 0])/\Rd w' A m m (toL N)/\Fr w.heap.size A/\qc w.heap.size w w'
theorem Down(A:Option qn)(n c N k:Nat)(w:qi)(ha:Rd w A n c (toL N))(hn:n<=16384)(hk:k<=1048576):ql qd 136 #[q0x A n c,.int .i64 (k:Int)] w (NatP (N/2^k) w):=by
 obtain⟨E,g⟩:=yx ((w.alloc (.cells #[.slice A n c] 37)).alloc (.cells #[.slice qb 0 0] 37));have l:qc w.heap.size w E:=by rw[g];exact((qa _ _).alloc lr _).alloc (by simp) _
 have F:Blk E w.heap.size 37 [.slice A n c]:=by rw[g];exact(Blk.made w 37 [.slice A n c]).alloc _
 have G:Blk E (w.heap.size+1) 37 [.slice qb 0 0]:=by
  rw[g];have:=Blk.made (w.alloc (.cells #[.slice A n c] 37)) 37 [.slice qb 0 0]
  rwa [qh] at this
 have T:=vv (Check_ok (ha.below l rfl) hn);have U:=vv l;have t:=vv F;have u:=vv G;have W:=vv g;have a8:(n:Int)<=16384:=by omega
 have a9:(k:Int)<=1048576:=by omega
 obtain⟨q,X⟩:=yx (k/32);obtain⟨s,Y⟩:=yx (k%32);have b0:(k:Int)/32=(q:Int):=by omega
 have b1:(k:Int)%32=(s:Int):=by omega
 have a7:(s:Int)<=31:=by omega
 have b2:(q:Int)<=32768:=by omega
 have x:k=32*q+s:=by omega
 by_cases hqn:n<=q
 ·have H:qm (N/2^k=0):=vv (by have h:=ha.lt;rw[q04,q1u] at h;have h2:2^(32*n)<=2^k:=k00 (by decide) (by omega);exact k0K (by omega));have t1:(n:Int)<=(q:Int):=by omega
  clear l F G g hn ha X Y hqn hk x;go_enter func136,ntmps136;go_wp2_with fail;rw[<- W.o];refine T.o.mono ?_;rintro e I ⟨rfl,d⟩;have J:=(t.o.below d).cell 0;have cl:=(t.o.below d).lt;have r:=(u.o.below d).cell 0;have df:=(u.o.below d).fz 0;have dl:=(u.o.below d).lt;simp only[k06] at J r;have y:=vn U d;clear d;have z:=vv (y.o.setCell (p:=⟨w.heap.size+1,0,qb⟩) (k1z _) (.slice qb 0 0));have f:(I.setCell ⟨w.heap.size+1,0,qb⟩ (.slice qb 0 0)).cell? ⟨w.heap.size+1,0,qb⟩=qj (.slice qb 0 0):=q0v r;have K:=vv f;clear f;go_wp2;have f:=K.o;rw[H.o];exact qf (v:=.tuple #[q0x qb 0 0,.int .i64 0]) (by simp [results,results136,go_sem,f]) rfl ⟨qb,0,rfl,Rd.nil _,Fr.none_ _,z.o⟩
 ·have Z:val ((toL N).drop q)=N/4294967296^q:=by rw[<- q17 ha.lim,q04]
  have H:qm (val ((toL N).drop q)/2^s=N/2^k):=vv (by rw[Z,k0h,q1u,<- k0e,<- x]);obtain⟨b,off,rfl,a1,hc⟩:=ha.cell (by omega);have t1:(q:Int)<(n:Int):=by omega
  have HD:=vv fun w' (h:Rd w' (qj ⟨b,off,qb⟩) n c (toL N))=>qaX _ _ _ _ s w' (h.drop (k:=q) (by omega)) (by omega) (by omega)
  have b3:(n:Int)<=(c:Int):=by have:=ha.le;omega
  have b4:((n-q:Nat):Int)=(n:Int)-(q:Int):=by omega
  have b5:((c-q:Nat):Int)=(c:Int)-(q:Int):=by have:=ha.le;omega
  have HA:=vv (ha.below l rfl);clear l F G g hn ha X Y hqn hk x Z hc a1;go_enter func136,ntmps136;go_wp2_with fail;rw[<- W.o];refine T.o.mono ?_;rintro e I ⟨rfl,d⟩;have J:=(t.o.below d).cell 0;have cl:=(t.o.below d).lt;simp only[k06] at J;have M:=vv (u.o.below d);have a2:=vv (HA.o.below d rfl);have y:=vn U d;clear d;go_wp2_with fail;refine(HD.o _ a2.o).mono ?_;rintro e w3 ⟨V,rfl,hO,O,P,d⟩;have b6:=d.size;have b7:=M.o.lt;have a3:=vv (M.o.below d);have a4:=vn y d;have HT:=vv (Nat_.trimmed _ (n-q) (n-q) V w3 (hO.rd O.symm lr (by omega)));rw[P,H.o] at HT;clear hO O P d;go_wp2_with fail;refine HT.o.mono ?_;rintro e w4 ⟨i,m,rfl,Q,R,C⟩;have S:qm (Fr (w.heap.size+2) i):=vv (fun a e=>by have h:=R a e;cases h;exact⟨by show w.heap.size+2<=I.heap.size;omega,rfl⟩);have D:=vv (a3.o.below C);have a5:=vn a4 C;have r:=D.o.cell 0;have df:=D.o.fz 0;have dl:=D.o.lt;simp only[k06] at r;obtain⟨L,j⟩:=yx (w4.setCell ⟨w.heap.size+1,0,qb⟩ (.slice i m m));have a0:qm (Rd L i m m (toL (N/2^k))):=vv (by rw[j];exact Q.other _ _ _ (fun a e=>by have:=(S.o a e).1;omega));have z:qm (qc w.heap.size w L):=vv (by rw[j];exact a5.o.setCell (k1z _) _);have f:L.cell? ⟨w.heap.size+1,0,qb⟩=qj (.slice i m m):=by rw[j];exact q0v r
  have K:=vv f;have a6:=vv j;clear Q R C f j;go_wp2;rw[<- a6.o];have f:=K.o;exact qf (v:=.tuple #[q0x i m m,.int .i64 0]) (by simp [results,results136,go_sem,f]) rfl ⟨i,m,rfl,a0.o,S.o.mono (by omega),z.o⟩
theorem own_row{U:List Nat}(h:Own w g t U)(hb:base<=g)(hl:U.length<=1000000000):w.ownsRow base t 1 (.slice (qj ⟨g,0,qb⟩) U.length U.length) U.length (q0k U):=by
 refine⟨by simp [q0k],.inr ⟨g,U.length,(q0k U).toArray,rfl,hb,h.heap,lr,by unfold maxLen;omega,by simp [q0k],?_⟩⟩;rw[k0G];have:(q0k U).length=U.length:=by simp [q0k]
 simp [<- this]
theorem q3h{e:TypeId}{v:qp}{l:List qp}(h:w.ownsRow base e 1 v n l):∃A cap,v=.slice A n cap:=by
 rcases h.2 with ⟨a,rfl⟩|⟨g,cap,c,b,_⟩
 ·exact⟨qb,0,a⟩
 ·exact⟨_,_,b⟩
theorem q1B(U:List Nat):∀v∈q0k U,v.oneCell'=true:=by intro v a;obtain⟨x,_,rfl⟩:=k3g.1 a;rfl
theorem Up(A:Option qn)(n c N k:Nat)(w:qi)(ha:Rd w A n c (toL N))(hn:n<=16384)(hk:k+bl N<=524288):ql qd 67 #[q0x A n c,.int .i64 (k:Int)] w (NatP (N*2^k) w):=by
 obtain⟨w0,O⟩:=yx ((w.alloc (.cells #[.slice A n c] 37)).alloc (.cells #[.slice qb 0 0] 37));have hb:qc w.heap.size w w0:=by rw[O];exact((qa _ _).alloc lr _).alloc (by simp) _
 have hQ:Blk w0 w.heap.size 37 [.slice A n c]:=by rw[O];exact(Blk.made w 37 [.slice A n c]).alloc _
 have hR:Blk w0 (w.heap.size+1) 37 [.slice qb 0 0]:=by
  rw[O];have:=Blk.made (w.alloc (.cells #[.slice A n c] 37)) 37 [.slice qb 0 0]
  rwa [qh] at this
 have HC:=vv (qeN A n c N w0 (ha.below hb rfl) hn);have HB:=vv hb;have HQ:=vv hQ;have HR:=vv hR;have HW:=vv O;have d8:(n:Int)<=16384:=by omega
 have d9:(k:Int)<=524288:=by omega
 obtain⟨L,hL⟩:=yx (bl N);rw[<- hL] at HC hk;have e0:(k:Int)<=524288-(L:Int):=by omega
 have e1:(L:Int)<=524288:=by omega
 rcases k01 N with h0|h0
 ·subst h0;have c7:L=0:=by rw[hL];rfl
  subst c7;clear hb hQ hR O hn ha hk hL;go_enter func67,ntmps67;go_wp2_with fail;rw[<- HW.o];refine HC.o.mono ?_;rintro e w1 ⟨rfl,b⟩;have u:=(HR.o.below b).cell 0;have df:=(HR.o.below b).fz 0;have dl:=(HR.o.below b).lt;simp only[k06] at u;have a6:=vn HB b;clear b;have S:=vv (a6.o.setCell (p:=⟨w.heap.size+1,0,qb⟩) (k1z _) (.slice qb 0 0));have d:(w1.setCell ⟨w.heap.size+1,0,qb⟩ (.slice qb 0 0)).cell? ⟨w.heap.size+1,0,qb⟩=qj (.slice qb 0 0):=q0v u;have HK:=vv d;clear d;go_wp2;have d:=HK.o;exact qf (v:=.tuple #[q0x qb 0 0,.int .i64 0]) (by simp [results,results67,go_sem,d]) rfl ⟨qb,0,rfl,by rw[k24];exact Rd.nil _,Fr.none_ _,S.o⟩
 ·obtain⟨q,hq⟩:=yx (k/32);obtain⟨s,hs⟩:=yx (k%32);have c8:(k:Int)/32=(q:Int):=by omega
  have c9:(k:Int)%32=(s:Int):=by omega
  have d5:(s:Int)<=31:=by omega
  have e2:(q:Int)<=16384:=by omega
  have e3:((L:Int)==0)=qg:=by
   have:=q1k (a:=1) h0;have e:bl 1=1:=by decide
   rw[k05];omega
  have c1:k=32*q+s:=by omega
  have HS:=vv fun w' (h:Rd w' A n c (toL N))=>qaB A n c (toL N) s w' h (by omega) hn
  have e4:=Go.Proofs.YtabcgemembkkcaaGreatDoor.AB.mk q (by omega);have HA:=vv (ha.below hb rfl);have HE:qm (∀V,val V=val (toL N)*2^s->val (List.replicate q 0++V)=N*2^k):=vv (fun V h=>by rw[q1c,q0d,h,q04,k0H,c1,k0e,<- q1u,k0g _ (2^s),<- k0j];rw[k10,k0g (4294967296^q),k0j,k0g (4294967296^q) N,k0W]);clear hb hQ hR O hn ha hq hs hk hL h0 c1;go_enter func67,ntmps67;go_wp2_with fail;rw[<- HW.o];refine HC.o.mono ?_;rintro e w1 ⟨rfl,b⟩;have c0:=(HQ.o.below b).cell 0;have cl:=(HQ.o.below b).lt;simp only[k06] at c0;have d1:=vv (HR.o.below b);have d2:=vv (HA.o.below b rfl);have a6:=vn HB b;clear b;go_wp2_with fail;have e5:IntKind.i64.wrap (q:Int)=(q:Int):=qe _ (by omega);have d6:(k:Int).tdiv 32=(q:Int):=by rw[k28 (by omega)];exact c8
  have d7:(k:Int).tmod 32=(s:Int):=by rw[k0Q (by omega)];exact c9
  refine q02 (fun w'=>w'.cell? ⟨w.heap.size,0,qb⟩=qj (.slice A n c)) 8
   (.still 0 (.still 1 (.still 3 (.still 4 (.still 5 (.still 6 (.two 2 (.one 7 .done) 7 (.one 2 .done)))))))) c0 (fun a7=>?_)
  obtain⟨j,x⟩:=yx (w1.drew);have a4:qm (qc w.heap.size w j):=vv (by rw[x];exact q05 a6.o);have a8:qm (Blk j (w.heap.size+1) 37 [.slice qb 0 0]):=vv (by rw[x];exact d1.o);have c2:qm (Rd j A n c (toL N)):=vv (by rw[x];exact d2.o.drew);have a5:qm (w.heap.size<j.heap.size):=vv (by rw[x];exact cl);have a9:qm (j.cell? ⟨w.heap.size,0,qb⟩=qj (.slice A n c)):=vv (by rw[x];exact c0);have P:qm (w.heap.size+2<=j.heap.size):=vv (a8.o.lt);obtain⟨i0,hi,c3,c4,c5⟩:=info_parts Go.Proofs.YtabcgemembkkcaaGreatDoor.AB.inf;rw[<- x] at a7 ⊢;clear x c0 cl
  iterate 6
   refine q03 ?_
  refine q0e rfl (by rfl) rfl (by rfl) (fun K hK=>?_) (fun K hK=>?_)
  ·go_simp;have I:=Own.made j q 54;have b:=(qa j.heap.size j).alloc (o:=.cells (madeCells #[.int .u32 0] q) 54) lr;obtain⟨wm,T⟩:=yx (j.alloc (.cells (madeCells #[.int .u32 0] q) 54));rw[<- T] at I b ⊢;have HO:=vv I;have l:=vv b;clear I b T;refine hK.out _ _ ((l.o.cell (p:=⟨w.heap.size,0,qb⟩) a5.o).trans a9.o) (fun y=>?_);clear hK a7;refine q01 rfl (by rfl) (fun K hK=>?_);go_simp;refine(HS.o _ (c2.o.below l.o rfl)).mono ?_;rintro e wz ⟨V,rfl,Q,R,U,g⟩;have z:=own_row (base:=w.heap.size+2) (HO.o.below g HO.o.lt) P.o (by rw[k0H];omega);rw[k0H] at z;have C:=own_row (base:=w.heap.size+2) Q (k07 P.o l.o.size) (by rw[R];omega);rw[R] at C;have J:=vv z;have HV:=vv C;have W:=vv (And.intro U Q.2);have X:=vv (a4.o.trans ((l.o.trans (g.mono l.o.size)).mono a4.o.size));have b0:=vv ((a8.o.below l.o).below g);have b1:qm (w.heap.size+2<=wz.heap.size):=vv (k07 P.o (k07 l.o.size g.size));have Y:=((l.o.trans (g.mono l.o.size)).cell (p:=⟨w.heap.size,0,qb⟩) a5.o).trans a9.o;clear z C Q R U g y;refine hK.out _ _ Y (fun y=>?_);clear hK Y y;refine q08 ?_;simp only[k0o,k0w];go_wp2_with (at_builtin;refine q1A rfl _ _ 35 rfl (w.heap.size+2) (w.heap.size+2) 54 i0 (.int .u32 0) 4 underlying35 hi c3 c4 c5 rfl _ q (q0k (List.replicate q 0)) rfl J.o _ (n+1) (q0k V) rfl HV.o (q1B V) (by unfold maxLen;omega) (by omega) (by have:=b1.o;omega) ?_);intro v' t Z D;have r:qm (qc w.heap.size w t):=vv (X.o.grown D X.o.size (fun k e=>by have:=(J.o.lt k e).1;omega));have b2:qm (Blk t (w.heap.size+1) 37 [.slice qb 0 0]):=vv (b0.o.grown D (fun e=>by have:=(J.o.lt _ e).1;omega));have b3:=r;have E:t.ownsRow (w.heap.size+2) 54 1 v' (q+(n+1)) (q0k (List.replicate q 0++V)):=by
    have e:q0k (List.replicate q 0++V)=q0k (List.replicate q 0)++q0k V:=by simp [q0k]
    rw[e];exact Z
   obtain⟨Av,cap,rfl⟩:=q3h E;have F:=Go.Proofs.YtabcgemembkkcaaGreatDoor.A.row_rd E (q0R.2 ⟨q12 q,W.o.2⟩) (by omega);have b4:qm (Fr (w.heap.size+2) Av):=vv F.2;have HT:=vv (Nat_.trimmed _ _ _ _ t F.1);rw[HE.o V W.o.1] at HT;clear Z D E F;go_wp2_with fail;refine HT.o.mono ?_;rintro e w4 ⟨f,m,rfl,a1,a2,G⟩;have a3:qm (Fr (w.heap.size+2) f):=vv (fun a e=>by have h:=a2 a e;subst h;exact b4.o a rfl);have H:=vv (b2.o.below G);have b5:=vn b3 G;have u:=H.o.cell 0;have df:=H.o.fz 0;have dl:=H.o.lt;simp only[k06] at u;obtain⟨M,i⟩:=yx (w4.setCell ⟨w.heap.size+1,0,qb⟩ (.slice f m m));have a0:qm (Rd M f m m (toL (N*2^k))):=vv (by rw[i];exact a1.other _ _ _ (fun a e=>by have:=(a3.o a e).1;omega));have S:qm (qc w.heap.size w M):=vv (by rw[i];exact b5.o.setCell (k1z _) _);have d:M.cell? ⟨w.heap.size+1,0,qb⟩=qj (.slice f m m):=by rw[i];exact q0v u
   have HK:=vv d;have b6:=vv i;clear a1 a2 G d i;go_wp2;rw[<- b6.o];have d:=HK.o;exact qf (v:=.tuple #[q0x f m m,.int .i64 0]) (by simp [results,results67,go_sem,d]) rfl ⟨f,m,rfl,a0.o,a3.o.mono (by omega),S.o⟩
  ·go_simp;refine(HS.o _ c2.o).mono ?_;rintro e wy ⟨V,rfl,Q,R,U,g⟩;have b7:=vv Q;have d3:=vv U;have c6:=vv R;have r:=vv g;have b8:=(g.cell (p:=⟨w.heap.size,0,qb⟩) a5.o).trans a9.o;have d4:=vv b8;have b9:qm (w.heap.size<wy.heap.size):=vv (k03 a5.o g.size);refine hK.out _ _ b8 (fun y=>?_);clear hK a7 b8 y Q R U g;refine q01 rfl (by rfl) (fun K hK=>?_);go_simp;have I:=Own.made wy q 54;have b:=(qa wy.heap.size wy).alloc (o:=.cells (madeCells #[.int .u32 0] q) 54) lr;obtain⟨wz,T⟩:=yx (wy.alloc (.cells (madeCells #[.int .u32 0] q) 54));rw[<- T] at I b ⊢;have z:=own_row (base:=w.heap.size+2) I (k07 P.o r.o.size) (by rw[k0H];omega);rw[k0H] at z;have C:=own_row (base:=w.heap.size+2) (b7.o.below b b7.o.lt) P.o (by rw[c6.o];omega);rw[c6.o] at C;have J:=vv z;have HV:=vv C;have W:=vv (And.intro d3.o b7.o.2);have X:=vv (a4.o.trans ((r.o.trans (b.mono r.o.size)).mono a4.o.size));have b0:=vv ((a8.o.below r.o).below b);have b1:qm (w.heap.size+2<=wz.heap.size):=vv (k07 P.o (k07 r.o.size b.size));have Y:=(b.cell (p:=⟨w.heap.size,0,qb⟩) b9.o).trans d4.o;clear z C I b T;refine hK.out _ _ Y (fun y=>?_);clear hK Y y;refine q08 ?_;simp only[k0o,k0w];go_wp2_with (at_builtin;refine q1A rfl _ _ 35 rfl (w.heap.size+2) (w.heap.size+2) 54 i0 (.int .u32 0) 4 underlying35 hi c3 c4 c5 rfl _ q (q0k (List.replicate q 0)) rfl J.o _ (n+1) (q0k V) rfl HV.o (q1B V) (by unfold maxLen;omega) (by omega) (by have:=b1.o;omega) ?_);intro v' t Z D;have r:qm (qc w.heap.size w t):=vv (X.o.grown D X.o.size (fun k e=>by have:=(J.o.lt k e).1;omega));have b2:qm (Blk t (w.heap.size+1) 37 [.slice qb 0 0]):=vv (b0.o.grown D (fun e=>by have:=(J.o.lt _ e).1;omega));have b3:=r;have E:t.ownsRow (w.heap.size+2) 54 1 v' (q+(n+1)) (q0k (List.replicate q 0++V)):=by
    have e:q0k (List.replicate q 0++V)=q0k (List.replicate q 0)++q0k V:=by simp [q0k]
    rw[e];exact Z
   obtain⟨Av,cap,rfl⟩:=q3h E;have F:=Go.Proofs.YtabcgemembkkcaaGreatDoor.A.row_rd E (q0R.2 ⟨q12 q,W.o.2⟩) (by omega);have b4:qm (Fr (w.heap.size+2) Av):=vv F.2;have HT:=vv (Nat_.trimmed _ _ _ _ t F.1);rw[HE.o V W.o.1] at HT;clear Z D E F;go_wp2_with fail;refine HT.o.mono ?_;rintro e w4 ⟨f,m,rfl,a1,a2,G⟩;have a3:qm (Fr (w.heap.size+2) f):=vv (fun a e=>by have h:=a2 a e;subst h;exact b4.o a rfl);have H:=vv (b2.o.below G);have b5:=vn b3 G;have u:=H.o.cell 0;have df:=H.o.fz 0;have dl:=H.o.lt;simp only[k06] at u;obtain⟨M,i⟩:=yx (w4.setCell ⟨w.heap.size+1,0,qb⟩ (.slice f m m));have a0:qm (Rd M f m m (toL (N*2^k))):=vv (by rw[i];exact a1.other _ _ _ (fun a e=>by have:=(a3.o a e).1;omega));have S:qm (qc w.heap.size w M):=vv (by rw[i];exact b5.o.setCell (k1z _) _);have d:M.cell? ⟨w.heap.size+1,0,qb⟩=qj (.slice f m m):=by rw[i];exact q0v u
   have HK:=vv d;have b6:=vv i;clear a1 a2 G d i;go_wp2;rw[<- b6.o];have d:=HK.o;exact qf (v:=.tuple #[q0x f m m,.int .i64 0]) (by simp [results,results67,go_sem,d]) rfl ⟨f,m,rfl,a0.o,a3.o.mono (by omega),S.o⟩
end Pnt
namespace Fms
open Go Go.RowKit R5 Scn
def q09(E F:Int)(b:Nat):Int:=if R3.formOk E F then(if 1+E+F<(bl b:Int) then 6 else 0) else 5
theorem qev(b:Nat)(w:qi)(h:b<18446744073709551616):ql qd 88 #[.int .u64 (b:Int)] w fun e w'=>e=.returned (.int .i64 ((bl b:Nat):Int))/\w=w':=(Tryz.bits_Len64 (b:Int) w (by omega) (by omega)).mono fun e w' ⟨h1,h2⟩=>⟨by rw[h1,k2f,q7X h],h2.symm⟩
theorem Fits(E F:Int)(b:Nat)(w:qi)(hb:b<18446744073709551616):ql qd 33 #[fm E F,.int .u64 (b:Int)] w fun e w'=>e=.returned (.int .i64 (q09 E F b))/\qc w.heap.size w w':=by
 have h:=vv fun w=>Check E F w
 have r:=vv fun w=>qev b w hb
 have k:bl b<=64:=q0A (by rw[show(2:Nat)^64=18446744073709551616 from rfl];exact hb);obtain⟨L,i⟩:=yx (bl b);rw[<- i] at r k;have l:qc w.heap.size w (w.alloc (.cells #[.int .i64 E,.int .i64 F] 23)):=(qa _ _).alloc lr _;have s:=vv l;cases hok:R3.formOk E F with
 | false =>have j:qm (q09 E F b=5):=vv (by unfold q09;rw[hok];rfl);rw[R3.chk_no hok] at h;clear hb k i l hok;go_enter func33,ntmps33;go_wp2_with fail;refine(h.o _).mono ?_;rintro e n ⟨rfl,d⟩;have q:=vn s d;clear d;go_wp2;go_ret;exact⟨q0X j.o.symm,q.o⟩
 | true =>
  have j:qm (q09 E F b=if 1+E+F<(L:Int) then 6 else 0):=vv (by unfold q09;rw[hok,<- i];rfl);obtain⟨a,c,rfl,rfl,x,y,z,C⟩:=R3.formOk_nat hok;rw[R3.chk_ok hok] at h;have I:(a:Int)<=11:=by omega
  have J:(c:Int)<=52:=by omega
  have M:(L:Int)<=64:=by omega
  have f:IntKind.i64.wrap (1+(a:Int))=1+(a:Int):=qe _ (by omega);have g:IntKind.i64.wrap (1+(a:Int)+(c:Int))=1+(a:Int)+(c:Int):=qe _ (by omega);have D:=vv (And.intro f g);clear hb k i l hok x y z C f g;go_enter func33,ntmps33;go_wp2_with fail;refine(h.o _).mono ?_;rintro e n ⟨rfl,d⟩;have G:=(d.cell (p:=⟨w.heap.size,0,qb⟩) (by simp)).trans (show _=qj (Value.int .i64 (a:Int)) by simp only[World.cell?];rw[qo];rfl);have c1:=(d.cell (p:=⟨w.heap.size,1,qb⟩) (by simp)).trans (show _=qj (Value.int .i64 (c:Int)) by simp only[World.cell?];rw[qo];rfl);have N:w.heap.size<n.heap.size:=k03 (by simp) d.size;have q:=vn s d;clear d;go_wp2_with fail;refine q02 (fun w'=>w'.cell? ⟨w.heap.size,0,qb⟩=qj (.int .i64 (a:Int))/\w'.cell? ⟨w.heap.size,1,qb⟩=qj (.int .i64 (c:Int))) 9
   (.still 0 (.still 2 (.still 3 (.still 4 (.still 5 (.still 6 (.still 7 (.one 1 (.still 8 .done))))))))) ⟨G,c1⟩ (fun t=>?_)
  obtain⟨f,g⟩:=D.o
  iterate 7
   refine q03 ?_
  refine q01 rfl (by rfl) (fun K hK=>?_);go_simp;refine(r.o _).mono ?_;rintro e w' ⟨rfl,rfl⟩;go_wp2_with fail;refine hK.out _ _ t (fun v=>?_);clear hK
  iterate 1
   refine q03 ?_
  refine q0T rfl ?_;clear v t f g;have u:qm (qc w.heap.size w n.drew):=vv (q05 q.o);by_cases hgt:1+(a:Int)+(c:Int)<(L:Int)
  ·have m:=vv (show q09 (a:Int) (c:Int) b=6 by rw[j.o,k0p hgt]);have H:¬(L:Int)<=1+(a:Int)+(c:Int):=by omega
   go_wp2;go_ret;exact⟨q0X m.o.symm,u.o⟩
  ·have m:=vv (show q09 (a:Int) (c:Int) b=0 by rw[j.o,k0r hgt]);have H:(L:Int)<=1+(a:Int)+(c:Int):=by omega
   clear hgt;go_wp2;go_ret;exact⟨q0X m.o.symm,u.o⟩
theorem and_mask(x sz:Nat)(h:sz<=63)(hx:x<18446744073709551616):bits .and .u64 (x:Int) ((R3.tw sz-1:Nat):Int)=((x%2^sz:Nat):Int):=by
 have d:2^sz<=2^63:=k00 (by omega) h;have e:(2:Nat)^63=9223372036854775808:=rfl;unfold R3.tw;have a:(BitVec.ofInt 64 (x:Int) &&& BitVec.ofInt 64 ((2^sz-1:Nat):Int)).toNat=x%2^sz:=by
  have b:(BitVec.ofInt 64 (x:Int)).toNat=x:=by rw[k2K];omega
  have c:(BitVec.ofInt 64 ((2^sz-1:Nat):Int)).toNat=2^sz-1:=by rw[k2K];omega
  rw[BitVec.toNat_and,b,c,k2h]
 show IntKind.u64.wrap ((BitVec.ofInt 64 (x:Int) &&& BitVec.ofInt 64 ((2^sz-1:Nat):Int)).toNat:Nat)=_;have f:x%2^sz<=x:=Nat.mod_le _ _;rw[a,IntKind.wrap_u64];omega
theorem take(p sz b:Nat)(w:qi)(hs:sz<=63)(hp:p<=63)(hb:b<18446744073709551616):ql qd 63 #[.agg #[.int .i64 (p:Int),.int .i64 (sz:Int)],.int .u64 (b:Int)] w fun e w'=>e=.returned (.int .u64 ((b/2^p%2^sz:Nat):Int))/\qc w.heap.size w w':=by
 have d:=vv fun w=>qdy sz w hs
 have a:b/2^p<18446744073709551616:=k0I (k0q _ _) hb;have f:=vv (and_mask (b/2^p) sz hs a);have c:=vv (q1m b p);have g:(p:Int)<=63:=by omega
 clear hs hp hb a;go_enter func63,ntmps63;go_wp2_with fail;refine(d.o _).mono ?_;rintro e w' ⟨rfl,rfl⟩;go_wp2;go_ret;exact⟨q0X (by rw[c.o];exact f.o),(qa _ _).alloc lr _⟩
def q0M(E F b:Nat):Bool:=b/2^(F+E)%2==1
def q0c(E F b:Nat):Nat:=b/2^F%2^E
def q0r(F b:Nat):Nat:=b%2^F
abbrev q3U(neg:Bool)(x f:Nat):qp:=.agg #[.bool neg,.int .i64 (x:Int),.int .u64 (f:Int)]
theorem blk3{v0 v1 v2:qp}(h:Blk w g t [v0,v1,v2]):w.cell? ⟨g,0,qb⟩=qj v0/\w.cell? ⟨g,1,qb⟩=qj v1/\w.cell? ⟨g,2,qb⟩=qj v2:=⟨h.cell 0,h.cell 1,h.cell 2⟩
theorem Split(E F b:Nat)(w:qi)(h1:2<=E)(h2:E<=11)(h3:1<=F)(h4:F<=52)(hb:b<2^(1+E+F)):ql qd 23 #[fm E F,.int .u64 (b:Int)] w fun e w'=>e=.returned (.tuple #[q3U (q0M E F b) (q0c E F b) (q0r F b),.int .i64 0])/\qc w.heap.size w w':=by
 have j:b<18446744073709551616:=k03 hb (by rw[show(18446744073709551616:Nat)=2^64 from rfl];exact k00 (by decide) (by omega));have W:=q0A hb;have M:q09 E F b=0:=by unfold q09;rw[formOk_in h1 h2 h3 h4,k0p rfl,k0r (by omega)]
 have R:=vv fun w=>Fits E F b w j
 rw[M] at R;have X:=vv fun w=>qcv E F w h2 h4
 have m:=vv fun w=>take (F+E) 1 b w (by omega) (by omega) j
 have N:=vv fun w=>take F E b w (by omega) (by omega) j
 have t:=vv fun w=>take 0 F b w (by omega) (by omega) j
 rw[show((F+E:Nat):Int)=(F:Int)+(E:Int) from k1o _ _] at m;simp only[k0B,k1b,k1A] at t m;obtain⟨x,hx⟩:=yx (q0c E F b);obtain⟨f,G⟩:=yx (q0r F b);obtain⟨s,H⟩:=yx (b/2^(F+E)%2);obtain⟨neg,u⟩:=yx (q0M E F b);have Y:x<2^11:=by rw[hx];exact k03 (k0i _ (k0a _)) (k00 (by decide) h2)
 have Z:(x:Int)<=2047:=by omega
 have y:IntKind.i64.wrap (x:Int)=(x:Int):=qe _ (by omega);have z:((s:Int) != 0)=neg:=by rw[u,H];unfold q0M;rcases k0U (b/2^(F+E)) with e|e<;>rw[e]<;>rfl
 rw[show b/2^F%2^E=x from hx.symm] at N;rw[show b%2^F=f from G.symm] at t;rw[<- H] at m;rw[<- hx,<- G,<- u];have S:=vv (And.intro y z);obtain⟨I,k⟩:=yx ((w.alloc (.cells #[.int .i64 (E:Int),.int .i64 (F:Int)] 23)).alloc (.cells #[.bool qg,.int .i64 0,.int .u64 0] 58));have d:qc w.heap.size w I:=by rw[k];exact((qa _ _).alloc lr _).alloc (by simp) _
 have T:Blk I (w.heap.size+1) 58 [.bool qg,.int .i64 0,.int .u64 0]:=by
  rw[k];have:=Blk.made (w.alloc (.cells #[.int .i64 (E:Int),.int .i64 (F:Int)] 23)) 58 [.bool qg,.int .i64 0,.int .u64 0]
  rwa [qh] at this
 have U:Blk I w.heap.size 23 [.int .i64 (E:Int),.int .i64 (F:Int)]:=by rw[k];exact(Blk.made w 23 [.int .i64 (E:Int),.int .i64 (F:Int)]).alloc _
 have HW:=vv k;have g:=vv d;have h:=vv T;have HQ:=vv U;clear h1 h2 h3 h4 hb j W M hx G H u Y Z y z k d T U;go_enter func23,ntmps23;go_wp2_with fail;rw[<- HW.o];refine(R.o _).mono ?_;rintro e w1 ⟨rfl,d⟩;have a0:=vv (h.o.below d);have C:=vv (HQ.o.below d);have a1:=vn g d;have V:=C.o.cell 0;have c1:=C.o.cell 1;have cl:=C.o.lt;simp only[k06,k0l] at V c1;clear d;go_wp2_with fail;refine(X.o _).mono ?_;rintro e i ⟨rfl,d⟩;have a2:=vv (a0.o.below d);have a3:=vn a1 d;have n:=(qa i.heap.size i).alloc (o:=.cells #[.int .i64 0,.int .i64 (F:Int),.int .i64 (F:Int),.int .i64 (E:Int),.int .i64 ((F:Int)+(E:Int)),.int .i64 1] 113) lr;have J:=LayBox.made i (E:Int) (F:Int) 113;clear d V c1 cl;go_wp2_with fail;obtain⟨w3,O⟩:=yx (i.alloc (.cells #[.int .i64 0,.int .i64 (F:Int),.int .i64 (F:Int),.int .i64 (E:Int),.int .i64 ((F:Int)+(E:Int)),.int .i64 1] 113));rw[<- O] at n J ⊢;have a:=vv J;have g:=vn a3 n;have h:=vv (a2.o.below n);clear n J O;refine q02 (fun w'=>w'.cell? ⟨i.heap.size,0,qb⟩=qj (.int .i64 0)/\w'.cell? ⟨i.heap.size,1,qb⟩=qj (.int .i64 (F:Int))/\w'.cell? ⟨i.heap.size,2,qb⟩=qj (.int .i64 (F:Int))/\w'.cell? ⟨i.heap.size,3,qb⟩=qj (.int .i64 (E:Int))/\w'.cell? ⟨i.heap.size,4,qb⟩=qj (.int .i64 ((F:Int)+(E:Int)))/\w'.cell? ⟨i.heap.size,5,qb⟩=qj (.int .i64 1)) 14
  (.still 0 (.still 1 (.still 2 (.still 5 (.still 6 (.still 7 (.still 10 (.still 11 (.still 12 (.one 3 (.still 4 (.one 8 (.still 9 (.one 13 .done)))))))))))))) ⟨a.o.c0,a.o.c1,a.o.c2,a.o.c3,a.o.c4,a.o.c5⟩ (fun P=>?_)
 iterate 9
  refine q03 ?_
 obtain⟨L,l⟩:=yx (w3.drew);have a:qm (LayBox L i.heap.size E F):=vv (by rw[l];exact⟨a.o.c0,a.o.c1,a.o.c2,a.o.c3,a.o.c4,a.o.c5,a.o.lt⟩);have g:qm (qc w.heap.size w L):=vv (by rw[l];exact q05 g.o);have h:qm (Blk L (w.heap.size+1) 58 [.bool qg,.int .i64 0,.int .u64 0]):=vv (by rw[l];exact h.o);rw[<- l] at P ⊢;clear l;refine q01 rfl (by rfl) (fun K hK=>?_);go_simp;refine(m.o _).mono ?_;rintro e w4 ⟨rfl,c⟩;have a:=vv (a.o.below c);have h:=vv (h.o.below c);have g:=vn g c;clear c;go_wp2_with fail;refine hK.out _ _ ⟨a.o.c0,a.o.c1,a.o.c2,a.o.c3,a.o.c4,a.o.c5⟩ (fun D=>?_);clear hK;have z:=S.o.2
 iterate 1
  refine q03 ?_
 refine q01 rfl (by rfl) (fun K hK=>?_);go_simp;refine(N.o _).mono ?_;rintro e w5 ⟨rfl,c⟩;have a:=vv (a.o.below c);have h:=vv (h.o.below c);have g:=vn g c;clear c;go_wp2_with fail;refine hK.out _ _ ⟨a.o.c0,a.o.c1,a.o.c2,a.o.c3,a.o.c4,a.o.c5⟩ (fun D=>?_);clear hK;have y:=S.o.1
 iterate 1
  refine q03 ?_
 refine q01 rfl (by rfl) (fun K hK=>?_);go_simp;refine(t.o _).mono ?_;rintro e w6 ⟨rfl,c⟩;have h:=vv (h.o.below c);have a:=vv (a.o.below c);have g:=vn g c;clear c;go_wp2_with fail;refine hK.out _ _ ⟨a.o.c0,a.o.c1,a.o.c2,a.o.c3,a.o.c4,a.o.c5⟩ (fun D=>?_);clear hK;refine q08 ?_;clear D P;go_wp2_with (with_reducible refine q00 rfl 58 (.tmp 4) (.tmp 31) rfl (w.heap.size+1) [.bool neg,.int .i64 (x:Int),.int .u64 (f:Int)] rfl rfl 58 _ h.o (by kernel_rfl) rfl rfl ?_);intro w8 d Q;have a4:=vv (q0a g.o Q g.o.size (k1z _));obtain⟨p,q,r⟩:=blk3 d;have K:=vv (And.intro p (And.intro q r));clear d Q p q r;go_wp2;obtain⟨p,q,r⟩:=K.o;exact qf (v:=.tuple #[q3U neg x f,.int .i64 0]) (by simp [results,results23,go_sem,p,q,r,q3U]) rfl ⟨rfl,a4.o⟩
def q1a(E x f:Nat):Nat:=if x=0 then(if f=0 then 1 else 2) else if x=R3.tw E-1 then(if f=0 then 4 else 5) else 3
theorem q8G(E F b:Nat)(w:qi)(h1:2<=E)(h2:E<=11)(h3:1<=F)(h4:F<=52)(hb:b<2^(1+E+F)):ql qd 64 #[fm E F,.int .u64 (b:Int)] w fun e w'=>e=.returned (.tuple #[.int .u8 ((q1a E (q0c E F b) (q0r F b):Nat):Int),.int .i64 0])/\qc w.heap.size w w':=by
 have j:=vv fun w=>Split E F b w h1 h2 h3 h4 hb
 have q:=vv fun w=>qdy E w (by omega)
 have u:q0c E F b<2^11:=k03 (k0i _ (k0a _)) (k00 (by decide) h2);have G:3<=R3.tw E-1:=by have:=R3.tw_le h1;unfold R3.tw at *;omega
 obtain⟨x,hx⟩:=yx (q0c E F b);obtain⟨f,y⟩:=yx (q0r F b);obtain⟨neg,v⟩:=yx (q0M E F b);obtain⟨m,s⟩:=yx (R3.tw E-1);have l:qm (q1a E x f=if x=0 then(if f=0 then 1 else 2) else if x=m then(if f=0 then 4 else 5) else 3):=vv (by unfold q1a;rw[s]);rw[<- hx] at j u ⊢;rw[<- y] at j ⊢;rw[<- v] at j;rw[<- s] at q G;have I:(x:Int)<=2047:=by omega
 have g:qc w.heap.size w (w.alloc (.cells #[.int .i64 (E:Int),.int .i64 (F:Int)] 23)):=(qa _ _).alloc lr _;have z:Blk (w.alloc (.cells #[.int .i64 (E:Int),.int .i64 (F:Int)] 23)) w.heap.size 23 [.int .i64 (E:Int),.int .i64 (F:Int)]:=Blk.made w 23 [.int .i64 (E:Int),.int .i64 (F:Int)];have n:=vv g;have k:=vv z;have H:(x=0/\f=0)\/(x=0/\f≠0)\/(x≠0/\x=m/\f=0)\/(x≠0/\x=m/\f≠0)\/(x≠0/\x≠m):=by omega
 clear h1 h2 h3 h4 hb u hx y v s g z;rcases H with ⟨a,c⟩|⟨a,c⟩|⟨a,c,d⟩|⟨a,c,d⟩|⟨a,c⟩
 ·have i:qm (q1a E x f=1):=vv (by rw[l.o,k0p a,k0p c]);subst a c;go_enter func64,ntmps64;go_wp2_with fail;refine(j.o _).mono ?_;rintro e r ⟨rfl,g⟩;have h:=vn n g;clear g;go_wp2;go_ret2;rw[i.o];exact⟨rfl,h.o.alloc h.o.size _⟩
 ·have i:qm (q1a E x f=2):=vv (by rw[l.o,k0p a,k0r c]);subst a;have t:((f:Int)==0)=qg:=by rw[k05];omega
  clear c;go_enter func64,ntmps64;go_wp2_with fail;refine(j.o _).mono ?_;rintro e r ⟨rfl,g⟩;have h:=vn n g;clear g;go_wp2;go_ret2;rw[i.o];exact⟨rfl,h.o.alloc h.o.size _⟩
 ·have i:qm (q1a E x f=4):=vv (by rw[l.o,k0r a,k0p c,k0p d]);subst d;have t:((x:Int)==0)=qg:=by rw[k05];omega
  have C:((x:Int)==(m:Int))=true:=by rw[k1D];omega
  clear a c;go_enter func64,ntmps64;go_wp2_with fail;refine(j.o _).mono ?_;rintro e r ⟨rfl,g⟩;have h:=vn n g;have p:=(k.o.below g).cell 0;have D:=(k.o.below g).lt;simp only[k06,k0l] at p;clear g;go_wp2_with fail;refine(q.o _).mono ?_;rintro e w' ⟨rfl,rfl⟩;go_wp2;go_ret2;rw[i.o];exact⟨rfl,h.o.alloc h.o.size _⟩
 ·have i:qm (q1a E x f=5):=vv (by rw[l.o,k0r a,k0p c,k0r d]);have t:((x:Int)==0)=qg:=by rw[k05];omega
  have C:((x:Int)==(m:Int))=true:=by rw[k1D];omega
  have J:((f:Int)==0)=qg:=by rw[k05];omega
  clear a c d;go_enter func64,ntmps64;go_wp2_with fail;refine(j.o _).mono ?_;rintro e r ⟨rfl,g⟩;have h:=vn n g;have p:=(k.o.below g).cell 0;have D:=(k.o.below g).lt;simp only[k06,k0l] at p;clear g;go_wp2_with fail;refine(q.o _).mono ?_;rintro e w' ⟨rfl,rfl⟩;go_wp2;go_ret2;rw[i.o];exact⟨rfl,h.o.alloc h.o.size _⟩
 ·have i:qm (q1a E x f=3):=vv (by rw[l.o,k0r a,k0r c]);have t:((x:Int)==0)=qg:=by rw[k05];omega
  have C:((x:Int)==(m:Int))=qg:=by rw[k05];omega
  clear a c;go_enter func64,ntmps64;go_wp2_with fail;refine(j.o _).mono ?_;rintro e r ⟨rfl,g⟩;have h:=vn n g;have p:=(k.o.below g).cell 0;have D:=(k.o.below g).lt;simp only[k06,k0l] at p;clear g;go_wp2_with fail;refine(q.o _).mono ?_;rintro e w' ⟨rfl,rfl⟩;go_wp2;go_ret2;rw[i.o];exact⟨rfl,h.o.alloc h.o.size _⟩
end Fms
namespace Pnt
open Go Go.RowKit R5 Scn
theorem Of(n:Nat)(w:qi)(hn:n<18446744073709551616):ql qd 55 #[.int .u64 (n:Int)] w fun e w'=>∃A m,e=.returned (q0x A m m)/\Rd w' A m m (toL n)/\Fr w.heap.size A/\qc w.heap.size w w':=by
 obtain⟨c,z⟩:=yx (n%4294967296);obtain⟨hi,C⟩:=yx (n/4294967296);have J:(n:Int)%4294967296=(c:Int):=by omega
 have K:(n:Int)/4294967296=(hi:Int):=by omega
 have L:(hi:Int)%4294967296=(hi:Int):=by omega
 have p:val [c,hi]=n:=by simp [val];omega
 have j:c<4294967296:=by omega
 have k:hi<4294967296:=by omega
 obtain⟨g,h⟩:=R1.two_words (w.alloc (.cells #[.slice qb 0 0] 37)) c hi j k 54;have q:(w.alloc (.cells #[.slice qb 0 0] 37)).heap.size=w.heap.size+1:=by simp
 have r:Blk (w.alloc (.cells #[.slice qb 0 0] 37)) w.heap.size 37 [.slice qb 0 0]:=Blk.made w 37 [.slice qb 0 0];have s:=(qa w.heap.size w).alloc (o:=.cells #[.slice qb 0 0] 37) lr;have H:=vv (r.below h);have I:=vv (s.trans (h.mono (by simp)));rw[q] at g;have t:=vv (Nat_.trimmed (qj ⟨w.heap.size+1,0,qb⟩) 2 2 [c,hi] _ g);rw[p] at t;clear z C hn p j k g h q r s;go_enter func55,ntmps55;go_wp2_with fail;refine t.o.mono ?_;rintro e i ⟨b,m,rfl,u,x,d⟩;have f:=vv (H.o.below d);have D:=vn I d;have y:=f.o.cell 0;have fz:=f.o.fz 0;have lt:=f.o.lt;simp only[k06] at y;have l:qm (Fr (w.heap.size+1) b):=vv (fun a e=>by have:=x a e;cases this;exact⟨lr,rfl⟩);have E:qm (Rd (i.setCell ⟨w.heap.size,0,qb⟩ (.slice b m m)) b m m (toL n)):=vv (u.other _ _ _ (fun a e=>by have:=(l.o a e).1;omega));have F:qm (qc w.heap.size w (i.setCell ⟨w.heap.size,0,qb⟩ (.slice b m m))):=vv (D.o.setCell lr _);have G:(i.setCell ⟨w.heap.size,0,qb⟩ (.slice b m m)).cell? ⟨w.heap.size,0,qb⟩=qj (.slice b m m):=q0v y;clear d u x;go_wp2;exact qf (v:=q0x b m m) (by simp [results,results55,go_sem,G]) rfl ⟨b,m,rfl,E.o,l.o.mono (k1z _),F.o⟩
end Pnt
namespace Exa
open Go Go.RowKit R5 Scn
theorem q2Y(A:Option qn)(n c N:Nat)(w:qi)(ha:Rd w A n c (toL N))(h0:0<N)(hs:Std w)(hn:n<=16384):ql qd 134 #[q0x A n c] w fun e w'=>e=.returned (.int .i64 ((tz N:Nat):Int))/\qc w.heap.size w w':=by
 have l:qc w.heap.size w (w.alloc (.cells #[.slice A n c] 37)):=(qa _ _).alloc lr _;have m:=vv l;have G:(n:Int)<=16384:=by omega
 have g:qm (N<4294967296^n):=vv (by have:=ha.lt;rwa [q04] at this);have i:0<n:=by
  rcases k01 n with rfl|h
  ·have:=g.o;rw[k0B] at this;omega
  ·exact h
 obtain⟨b,off,rfl,H,j⟩:=ha.cell i;have x:=vv j;have z:=vv ha;clear ha j l;go_enter func134,ntmps134;go_wp2;go_loop [3] (fun t=>∃k:Nat,k<n/\t=.int .i64 (32*(k:Int))/\N%4294967296^k=0) (fun t=>32*n-(intOf t).toNat)
 case atStart=>exact⟨0,i,rfl,by rw[k0B,Nat.mod_one]⟩
 case round =>
  obtain⟨k,C,rfl,p⟩:=hrel;have q:=vv p;clear p;have hx:=x.o k C;have d:=z.o.nth_lt k;have a:=vv (q19 N k);have I:32*(k:Int)/32=(k:Int):=by omega
  have J:(k:Int)<(n:Int):=by omega
  obtain⟨y,f⟩:=yx (nth (toL N) k);rw[<- f] at hx d a;by_cases h0:y=0
  ·have D:((y:Int)==0)=true:=by rw[h0];rfl
   have r:qm (N%4294967296^(k+1)=0):=vv (by rw[k0d,k3d,q.o,<- a.o,h0];simp);have s:k+1<n:=by
    rcases k0A (k+1) n with h|h
    ·exact h
    ·exfalso;have e:k+1=n:=by omega
     have:=r.o;rw[e,k0E g.o] at this;omega
   clear h0 f;go_wp2;go_round
   case rel=>exact⟨k+1,s,by go_num,r.o⟩
   case measure=>simp [intOf];omega
  ·have D:((y:Int)==0)=qg:=by rw[k05];omega
   have E:=vv (q7c q.o (by rw[<- a.o];exact h0));have u:qm (tz y<=31):=vv (by have:=q1h (k0O h0);have L:bl y<=32:=q0A (by omega);omega);have F:=vv (qcI (k0O h0) d);have v:=vv (qdV y _ d (k0O h0) (hs.below m.o));clear h0 f;go_wp2_with fail;refine v.o.mono ?_;rintro e w' ⟨rfl,rfl⟩;rw[F.o];have K:=u.o;go_wp2;go_ret;exact⟨q0X (by rw[E.o,<- a.o];omega),m.o⟩
def DyP(neg:Bool)(N:Nat)(x:Int)(w:qi)(e:Ending)(w':qi):Prop:=
 ∃A m,e=.returned (.tuple #[q0q neg A m m x,.int .i64 0])/\Rd w' A m m (toL N)/\Fr w.heap.size A/\qc w.heap.size w w'
theorem q9U(neg:Bool)(A:Option qn)(c:Nat)(x:Int)(w:qi)(ha:Rd w A 0 c (toL 0)):ql qd 65 #[.bool neg,q0x A 0 c,.int .i64 x] w (DyP qg 0 0 w):=by
 obtain⟨h,b⟩:=yx ((w.alloc (.cells #[.slice A 0 c] 37)).alloc (.cells #[.bool qg,.slice qb 0 0,.int .i64 0] 62));have i:qc w.heap.size w h:=by rw[b];exact((qa _ _).alloc lr _).alloc (by simp) _
 have l:Blk h w.heap.size 37 [.slice A 0 c]:=by rw[b];exact(Blk.made w 37 [.slice A 0 c]).alloc _
 have m:Blk h (w.heap.size+1) 62 [.bool qg,.slice qb 0 0,.int .i64 0]:=by
  rw[b];have:=Blk.made (w.alloc (.cells #[.slice A 0 c] 37)) 62 [.bool qg,.slice qb 0 0,.int .i64 0]
  rwa [qh] at this
 have y:=vv (Pnt.Check_ok (ha.below i rfl) (k0x _));have q:=vv fun w=>q2i A c w
 have z:=vv i;have n:=vv l;have C:=vv m;have D:=vv b;clear i l m b ha;go_enter func65,ntmps65;go_wp2_with fail;rw[<- D.o];refine y.o.mono ?_;rintro e F ⟨rfl,a⟩;have r:=vv (C.o.below a);have s:=vn z a;have p:=(n.o.below a).cell 0;have E:=(n.o.below a).lt;simp only[k06] at p;clear a;go_wp2_with fail;refine(q.o _).mono ?_;rintro e G ⟨rfl,a⟩;have t:=vv (r.o.below a);have j:=vn s a;clear a p E;go_wp2_with (with_reducible refine q00 rfl 62 (.tmp 6) (.tmp 20) rfl (w.heap.size+1) [.bool qg,.slice qb 0 0,.int .i64 0] rfl rfl 62 _ t.o (by kernel_rfl) rfl rfl ?_);intro H a k;have u:=vv (q0a j.o k j.o.size (k1z _));obtain⟨d,f,g⟩:=Fms.blk3 a;have K:=vv (And.intro d (And.intro f g));clear a k d f g;go_wp2;obtain⟨d,f,g⟩:=K.o;exact qf (v:=.tuple #[q0q qg qb 0 0 0,.int .i64 0]) (by simp [results,results65,go_sem,d,f,g]) rfl ⟨qb,0,rfl,Rd.nil _,Fr.none_ _,u.o⟩
theorem qdg(neg:Bool)(A:Option qn)(n c N:Nat)(x:Int)(w:qi)(ha:Rd w A n c (toL N))(h0:0<N)(hs:Std w)(hn:n<=16384)(hx:-1073741824<=x)(hx2:x+(tz N:Int)<=1073741824):ql qd 65 #[.bool neg,q0x A n c,.int .i64 x] w (DyP neg (N/2^tz N) (x+(tz N:Int)) w):=by
 obtain⟨u,f⟩:=yx ((w.alloc (.cells #[.slice A n c] 37)).alloc (.cells #[.bool qg,.slice qb 0 0,.int .i64 0] 62));have y:qc w.heap.size w u:=by rw[f];exact((qa _ _).alloc lr _).alloc (by simp) _
 have S:Blk u w.heap.size 37 [.slice A n c]:=by rw[f];exact(Blk.made w 37 [.slice A n c]).alloc _
 have T:Blk u (w.heap.size+1) 62 [.bool qg,.slice qb 0 0,.int .i64 0]:=by
  rw[f];have:=Blk.made (w.alloc (.cells #[.slice A n c] 37)) 62 [.bool qg,.slice qb 0 0,.int .i64 0]
  rwa [qh] at this
 have HC:=vv (Pnt.Check_ok (ha.below y rfl) hn);have HB:=vv y;have HQ:=vv S;have HR:=vv T;have HW:=vv f;have D:0<n:=by
  rcases k01 n with rfl|h
  ·have:=ha.lt;rw[q04,k0B] at this;omega
  ·exact h
 have W:bl N<=524288:=by have h:=ha.lt;rw[q04,q1u] at h;have:=q0A h;omega
 have E:=q1h h0;have X:=vv fun w=>q11 A n c w D
 have F:=vv fun d (h:qc w.heap.size w d)=>q2Y A n c N d (ha.below h rfl) h0 (hs.below h) hn
 have G:=vv fun d (h:qc w.heap.size w d)=>Pnt.Down A n c N (tz N) d (ha.below h rfl) hn (by omega)
 obtain⟨z,U⟩:=yx (tz N);rw[<- U] at F G E hx2 ⊢;have a5:(z:Int)<=524288:=by omega
 have H:=vv fun w=>far (x+(z:Int)) w
 have I:Dec.farB (x+(z:Int))=qg:=by unfold Dec.farB;rw[k02 (by omega),k02 (by omega)];rfl
 rw[I] at H;clear y S T f ha h0 hs D W E U I hn;go_enter func65,ntmps65;go_wp2_with fail;rw[<- HW.o];refine HC.o.mono ?_;rintro e w1 ⟨rfl,b⟩;have q:=vv (HQ.o.below b);have Y:=vv (HR.o.below b);have Z:=vn HB b;have g:=q.o.cell 0;have V:=q.o.lt;simp only[k06] at g;clear b;go_wp2_with fail;refine(X.o _).mono ?_;rintro e w2 ⟨rfl,b⟩;have r:=vv (q.o.below b);have a2:=vv (Y.o.below b);have J:=vn Z b;have g:=r.o.cell 0;have V:=r.o.lt;simp only[k06] at g;clear b;go_wp2_with fail;refine(F.o _ J.o).mono ?_;rintro e w3 ⟨rfl,b⟩;have L:=vv (r.o.below b);have M:=vv (a2.o.below b);have s:=vn J b;have g:=L.o.cell 0;have V:=L.o.lt;simp only[k06] at g;clear b;go_wp2_with fail;refine(H.o _).mono ?_;rintro e d ⟨rfl,rfl⟩;go_wp2_with fail;refine(G.o _ s.o).mono ?_;rintro e C ⟨i,m,rfl,O,P,b⟩;have j:qc C.heap.size C (C.alloc (.cells #[.slice i m m] 37)):=(qa _ _).alloc lr _;have a3:=vv ((M.o.below b).below j);have Q:=vv (s.o.trans ((b.trans (j.mono b.size)).mono s.o.size));have a0:=vv (O.below j rfl);have R:qm (Fr (w.heap.size+2) i):=vv (P.mono M.o.lt);clear O P b j;go_wp2_with (with_reducible refine q00 rfl 62 (.tmp 6) (.tmp 52) rfl (w.heap.size+1) [.bool neg,.slice i m m,.int .i64 (x+(z:Int))] rfl rfl 62 _ a3.o (by kernel_rfl) rfl rfl ?_);intro w8 b t;have a4:=vv (q0a Q.o t Q.o.size (k1z _));have a1:=vv (a0.o.only t (fun a e=>by have:=(R.o a e).1;omega));obtain⟨k,l,p⟩:=Fms.blk3 b;have K:=vv (And.intro k (And.intro l p));clear b t k l p;go_wp2;obtain⟨k,l,p⟩:=K.o;exact qf (v:=.tuple #[q0q neg i m m (x+(z:Int)),.int .i64 0]) (by simp [results,results65,go_sem,k,l,p]) rfl ⟨i,m,rfl,a1.o,R.o.mono (by omega),a4.o⟩
end Exa
namespace Exa
open Go Go.RowKit R5 Scn Fms
def mantOf(F x f:Nat):Nat:=if x=0 then f else f+2^F
def powOf(E F x:Nat):Int:=2-(2^(E-1):Nat)-F+(if x=0 then 0 else(x:Int)-1)
def q9R(neg:Bool)(M:Nat)(p:Int)(w:qi)(e:Ending)(w':qi):Prop:=
 if M=0 then DyP qg 0 0 w e w' else DyP neg (M/2^tz M) (p+(tz M:Int)) w e w'
theorem ValueF(E F b:Nat)(w:qi)(h1:2<=E)(h2:E<=11)(h3:1<=F)(h4:F<=52)(hb:b<2^(1+E+F))(hf:q0c E F b≠R3.tw E-1)(hs:Std w):ql qd 24 #[fm E F,.int .u64 (b:Int)] w (q9R (q0M E F b) (mantOf F (q0c E F b) (q0r F b)) (powOf E F (q0c E F b)) w):=by
 have y:=vv fun w=>Split E F b w h1 h2 h3 h4 hb
 have T:=vv fun w=>q8G E F b w h1 h2 h3 h4 hb
 have b2:q0c E F b<2^11:=k03 (k0i _ (k0a _)) (k00 (by decide) h2);have a4:q0r F b<2^F:=k0i _ (k0a _);obtain⟨x,hx⟩:=yx (q0c E F b);obtain⟨f,b3⟩:=yx (q0r F b);obtain⟨neg,a0⟩:=yx (q0M E F b);rw[<- hx] at y T b2 hf ⊢;rw[<- b3] at y T a4 ⊢;rw[<- a0] at y ⊢;obtain⟨Po,t⟩:=yx (q9R neg (mantOf F x f) (powOf E F x) w);rw[<- t];have U:=vv t;clear t;have a1:2^F<=2^52:=k00 (by decide) h4;have a2:2^(E-1)<=2^10:=k00 (by decide) (by omega);obtain⟨P,hP⟩:=yx (2^(E-1));rw[<- hP] at a2;have e8:(x:Int)<=2047:=by omega
 have e9:(E:Int)<=11:=by omega
 have f0:(2:Int)<=(E:Int):=by omega
 have f1:(F:Int)<=52:=by omega
 have f2:(P:Int)<=1024:=by omega
 obtain⟨w0,z⟩:=yx ((w.alloc (.cells #[.int .i64 (E:Int),.int .i64 (F:Int)] 23)).alloc (.cells #[.bool qg,.slice qb 0 0,.int .i64 0] 62));have d:qc w.heap.size w w0:=by rw[z];exact((qa _ _).alloc lr _).alloc (by simp) _
 have hR:Blk w0 (w.heap.size+1) 62 [.bool qg,.slice qb 0 0,.int .i64 0]:=by
  rw[z];have:=Blk.made (w.alloc (.cells #[.int .i64 (E:Int),.int .i64 (F:Int)] 23)) 62 [.bool qg,.slice qb 0 0,.int .i64 0]
  rwa [qh] at this
 have hQ:Blk w0 w.heap.size 23 [.int .i64 (E:Int),.int .i64 (F:Int)]:=by rw[z];exact(Blk.made w 23 [.int .i64 (E:Int),.int .i64 (F:Int)]).alloc _
 have HW:=vv z;have HB:=vv d;have HR:=vv hR;have J:=vv hQ;have HS:=vv hs;have V:IntKind.i64.wrap ((E:Int)-1)=(E:Int)-1:=qe _ (by omega);have l:IntKind.i64.wrap (2-(P:Int))=2-(P:Int):=qe _ (by omega);have C:IntKind.i64.wrap (2-(P:Int)-(F:Int))=2-(P:Int)-(F:Int):=qe _ (by omega);have b4:=vv (And.intro V (And.intro l C));have HX:=vv hx;have D:=vv hP;have W:=vv (And.intro hf (And.intro a4 a1));clear hx b3 a0 hb z d hR hQ hs V l C hP h1 h2 h3 h4 hf a4 a1 b2 a2;go_enter func24,ntmps24;go_wp2_with fail;rw[<- HW.o];refine(y.o _).mono ?_;rintro e n ⟨rfl,d⟩;have G:qc n.heap.size n (n.alloc (.cells #[.bool neg,.int .i64 (x:Int),.int .u64 (f:Int)] 58)):=(qa _ _).alloc lr _;obtain⟨w2,l⟩:=yx (n.alloc (.cells #[.bool neg,.int .i64 (x:Int),.int .u64 (f:Int)] 58));have b5:Blk w2 n.heap.size 58 [.bool neg,.int .i64 (x:Int),.int .u64 (f:Int)]:=by rw[l];exact Blk.made n 58 [.bool neg,.int .i64 (x:Int),.int .u64 (f:Int)]
 rw[<- l] at G;have d6:=vv l;have b6:=vv b5;have b7:=vv ((HR.o.below d).below G);have b8:=vv ((J.o.below d).below G);have b9:=vv (HB.o.trans ((d.trans (G.mono d.size)).mono HB.o.size));have q:=(J.o.below d).cell 0;have c1:=(J.o.below d).cell 1;have cl:=(J.o.below d).lt;simp only[k06,k0l] at q c1;clear d G l b5;go_wp2_with fail;rw[<- d6.o];refine(T.o _).mono ?_;rintro e w3 ⟨rfl,d⟩;have X:=vv (b6.o.below d);have c2:=vv (b7.o.below d);have H:=vv (b8.o.below d);have c3:=vn b9 d;obtain⟨p0,p1,p2⟩:=blk3 X.o;have q:=H.o.cell 0;have c1:=H.o.cell 1;have cl:=H.o.lt;have pl:=X.o.lt;simp only[k06,k0l] at q c1;clear d;go_wp2_with fail;refine q02 (fun w'=>w'.cell? ⟨w.heap.size,0,qb⟩=qj (.int .i64 (E:Int))/\w'.cell? ⟨w.heap.size,1,qb⟩=qj (.int .i64 (F:Int))/\w'.cell? ⟨n.heap.size,2,qb⟩=qj (.int .u64 (f:Int))) 12
  (.still 0 (.still 1 (.still 2 (.still 3 (.still 4 (.still 5 (.still 6 (.still 7 (.still 8 (.still 9 (.still 10 (.still 11 .done)))))))))))) ⟨q,c1,p2⟩ (fun c4=>?_)
 obtain⟨V,l,C⟩:=b4.o
 iterate 12
  refine q03 ?_
 refine q0T rfl ?_;have g:IntKind.i64.wrap ((2:Int)^(E-1))=(P:Int):=by rw[show((2:Int)^(E-1))=((2^(E-1):Nat):Int) by simp,<- D.o];exact qe _ (by omega)
 rw[g,l,C];clear V l C g b4 c4 q c1 cl pl p0 p1 p2;obtain⟨B,a5⟩:=yx (2-(P:Int)-(F:Int));have f3:-2000<=B:=by omega
 have f4:B<=2:=by omega
 rw[<- a5];have I:=vv a5;have Y:=vv (X.o.below (q05 (qa _ _)));have c5:=vv (c2.o.below (q05 (qa _ _)));have Z:=vv (H.o.below (q05 (qa _ _)));have a6:qm (qc w.heap.size w w3.drew):=vv (q05 c3.o);obtain⟨w4,c6⟩:=yx (w3.drew);rw[<- c6] at Y c5 Z a6 ⊢;clear c6 a5 X c2 H c3 b6 b7 b8 b9 HR J HB;obtain⟨p0,p1,p2⟩:=blk3 Y.o;have q:=Z.o.cell 0;have c1:=Z.o.cell 1;have cl:=Z.o.lt;have pl:=Y.o.lt;simp only[k06,k0l] at q c1;obtain⟨c,hc⟩:=yx (q1a E x f);rw[<- hc];have d7:(x=0/\f=0/\c=1)\/(x=0/\f≠0/\c=2)\/(x≠0/\c=3):=by
  have:=W.o.1;rw[hc];unfold q1a;by_cases h:x=0
  ·by_cases h':f=0
   ·exact Or.inl ⟨h,h',by rw[k0p h,k0p h']⟩
   ·exact Or.inr (Or.inl ⟨h,h',by rw[k0p h,k0r h']⟩)
  ·exact Or.inr (Or.inr ⟨h,by rw[k0r h,k0r this]⟩)
 clear hc;obtain⟨M,k⟩:=yx (mantOf F x f);obtain⟨p,g⟩:=yx (powOf E F x);have u:M<2^53 /\ -2000<=p/\p<=2050:=by
  have h:=W.o;unfold mantOf at k;unfold powOf at g;rw[<- D.o,<- I.o] at g;split at k
  next e=>rw[k0p e] at g;omega
  next e=>rw[k0r e] at g;omega
 rcases d7 with ⟨j,a7,rfl⟩|⟨j,a7,rfl⟩|⟨j,rfl⟩
 case' inr.inr =>
  have h1:IntKind.i64.wrap ((x:Int)-1)=(x:Int)-1:=qe _ (by omega);have h2:IntKind.i64.wrap (B+((x:Int)-1))=p:=by rw[g];unfold powOf;rw[k0r j,<- D.o,<- I.o];exact qe _ (by omega)
  have H3:qm (IntKind.u64.wrap ((2:Int)^F)=((2^F:Nat):Int)):=vv (R5.wu_pow (by omega));have c7:qm (bits .or .u64 (f:Int) ((2^F:Nat):Int)=(M:Int)):=vv (by have h:=W.o;rw[u64_or_nat _ _ (by omega) (by omega),k];unfold mantOf;rw[k0r j,Nat.or_comm];have h:=k1p (i:=F) (b:=f) (by omega) 1;rw[k0G] at h;rw[<- h,k0Z]);clear j;have HM:=vv k;have HP:=vv g;have s:=vv u;clear k g u;go_wp2_with fail;rw[H3.o,c7.o];clear h1 h2 H3 c7
 case' inl =>
  have L:f=M:=by rw[k];unfold mantOf;rw[k0p j]
  have N:B=p:=by rw[g];unfold powOf;rw[k0p j,I.o,D.o];omega
  rw[L,N];clear j a7;have HM:=vv k;have HP:=vv g;have s:=vv u;clear k g u L N;go_wp2_with fail
 case' inr.inl =>
  have L:f=M:=by rw[k];unfold mantOf;rw[k0p j]
  have N:B=p:=by rw[g];unfold powOf;rw[k0p j,I.o,D.o];omega
  rw[L,N];clear j a7;have HM:=vv k;have HP:=vv g;have s:=vv u;clear k g u L N;go_wp2_with fail
 all_goals
  have U:qm (∀e w',q9R neg M p w e w'->Po e w'):=vv (by rw[U.o,<- HM.o,<- HP.o];exact fun _ _ h=>h);have d8:=vv fun w=>Pnt.Of M w (by have:=s.o.1;omega)
  have d9:=vv (HS.o.below a6.o);clear q c1 cl p1 p2 HP HX W I HM T y;refine q02 (fun w'=>w'.cell? ⟨n.heap.size,0,qb⟩=qj (.bool neg)) 8
   (.still 0 (.still 1 (.still 2 (.still 4 (.one 3 (.one 5 (.still 6 (.still 7 .done)))))))) p0 (fun c4=>?_)
  iterate 4
   refine q03 ?_
  refine q01 rfl (by rfl) (fun K hK=>?_);go_simp;refine(d8.o _).mono ?_;rintro e O ⟨A,m,rfl,r,hF,d⟩;have d:qc w4.heap.size w4 O:=⟨d.os,d.tape,d.output,d.size,d.block⟩;have c8:=vv (Y.o.below d);have c9:=vv (c5.o.below d);have e0:=vn a6 d;have b0:=vv (d9.o.below d);have d0:=vv r;clear d hF r;go_wp2_with fail;refine hK.out _ _ (c8.o.cell 0) (fun a3=>?_);clear hK;have a8:qm (∃Q N2 R,ql qd 65 #[.bool neg,q0x A m m,.int .i64 p] O (DyP Q N2 R O)/\∀e w',DyP Q N2 R w e w'->Po e w'):=vv (by
   have r:=d0.o;have hm:m<=2:=r.bound (by have:=s.o.1;omega);by_cases h0:M=0
   ·refine⟨qg,0,0,?_,fun e w' h=>U.o e w' (by unfold q9R;rw[k0p h0];exact h)⟩;rw[h0,q2t] at r;have:m=0:=r.len.symm;subst this;exact q9U neg A 0 p O (by rw[q2t];exact r)
   ·have ht:=q1h (k0O h0);have hb:=q0A s.o.1;have hv:=s.o;exact⟨neg,_,_,qdg neg A m m M p O r (k0O h0) b0.o (by omega) (by omega) (by omega),fun e w' h=>U.o e w' (by unfold q9R;rw[k0r h0];exact h)⟩)
  obtain⟨Q,N2,R,d1,t⟩:=a8.o;have a8:=vv d1;have e3:=vv t;clear d1 t d0 s;refine q01 rfl (by rfl) (fun K hK=>?_);go_simp;refine a8.o.mono ?_;rintro e w6 ⟨A6,S,rfl,d2,d3,d⟩;have e4:=vv (c8.o.below d);have e5:=vv (c9.o.below d);have d4:=vn e0 d;have d5:=vv (d3.mono c9.o.lt);have e6:=vv d2;clear d d3 d2;go_wp2_with fail;refine hK.out _ _ (e4.o.cell 0) (fun a3=>?_);clear hK
  iterate 2
   refine q03 ?_
  refine q08 ?_;simp only[k0o,k0w];go_wp2_with (with_reducible refine q00 rfl 62 (.tmp 4) (.tmp 63) rfl (w.heap.size+1) [.bool Q,.slice A6 S S,.int .i64 R] rfl rfl 62 _ e5.o (by kernel_rfl) rfl rfl ?_)
  all_goals
   intro w8 d a9;have e7:=vv (q0a d4.o a9 d4.o.size (k1z _));have b1:=vv (e6.o.only a9 (fun a e=>by have:=(d5.o a e).1;omega));obtain⟨k0,k1,k2⟩:=Fms.blk3 d;have K:=vv (And.intro k0 (And.intro k1 k2));clear d a9 k0 k1 k2;go_wp2;obtain⟨k0,k1,k2⟩:=K.o;exact qf (v:=.tuple #[q0q Q A6 S S R,.int .i64 0]) (by simp [results,results24,go_sem,k0,k1,k2]) rfl (e3.o _ _ ⟨A6,S,rfl,b1.o,d5.o.mono (by omega),e7.o⟩)
end Exa
namespace Pnt
open Go Go.RowKit R5 Scn
theorem qet(A B:Option qn)(n m c d:Nat)(xs ys:List Nat)(w:qi)(ha:Rd w A n c xs)(hb:Rd w B m d ys)(hx:xs=toL (val xs))(hy:ys=toL (val ys)):ql qd 290 #[.slice A n c,.slice B m d] w fun e w'=>e=.returned (.int .i64 (q14 (val xs) (val ys)))/\qc w.heap.size w w':=by
 have L:=ha.sm;have M:=hb.sm;have l:words (val xs)=n:=by unfold words;rw[<- hx,ha.len]
 have q:words (val ys)=m:=by unfold words;rw[<- hy,hb.len]
 have x:=vv l;have y:=vv q;clear l q;clear hx hy;rcases k1K n m with h|h|h
 ·have C:=vv (q1G (q1U (a:=val xs) (b:=val ys) (by rw[x.o,y.o];exact h)));go_enter func290,ntmps290;go_wp2;go_ret;exact⟨q0X C.o.symm,qa _ _⟩
 ·subst h;go_enter func290,ntmps290;go_wp2;go_loopw [5] (fun i wr=>∃(z:Int) (k:Nat),i=.int .i64 z/\z+1=k/\k<=n/\val (xs.drop k)=val (ys.drop k)/\qc w.heap.size w wr) (fun i _=>(intOf i+1).toNat)
  case atStart=>exact⟨_,n,rfl,by omega,lr,by rw[k0V (by rw[ha.len];omega),k0V (by rw[hb.len];omega)],qa _ _⟩
  case round =>
   obtain⟨z,k,rfl,D,Q,r,f⟩:=hrel;have g:=vv r;clear r;rcases k01 k with rfl|N
   ·obtain rfl:z = -1:=by omega
    have C:=vv (q4u (a:=val xs) (b:=val ys) (by have:=g.o;simpa using this));clear D;go_wp2;go_ret;exact⟨q0X C.o.symm,f⟩
   ·obtain⟨j,rfl⟩:∃j,k=j+1:=⟨k-1,by omega⟩;obtain rfl:z=(j:Int):=by omega
    clear D;obtain⟨b,off,rfl,F,s⟩:=ha.cell (by omega);have O:wr.cell? ⟨b,off+j,qb⟩=qj (.int .u32 ((nth xs j:Nat):Int)):=(f.cell (p:=⟨b,off+j,qb⟩) F).trans (s j (by omega));clear s;obtain⟨E,t,rfl,G,u⟩:=hb.cell (by omega);have P:wr.cell? ⟨E,t+j,qb⟩=qj (.int .u32 ((nth ys j:Nat):Int)):=(f.cell (p:=⟨E,t+j,qb⟩) G).trans (u j (by omega));clear u;have R:(j:Int)<(n:Int):=by omega
    have S:(0:Int)<=(j:Int):=by omega
    rcases k1K (nth xs j) (nth ys j) with H|v|I
    ·have C:=vv (q1G (q2C ha.lim (by rw[ha.len];omega) (by rw[hb.len];omega) g.o H));go_wp2_with fail;go_quiet (fail);go_wp2;go_ret;exact⟨q0X C.o.symm,q0n f _⟩
    ·have J:qk (nth xs j<nth ys j)=qg:=by simp;omega
     have T:qk (nth ys j<nth xs j)=qg:=by simp;omega
     have K:qm (val (xs.drop j)=val (ys.drop j)):=vv (by rw[q0t xs,q0t ys,g.o,v]);clear v;go_wp2_with fail;go_quiet (fail);go_wp2_with fail;go_quiet (fail);go_wp2;go_roundw
     case rel=>exact⟨_,j,rfl,by omega,by omega,K.o,q0n f _⟩
     case measure=>simp [intOf]
    ·have C:=vv (q2p (q2C hb.lim (by rw[hb.len];omega) (by rw[ha.len];omega) g.o.symm I));have J:qk (nth xs j<nth ys j)=qg:=by simp;omega
     go_wp2_with fail;go_quiet (fail);go_wp2_with fail;go_quiet (fail);go_wp2;go_ret;exact⟨q0X C.o.symm,q0n (q0n f _) _⟩
 ·have C:=vv (q2p (q1U (a:=val ys) (b:=val xs) (by rw[x.o,y.o];exact h)));go_enter func290,ntmps290;go_wp2;go_ret;exact⟨q0X C.o.symm,qa _ _⟩
theorem qeA(A B:Option qn)(n m c d N M:Nat)(w:qi)(ha:Rd w A n c (toL N))(hb:Rd w B m d (toL M)):ql qd 290 #[.slice A n c,.slice B m d] w fun e w'=>e=.returned (.int .i64 (q14 N M))/\qc w.heap.size w w':=by
 have h:=qet A B n m c d (toL N) (toL M) w ha hb (by rw[q04]) (by rw[q04])
 rwa [q04,q04] at h
theorem q4v(A B:Option qn)(n m c d N M g:Nat)(w:qi)(ha:Rd w A n c (toL N))(hb:Rd w B m d (toL M))(hn:n<=16384)(hm:m<=16384)(hQ:Blk w g 37 [.slice A n c,.slice B m d]):ql qd 123 #[.slice (qj ⟨g,0,qb⟩) 2 2] w fun e w'=>e=.returned (.int .i64 0)/\qc w.heap.size w w':=by
 have s:=vv fun w' (h:qc w.heap.size w w')=>Check_ok (ha.below h rfl) hn
 have t:=vv fun w' (h:qc w.heap.size w w')=>Check_ok (hb.below h rfl) hm
 have p:=vv hQ;clear ha hb hn hm hQ;go_enter func123,ntmps123;go_wp2_with fail;go_loopw [8] (fun i wr=>∃k:Nat,k<=2/\i=.int .i64 (k:Int)/\qc w.heap.size w wr) (fun i _=>(2-intOf i).toNat)
 case atStart=>exact⟨0,by decide,rfl,qa _ _⟩
 case round =>
  obtain⟨k,v,rfl,b⟩:=hrel;have f:=vv b;have q:=(p.o.below b).cell 0;have c1:=(p.o.below b).cell 1;have r:=(p.o.below b).lt;simp only[k06,k0l] at q c1;clear b;rcases(by omega:k=0\/k=1\/k=2) with rfl|rfl|rfl
  ·go_wp2_with fail;have a:=f.o.alloc f.o.size (.cells #[.slice A n c] 37);refine(s.o _ a).mono ?_;rintro e u ⟨rfl,j⟩;have l:=vv (a.trans (j.mono a.size));clear j q c1 r a;go_wp2;go_roundw
   case rel=>exact⟨1,by decide,rfl,l.o⟩
   case measure=>simp [intOf]
  ·go_wp2_with fail;have a:=f.o.alloc f.o.size (.cells #[.slice B m d] 37);refine(t.o _ a).mono ?_;rintro e u ⟨rfl,j⟩;have l:=vv (a.trans (j.mono a.size));clear j q c1 r a;go_wp2;go_roundw
   case rel=>exact⟨2,by decide,rfl,l.o⟩
   case measure=>simp [intOf]
  ·go_wp2;go_ret;exact⟨rfl,f.o⟩
theorem Cmp(A B:Option qn)(n m c d N M:Nat)(w:qi)(ha:Rd w A n c (toL N))(hb:Rd w B m d (toL M))(hn:n<=16384)(hm:m<=16384):ql qd 295 #[q0x A n c,q0x B m d] w fun e w'=>e=.returned (.tuple #[.int .i64 (q14 N M),.int .i64 0])/\qc w.heap.size w w':=by
 have C:=vv fun g w' (h:qc w.heap.size w w') (j:Blk w' g 37 [.slice A n c,.slice B m d])=>q4v A B n m c d N M g w' (ha.below h rfl) (hb.below h rfl) hn hm j
 have D:=vv fun w' (h:qc w.heap.size w w')=>qeA A B n m c d N M w' (ha.below h rfl) (hb.below h rfl)
 obtain⟨f,b⟩:=yx (((w.alloc (.cells #[.slice A n c] 37)).alloc (.cells #[.slice B m d] 37)));have a:qc w.heap.size w f:=by rw[b];exact((qa _ _).alloc lr _).alloc (by simp) _
 have k:Blk f w.heap.size 37 [.slice A n c]:=by rw[b];exact(Blk.made w 37 [.slice A n c]).alloc _
 have l:Blk f (w.heap.size+1) 37 [.slice B m d]:=by
  rw[b];have:=Blk.made (w.alloc (.cells #[.slice A n c] 37)) 37 [.slice B m d]
  rwa [qh] at this
 have E:=vv b;have u:=vv a;have F:=vv k;have G:=vv l;have y:qm (f.heap.size=w.heap.size+1+1):=vv (by rw[b];simp);have p:=k.cell 0;have v:=k.lt;have q:=l.cell 0;have x:=l.lt;simp only[k06] at p q;clear ha hb hn hm b a k l;go_enter func295,ntmps295;go_wp2_with fail;rw[<- E.o];go_wp2_with fail;have i:=u.o.alloc u.o.size (.cells #[.slice A n c,.slice B m d] 37);have j:Blk (f.alloc (.cells #[.slice A n c,.slice B m d] 37)) (w.heap.size+1+1) 37 [.slice A n c,.slice B m d]:=by rw[<- y.o];exact Blk.made f 37 [.slice A n c,.slice B m d]
 refine(C.o _ _ i j).mono ?_;rintro e H ⟨rfl,a⟩;have t:=vv (i.trans (a.mono i.size));have r:=(F.o.alloc (.cells #[.slice A n c,.slice B m d] 37)).below a;have s:=(G.o.alloc (.cells #[.slice A n c,.slice B m d] 37)).below a;clear a p v q x i j;have p:=r.cell 0;have v:=r.lt;have q:=s.cell 0;have x:=s.lt;simp only[k06] at p q;clear r s;go_wp2_with fail;refine(D.o _ t.o).mono ?_;rintro e I ⟨rfl,a⟩;have z:=vn t a;clear a;go_wp2;go_ret2;exact⟨rfl,z.o⟩
end Pnt
end Go.Proofs.YtabcgemembkkcaaGreatDoor
