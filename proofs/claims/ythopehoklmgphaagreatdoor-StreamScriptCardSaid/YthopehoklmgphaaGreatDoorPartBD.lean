/- Lemmas. -/
import Derived.Test.YthopehoklmgphaaGreatDoorPartBC
set_option linter.all false
set_option maxHeartbeats 40000000
set_option maxRecDepth 100000
open Go.Proofs.Tryz
open Bool renaming false->qa,true->qh
open Option renaming none->qb,some->qg
open Go renaming RowKit.Below.refl->qc,bodyPost_ret->qi,IntKind.wrap_i64->qk,IntKind.wrap_u32->ql,World->qm,Calls->qn
open Go.Proofs.Tryz renaming prog->qd
open Decidable renaming decide->qe
open Go.RowKit renaming Below->qf,Hid->qj
namespace Go.Proofs.YthopehoklmgphaaGreatDoor
namespace Exa
open Go Go.RowKit R5
def exaErr(neg:Bool)(n:Nat)(xs:List Nat)(x:Int):Int:=
 if q1I n xs=qa then Nat_.natErr n xs else if twoOk neg n xs x then 0 else 40
theorem exaErr_zero(neg:Bool)(n:Nat)(xs:List Nat)(x:Int):(exaErr neg n xs x==0)=twoOk neg n xs x:=by
 unfold exaErr;cases h:q1I n xs
 ·rw[if_pos rfl,Nat_.natErr_zero,h];unfold twoOk;rw[h];rfl
 ·rw[if_neg (by decide)];cases twoOk neg n xs x<;>rfl
theorem qdz(A:Option Addr)(c:Nat)(w:qm):qn qd 120 #[q4w A 0 c] w fun e w'=>e=.returned (.bool qh)/\qf w.heap.size w w':=none_ A 0 c w
theorem qaD(A:Option Addr)(n c:Nat)(w:qm)(h:0<n):qn qd 120 #[q4w A n c] w fun e w'=>e=.returned (.bool qa)/\qf w.heap.size w w':=by
 have e:((n:Int)==0)=qa:=by rw[k02];omega
 have:=none_ A n c w;rw[e] at this;exact this
theorem Check(neg:Bool)(A:Option Addr)(n c:Nat)(xs:List Nat)(x:Int)(w:qm)(hr:Rd w A n c xs):qn qd 69 #[q5s neg A n c x] w fun e w'=>e=.returned (.int .i64 (exaErr neg n xs x))/\qf w.heap.size w w':=by
 have t:=vv fun w' (h:qf w.heap.size w w')=>Nat_.Check A n c xs w' (hr.below h rfl)
 obtain⟨T,H⟩:=yx (w.alloc (.cells #[.bool neg,.slice A n c,.int .i64 x] 90));have O:qf w.heap.size w T:=by rw[H];exact(qc _ w).alloc lr _
 have I:DyadBox T w.heap.size neg A n c x:=by rw[H];exact DyadBox.made w _ _ _ _ _ _
 have d:=vv I;have a:=vv O;have z:=vv H;have i:=I.c1;have j:=I.lt;clear H O I;cases hok:q1I n xs
 ·have l:qj (exaErr neg n xs x=Nat_.natErr n xs):=vv (by unfold exaErr;rw[if_pos hok]);obtain⟨v,u⟩:=yx (Nat_.natErr n xs);have Y:(v != 0)=qh:=by have:=Nat_.natErr_zero n xs;rw[<- u,hok] at this;rw[bne,this];rfl
  rw[<- u] at t l;clear u hok;go_enter func69,ntmps69;go_wp2_with fail;rw[<- z.o];refine(t.o _ a.o).mono ?_;rintro e D ⟨rfl,f⟩;have a:=vn a f;clear f;go_wp2;go_ret;exact⟨q0o l.o.symm,a.o⟩
 have l:qj (exaErr neg n xs x=if twoOk neg n xs x then 0 else 40):=vv (by unfold exaErr;rw[if_neg (by rw[hok];decide)]);have P:twoOk neg n xs x=(qe (x<=1073741824) && qe (-1073741824<=x) && (if n=0 then qe (x=0) && !neg else qe (nth xs 0%2=1))):=by unfold twoOk;rw[hok];rfl
 have y:=vv P;rw[Nat_.natErr_ok hok] at t;have U:=(R16.natOk_facts hok).1;have Z:(n:Int)<=16384:=by omega
 clear P U hok;rcases k04 n with E|E
 ·subst E;have r:=vv fun w=>qdz A c w
  cases neg
  ·cases tx:(x==0)
   ·have s:qj (exaErr qa 0 xs x=40):=vv (by
     have hx:x≠0:=by rw[k02] at tx;exact tx
     rw[l.o,y.o,if_pos rfl,k00 hx];simp)
    have a0:(x != 0)=qh:=by rw[bne,tx];rfl
    clear l y;go_enter func69,ntmps69;go_wp2_with fail;rw[<- z.o];refine(t.o _ a.o).mono ?_;rintro e D ⟨rfl,f⟩;have d:=vv (d.o.below f);have a:=vn a f;obtain⟨m,i,q,j⟩:=d.o;clear f;go_wp2_with fail;refine(r.o _).mono ?_;rintro e G ⟨rfl,g⟩;have d:=vv (d.o.below g);have a:=vn a g;obtain⟨m,i,q,j⟩:=d.o;clear g;go_wp2;go_ret;exact⟨q0o s.o.symm,a.o⟩
   ·have hx:x=0:=by rw[k2r] at tx;exact tx
    subst hx;have s:qj (exaErr qa 0 xs 0=0):=vv (by rw[l.o,y.o,if_pos rfl];rfl);clear l y;go_enter func69,ntmps69;go_wp2_with fail;rw[<- z.o];refine(t.o _ a.o).mono ?_;rintro e D ⟨rfl,f⟩;have d:=vv (d.o.below f);have a:=vn a f;obtain⟨m,i,q,j⟩:=d.o;clear f;go_wp2_with fail;refine(r.o _).mono ?_;rintro e G ⟨rfl,g⟩;have d:=vv (d.o.below g);have a:=vn a g;obtain⟨m,i,q,j⟩:=d.o;clear g;go_wp2_with fail;refine(r.o _).mono ?_;rintro e N ⟨rfl,k⟩;have d:=vv (d.o.below k);have a:=vn a k;obtain⟨m,i,q,j⟩:=d.o;clear k;go_wp2;go_ret;exact⟨q0o s.o.symm,a.o⟩
  ·have s:qj (exaErr qh 0 xs x=40):=vv (by rw[l.o,y.o,if_pos rfl];simp);clear l y;go_enter func69,ntmps69;go_wp2_with fail;rw[<- z.o];refine(t.o _ a.o).mono ?_;rintro e D ⟨rfl,f⟩;have d:=vv (d.o.below f);have a:=vn a f;obtain⟨m,i,q,j⟩:=d.o;clear f;go_wp2_with fail;refine(r.o _).mono ?_;rintro e G ⟨rfl,g⟩;have d:=vv (d.o.below g);have a:=vn a g;obtain⟨m,i,q,j⟩:=d.o;clear g;go_wp2;go_ret;exact⟨q0o s.o.symm,a.o⟩
 have r:=vv fun w=>qaD A n c w E
 obtain⟨b,off,rfl,Q,R⟩:=hr.cell E;have L:=R 0 E;rw[k0S] at L;have J:=vv L;have F:=hr.nth_lt 0;have M:=vv Q;have C:qj (twoOk neg n xs x=(qe (nth xs 0%2=1) && !Dec.farB x)):=vv (by
  rw[y.o,if_neg (by omega)];unfold Dec.farB;by_cases q1:x < -1073741824
  ·rw[k03 q1,k00 (p:=-1073741824<=x) (by omega)];simp
  ·rw[k00 q1,k03 (p:=-1073741824<=x) (by omega)];by_cases q2:1073741824<x
   ·rw[k03 q2,k00 (p:=x<=1073741824) (by omega)];simp
   ·rw[k00 q2,k03 (p:=x<=1073741824) (by omega)];simp)
 have V:qe ((0:Int)<(n:Int))=qh:=k03 (by omega);clear y R hr E Q L;have K:=vv fun w=>far x w
 obtain⟨v,u⟩:=yx (nth xs 0);rw[<- u] at J C F;have S:qj (bits .and .u32 (v:Int) 1=((v%2:Nat):Int)):=vv (by have:=u32_and_nat v 1 F (by omega);rw[Nat.and_one_is_mod] at this;exact this);have a1:(0:Int)<(n:Int):=by simpa using V
 clear u;by_cases hp:v%2=0
 ·have s:qj (exaErr neg n xs x=40):=vv (by rw[l.o,C.o,k00 (p:=v%2=1) (by omega)];rfl);have W:(bits .and .u32 (v:Int) 1==0)=qh:=by rw[S.o,hp];rfl
  have X:((v:Int)%2==0)=qh:=by rw[k2r];omega
  clear hp l C F;go_enter func69,ntmps69;go_wp2_with fail;rw[<- z.o];refine(t.o _ a.o).mono ?_;rintro e D ⟨rfl,f⟩;have d:=vv (d.o.below f);have a:=vn a f;obtain⟨m,i,q,j⟩:=d.o;clear f;go_wp2_with fail;refine(r.o _).mono ?_;rintro e G ⟨rfl,g⟩;have d:=vv (d.o.below g);have a:=vn a g;obtain⟨m,i,q,j⟩:=d.o;clear g;go_wp2_with fail;refine(r.o _).mono ?_;rintro e N ⟨rfl,k⟩;have d:=vv (d.o.below k);have a:=vn a k;obtain⟨m,i,q,j⟩:=d.o;clear k;have u:=(a.o.cell (p:=⟨b,off,qb⟩) M.o).trans J.o;go_wp2;go_ret;exact⟨q0o s.o.symm,a.o⟩
 have W:(bits .and .u32 (v:Int) 1==0)=qa:=by rw[S.o,k02];omega
 have X:((v:Int)%2==0)=qa:=by rw[k02];omega
 cases hf:Dec.farB x
 ·rw[hf] at K;have s:qj (exaErr neg n xs x=0):=vv (by rw[l.o,C.o,hf,k03 (p:=v%2=1) (by omega)];rfl);clear hp l C F hf;go_enter func69,ntmps69;go_wp2_with fail;rw[<- z.o];refine(t.o _ a.o).mono ?_;rintro e D ⟨rfl,f⟩;have d:=vv (d.o.below f);have a:=vn a f;obtain⟨m,i,q,j⟩:=d.o;clear f;go_wp2_with fail;refine(r.o _).mono ?_;rintro e G ⟨rfl,g⟩;have d:=vv (d.o.below g);have a:=vn a g;obtain⟨m,i,q,j⟩:=d.o;clear g;go_wp2_with fail;refine(r.o _).mono ?_;rintro e N ⟨rfl,k⟩;have d:=vv (d.o.below k);have a:=vn a k;obtain⟨m,i,q,j⟩:=d.o;clear k;have u:=(a.o.cell (p:=⟨b,off,qb⟩) M.o).trans J.o;go_wp2_with fail;refine(K.o _).mono ?_;rintro e w' ⟨rfl,rfl⟩;go_wp2;go_ret;exact⟨q0o s.o.symm,a.o⟩
 ·rw[hf] at K;have s:qj (exaErr neg n xs x=40):=vv (by rw[l.o,C.o,hf,k03 (p:=v%2=1) (by omega)];rfl);clear hp l C F hf;go_enter func69,ntmps69;go_wp2_with fail;rw[<- z.o];refine(t.o _ a.o).mono ?_;rintro e D ⟨rfl,f⟩;have d:=vv (d.o.below f);have a:=vn a f;obtain⟨m,i,q,j⟩:=d.o;clear f;go_wp2_with fail;refine(r.o _).mono ?_;rintro e G ⟨rfl,g⟩;have d:=vv (d.o.below g);have a:=vn a g;obtain⟨m,i,q,j⟩:=d.o;clear g;go_wp2_with fail;refine(r.o _).mono ?_;rintro e N ⟨rfl,k⟩;have d:=vv (d.o.below k);have a:=vn a k;obtain⟨m,i,q,j⟩:=d.o;clear k;have u:=(a.o.cell (p:=⟨b,off,qb⟩) M.o).trans J.o;go_wp2_with fail;refine(K.o _).mono ?_;rintro e w' ⟨rfl,rfl⟩;go_wp2;go_ret;exact⟨q0o s.o.symm,a.o⟩
end Exa
namespace Nat_
open Go Go.RowKit R5
theorem Rd.cap{w:qm}{A:Option Addr}{n c:Nat}{xs:List Nat}(h:Rd w A n c xs):Rd w A n n xs:=⟨h.len,lr,h.sm,h.lim,h.cell⟩
theorem q8v(A:Option Addr)(n c:Nat)(xs:List Nat)(w:qm)(hr:Rd w A n c xs):qn qd 122 #[.slice A n c] w fun e w'=>∃A' m,e=.returned (q4w A' m m)/\Rd w' A' m m (toL (val xs))/\(∀a,A'=qg a->A=qg a)/\qf w.heap.size w w':=by
 have K:=hr.sm;have L:=hr.len;have M:=hr.le;have f:=(qc w.heap.size w).alloc (o:=.cells #[.slice qb 0 0] 88) lr;have l:=NatCell.made w 88;obtain⟨r,s⟩:=yx (w.alloc (.cells #[.slice qb 0 0] 88));rw[<- s] at f l;have g:=hr.below f rfl;have F:=vv s;have D:=vv f;have N:=vv g;have z:=vv hr;have E:=l.c0;have fz:=l.fz;have R:=l.lt;clear s l;go_enter func122,ntmps122;go_wp2_with fail;rw[<- F.o];go_loop [3] (fun t=>∃k:Nat,k<=n/\t=.int .i64 k/\∀i,k<=i->nth xs i=0) (fun t=>(intOf t).toNat)
 case atStart=>exact⟨n,lr,rfl,fun i hi=>q18 xs i (by omega)⟩
 case round =>
  obtain⟨k,S,rfl,q⟩:=hrel;have fin:∀m,m<=n->(∀i,m<=i->nth xs i=0)->(m=0\/nth xs (m-1)≠0)->Rd r A m c (toL (val xs)):=by intro m I d y;have e:=q1m hr.lim (n:=m) d (y.imp id fun h=>⟨by omega,h⟩);rw[<- e];exact g.take I
  have C:=vv fin;clear fin;rcases k04 k with rfl|O
  ·have u:=vv (C.o 0 (k0d _) q (.inl rfl));have x:=vv (D.o.setCell (p:=⟨w.heap.size,0,qb⟩) lr (.slice qb 0 0));have j:(r.setCell ⟨w.heap.size,0,qb⟩ (.slice qb 0 0)).cell? ⟨w.heap.size,0,qb⟩=qg (.slice qb 0 0):=q0t E;clear q g hr f;go_wp2;refine qi (v:=q4w qb 0 0) (by simp [results,results122,go_sem,j]) rfl ⟨qb,0,rfl,?_,fun a h=>(by cases h),x.o⟩;have e:toL (val xs)=[]:=k0s u.o.len;rw[e];exact Rd.nil _
  ·obtain⟨m,rfl⟩:∃m,k=m+1:=⟨k-1,by omega⟩;have G:=z.o;obtain⟨b,off,rfl,T,j⟩:=g.cell (by omega);have hx:=j m (by omega);clear j;by_cases d:nth xs m=0
   ·have y:(((nth xs m:Nat):Int)==0)=qh:=by rw[d];rfl
    have J:=vv d;clear d g hr f;go_wp2;go_round
    case rel=>exact⟨m,by omega,by go_num,fun i hi=>by
     rcases k2z hi with rfl|h
     ·exact J.o
     ·exact q i (by omega)⟩
    case measure=>simp [intOf]
   ·have y:(((nth xs m:Nat):Int)==0)=qa:=by rw[k02];omega
    have u:=vv (Rd.cap (C.o (m+1) (by omega) q (.inr d)));have P:b<w.heap.size:=by obtain⟨U,Q,e,h,_⟩:=z.o.cell (by omega);cases e;exact h
    have x:=vv (D.o.setCell (p:=⟨w.heap.size,0,qb⟩) lr (.slice (qg ⟨b,off,qb⟩) (m+1) (m+1)));have j:(r.setCell ⟨w.heap.size,0,qb⟩ (.slice (qg ⟨b,off,qb⟩) (m+1) (m+1))).cell? ⟨w.heap.size,0,qb⟩=qg (.slice (qg ⟨b,off,qb⟩) (m+1) (m+1)):=q0t E;have H:qj (Rd (r.setCell ⟨w.heap.size,0,qb⟩ (.slice (qg ⟨b,off,qb⟩) (m+1) (m+1))) (qg ⟨b,off,qb⟩) (m+1) (m+1) (toL (val xs))):=vv (u.o.other _ _ _ (fun a e=>by cases e;show b≠w.heap.size;omega));clear d q g hr f G;go_wp2;exact qi (v:=q4w (qg ⟨b,off,qb⟩) (m+1) (m+1)) (by simp [results,results122,go_sem,j]) rfl ⟨qg ⟨b,off,qb⟩,m+1,rfl,H.o,fun a h=>by simpa using h,x.o⟩
theorem Of1(w:qm):qn qd 70 #[.int .u64 1] w fun e w'=>∃A,e=.returned (q4w A 1 1)/\Rd w' A 1 1 (toL 1)/\qf w.heap.size w w':=by
 go_enter func70,ntmps70;go_wp2_with fail;obtain⟨g,h⟩:=R1.two_words (w.alloc (.cells #[.slice qb 0 0] 88)) 1 0 (by omega) (by omega) 197;have j:=(NatCell.made w 88).below h;have k:=(qc w.heap.size w).alloc (o:=.cells #[.slice qb 0 0] 88) lr;have u:=vv j;have x:=vv (k.trans (h.mono (by simp)));have l:(w.alloc (.cells #[.slice qb 0 0] 88)).heap.size=w.heap.size+1:=by simp
 rw[l] at g;clear h j k l;refine(q8v (qg ⟨w.heap.size+1,0,qb⟩) 2 2 [1,0] _ g).mono ?_;rintro e c ⟨b,m,rfl,i,n,d⟩;have y:m=1:=i.words.symm;subst y;have p:qj (Rd c b 1 1 (toL 1)):=vv i;have f:=vv (u.o.below d);have q:=vn x d;have z:=f.o.c0;have fz:=f.o.fz;have lt:=f.o.lt;have r:qj (Rd (c.setCell ⟨w.heap.size,0,qb⟩ (.slice b 1 1)) b 1 1 (toL 1)):=vv (p.o.other _ _ _ (fun a e=>by have:=n a e;cases this;simp));have s:qj (qf w.heap.size w (c.setCell ⟨w.heap.size,0,qb⟩ (.slice b 1 1))):=vv (q.o.setCell lr _);have t:(c.setCell ⟨w.heap.size,0,qb⟩ (.slice b 1 1)).cell? ⟨w.heap.size,0,qb⟩=qg (.slice b 1 1):=q0t z;clear d i n g;go_wp2;exact qi (v:=q4w b 1 1) (by simp [results,results70,go_sem,t]) rfl ⟨b,rfl,r.o,s.o⟩
end Nat_
namespace Rtp
open Go Go.RowKit R5
theorem qbi{W:List Nat}{N:Nat}(hl:Lim W)(hv:val W=N)(hw:W.length=words N):W=toL N:=q4g hw fun i _=>by rw[q1p,<- hv,q46 hl]
theorem q3O(N:Nat):((bl N+7)/8+3)/4=words N:=by
 have b:=A.bl_words N;have a:N<4294967296^(((bl N+7)/8+3)/4):=by rw[qdo];exact k01 (A.lt_bytes N) (k05 (by decide) (by omega))
 have c:=q1n a;omega
theorem qaI(g o:Nat)(u:Int)(w:qm)(h:IntAt w g o u)(sN:bl u.natAbs<=4294967296):qn qd 303 #[.pointer (qg ⟨g,o,qb⟩)] w fun e w'=>∃A n,e=.returned (q4w A n n)/\Rd w' A n n (toL u.natAbs)/\Fr w.heap.size A/\qf w.heap.size w w':=by
 obtain⟨M,y⟩:=yx (w.alloc (.cells #[.slice qb 0 0] 88));have O:qf w.heap.size w M:=by rw[y];exact(qc _ w).alloc lr _
 have c0:NatCell M w.heap.size:=by rw[y];exact NatCell.made _ _
 have X:=vv (A.Bytes g o u M (h.below O) sN);have Y:=vv (q3O u.natAbs);obtain⟨N,hN⟩:=yx (u.natAbs);rw[<- hN] at X Y sN ⊢;have b3:=vv y;have Z:=vv O;have b4:=vv c0;have b5:=vv sN;clear h y O c0 sN hN;go_enter func303,ntmps303;go_wp2_with fail;rw[<- b3.o];refine X.o.mono ?_;rintro e a ⟨B,m,rfl,hm,a2,H⟩;have a3:=vv a2;have b6:=vv H;have a4:=vv (b4.o.below H);have I:qj (w.heap.size<a.heap.size):=vv a4.o.lt;obtain⟨L,P⟩:=yx ((m+3)/4);have b7:qj (L=words N):=vv (by rw[P,hm];exact Y.o);have d3:m<=4294967296:=by have:=b5.o;omega
 have a5:L<=35184372088832:=by omega
 have d4:(L:Int)<=35184372088832:=by omega
 have b8:((m:Int)+3)/4=(L:Int):=by omega
 have d5:(m:Int)<=4294967296:=by omega
 have d6:=AB.mk L a5;have HL:=vv P;have H1:qj (Own (a.alloc (.cells (madeCells #[.int .u32 0] L) 197)) a.heap.size 197 (List.replicate L 0)):=vv (Own.made a L 197);have H3:qj (qf a.heap.size a (a.alloc (.cells (madeCells #[.int .u32 0] L) 197))):=vv ((qc _ a).alloc lr _);clear a2 H P hm;go_wp2;clear b8;go_loopw [17] (fun t wr=>∃(i:Nat) (W:List Nat),t=.int .i64 i/\i<=m/\Own wr a.heap.size 197 W/\W.length=L/\val W=hi N (m-i)/\qf a.heap.size a wr) (fun t _=>m-(intOf t).toNat)
 case atStart=>exact⟨0,List.replicate L 0,rfl,k0d _,H1.o,k0Y,by rw[q0m,Nat.sub_zero,q9h a3.o.lt],H3.o⟩
 case round =>
  obtain⟨i,W,rfl,b9,c,z,f,l⟩:=hrel;have a0:=vv c;have a6:=vv z;have HB:=vv l;by_cases him:i<m
  ·obtain⟨k,Q⟩:=yx (m-1-i);have a7:val W=hi N (k+1):=by rw[f];congr 1;omega
   have d7:(m:Int)-1-(i:Int)=(k:Int):=by omega
   obtain⟨b,off,e,a8,a9⟩:=a3.o.cell (by omega);subst e;have b1:=(l.cell (p:=⟨b,off+i,qb⟩) a8).trans (a9 i him);rw[<- Q] at b1;obtain⟨q,hq⟩:=yx (k/4);have d8:q<L:=by have:=HL.o;omega
   have J:q<W.length:=by omega
   have d9:(k:Int)/4=(q:Int):=by omega
   have d0:(k:Int)<=4294967296:=by omega
   have d1:(q:Int)<(L:Int):=by omega
   obtain⟨r,hr⟩:=yx (k%4);have e0:(k:Int).tmod 4=(r:Int):=by rw[k2b (by omega)];omega
   have e1:IntKind.i64.wrap (q:Int)=(q:Int):=by rw[qk];omega
   have e3:(0:Int)<=(q:Int):=by omega
   obtain⟨s1,F,R,G⟩:=q4p c.2 J (show k=4*q+r by omega) (by omega) a7;have b2:=c.cell J;have e4:=c.frozen q;have e5:=c.lt;have S:=vv (c.set (x:=nth W q+bt N k*256^r) J F rfl);have c2:=qb9 N k;obtain⟨C,T⟩:=yx (bt N k);obtain⟨x,hx⟩:=yx (nth W q);rw[<- T,<- hx] at s1 F G S;rw[<- T] at R c2 b1;rw[<- hx] at b2;have e6:IntKind.u32.wrap (C:Int)=(C:Int):=by rw[ql];omega
   obtain⟨D,U⟩:=yx (C*256^r);rw[<- U] at s1 F R G S;obtain⟨s,hs⟩:=yx (8*r);have e7:IntKind.i64.wrap (8*(r:Int))=(s:Int):=by rw[qk];omega
   have e8:(0:Int)<=(s:Int):=by omega
   have d2:(s:Int)<=32:=by omega
   have e9:IntKind.u32.wrap ((C:Int)*2^s)=(D:Int):=by
    have e:(C:Int)*2^s=(D:Int):=by
     have e2:(2:Int)^s=((256^r:Nat):Int):=by rw[hs,k0v,Int.pow_mul];rfl
     rw[e2,U,k0a]
    rw[e,ql];omega
   have c3:qj (hi N k=hi N (m-(i+1))):=vv (by rw[Q];congr 1;omega);have c4:=vv G;clear a8 a9 l c a7 f z hr hq Q T hx U hs F R G;go_wp2;refine q02 (fun w'=>w'.cell? ⟨a.heap.size,q,qb⟩=qg (.int .u32 (x:Int))) 13
    (.still 0 (.still 1 (.still 2 (.still 3 (.still 4 (.still 5 (.still 6 (.still 7 (.still 8 (.still 9 (.still 10 (.still 11 (.still 12 .done))))))))))))) (by kernel_rfl) (by kernel_rfl) (fun _ _ d _ _ h=>by cases d<;>exact h) b2 (fun hS0=>?_)
   iterate 13
    refine q01 (v:=?_) rfl (by rfl) ?_ ?_;rotate_left
    ·intro w f0;go_simp;with_reducible rfl
    simp only[Act.put,sa,sb,sc]
   refine q0a ?_;go_wp2;go_roundw
   case rel=>exact⟨i+1,W.set q (x+D),by go_num,by omega,S.o,by rw[k0e];exact a6.o,c4.o.trans c3.o,(HB.o.drew).setCell lr _⟩
   case measure=>simp [intOf];omega
  ·obtain rfl:i=m:=by omega
   rw[k2B,q6y] at f;have f1:=vv f;have K:=a4.o.below l;have c1:=K.c0;have l1:=K.lt;have f2:=K.fz;have a1:(i:Int)<=(i:Int):=Int.le_refl _;have c5:=vv (qbi c.2 f (by rw[z];exact b7.o));obtain⟨V,j⟩:=yx (wr.setCell ⟨w.heap.size,0,qb⟩ (.slice (qg ⟨a.heap.size,0,qb⟩) L L));have E:V.cell? ⟨w.heap.size,0,qb⟩=qg (.slice (qg ⟨a.heap.size,0,qb⟩) L L):=by rw[j];exact q0t c1
   have c6:qj (Rd V (qg ⟨a.heap.size,0,qb⟩) L L (toL N)):=vv (by rw[<- c5.o,j];exact(a0.o.setOther (by show a.heap.size≠w.heap.size;have:=I.o;omega) _).rd a6.o.symm lr a5);have c7:qj (qf w.heap.size w V):=vv (by rw[j];exact(Z.o.trans ((b6.o.mono Z.o.size).trans (HB.o.mono (by have:=I.o;omega)))).setCell lr _);have c8:=vv j;have c9:=vv E;clear c f z l him b9 a1 j E;go_wp2;rw[<- c8.o];have E:=c9.o;exact qi (v:=q4w (qg ⟨a.heap.size,0,qb⟩) L L) (by simp [results,results303,go_sem,E]) rfl ⟨_,_,rfl,c6.o,Fr.at_ (by show w.heap.size<=a.heap.size;have:=I.o;omega),c7.o⟩
end Rtp
namespace Lex
open Go Go.RowKit R5
theorem q1l{neg:Bool}{n:Nat}{xs:List Nat}{x:Int}(h:twoOk neg n xs x=qh)(hn:n=0):x=0/\neg=qa:=by unfold twoOk at h;rw[if_pos hn] at h;simp only[k0C,k0I,Bool.not_eq_true'] at h;exact h.2
theorem zero_or(p:Nat):(p=0/\((p:Int)==0)=qh)\/(p≠0/\((p:Int)==0)=qa):=by
 rcases k04 p with h|h
 ·exact .inl ⟨h,by rw[h];rfl⟩
 ·exact .inr ⟨by omega,by rw[k02];omega⟩
theorem qaj(p:Nat):(p<=2251799813685247/\qe ((p:Int)<=2251799813685247)=qh)\/(¬p<=2251799813685247/\qe ((p:Int)<=2251799813685247)=qa):=by
 rcases k0M 2251799813685247 p with h|h
 ·exact .inr ⟨by omega,k00 (by omega)⟩
 ·exact .inl ⟨h,k03 (by omega)⟩
theorem qcV(kind:Nat)(neg dneg:Bool)(s:ByteArray)(x:Int)(hneg:Bool)(A:Option Addr)(n c:Nat)(xs:List Nat)(hx:Int)(p:Nat)(w:qm)(hr:Rd w A n c xs)(hmax:(s.size:Int)<=4611686018427387904)(he:s.toList.isEmpty=qa)(hd:dneg=qa):qn qd 51 #[numV kind neg dneg s x hneg A n c hx p] w fun e w'=>e=.returned (.int .i64 (q08 (q1C kind neg dneg s x hneg n xs hx p)))/\qf w.heap.size w w':=by
 obtain⟨a0,L⟩:=yx (q0w s x);obtain⟨r,t⟩:=yx (twoOk hneg n xs hx);obtain⟨y,M⟩:=yx (R11.noTwoB hneg n hx);obtain⟨V,l⟩:=yx (q1C kind neg dneg s x hneg n xs hx p);have Z:=vv fun w=>Dec.Check dneg s x w hmax
 have HT:=vv fun w' (h:qf w.heap.size w w')=>Exa.Check hneg A n c xs hx w' (hr.below h rfl)
 have td:=Dec.decErr_zero s x;have tt:=Exa.exaErr_zero hneg n xs hx;obtain⟨zd,N⟩:=yx (Dec.decErr s x);obtain⟨zt,O⟩:=yx (Exa.exaErr hneg n xs hx);rw[<- N,<- L] at td;rw[<- N] at Z;rw[<- O,<- t] at tt;rw[<- O] at HT;rw[<- l];unfold q1C at l;rw[<- L,<- t,<- M] at l;have m:=vv l;have g:=vv M;have U:=vv t;obtain⟨w0,u⟩:=yx (w.alloc (.cells #[.int .u8 (kind:Int),.bool neg,.bool dneg,.string s,.int .i64 x,.bool hneg,.slice A n c,.int .i64 hx,.int .u64 (p:Int)] 92));have W:qf w.heap.size w w0:=by rw[u];exact(qc _ w).alloc lr _
 have X:NumBox w0 w.heap.size kind neg dneg s x hneg A n c hx p:=by rw[u];exact NumBox.made w _ _ _ _ _ _ _ _ _ _ _ _
 have j:=vv X;have k:=vv W;have Y:=vv u;have P:=vv ((qc w.heap.size w).alloc (o:=.cells #[.int .u8 (kind:Int),.bool neg,.bool dneg,.string s,.int .i64 x,.bool hneg,.slice A n c,.int .i64 hx,.int .u64 (p:Int)] 92) lr);have a1:=hr.sm;clear u W X hr L t M l N O hmax;obtain⟨z,C,D,E,F,G,H,I,c8,J⟩:=j.o;subst hd;have q:qj (q1q qa s x=qa):=vv (by unfold q1q;rw[he];rfl);go_enter func51,ntmps51;by_cases hn:n=0
 focus
  have tn:((n:Int)==0)=qh:=by rw[hn];rfl
  have v:=vv hn;cases th:(hx==0)
  focus
   have Q:hx≠0:=by rw[k02] at th;exact th
   have g:qj (y=qa):=vv (by rw[g.o];unfold R11.noTwoB;rw[k00 Q];simp);have b:qj (r=qh->n≠0):=vv (fun ht _=>by rw[U.o] at ht;exact Q (q1l ht hn).1);clear hn Q
  rotate_left 1
  focus
   have R:hx=0:=by rw[k2r] at th;exact th
   cases hneg
   focus
    have g:qj (y=qh):=vv (by rw[g.o];unfold R11.noTwoB;rw[k03 hn,k03 R];rfl);clear R hn
   rotate_left 1
   focus
    have g:qj (y=qa):=vv (by rw[g.o];unfold R11.noTwoB;simp);have b:qj (r=qh->n≠0):=vv (fun ht _=>by rw[U.o] at ht;exact absurd (q1l ht hn).2 (by decide));clear hn R
 rotate_left 3
 focus
  have tn:((n:Int)==0)=qa:=by rw[k02];omega
  have g:qj (y=qa):=vv (by rw[g.o];unfold R11.noTwoB;rw[k00 hn];rfl);have b:qj (r=qh->n≠0):=vv (fun _=>hn);clear hn
 all_goals
  rcases(by omega:kind=1\/kind=2\/kind=3\/kind=4\/(kind≠1/\kind≠2/\kind≠3/\kind≠4)) with f|f|f|f|⟨q1,q2,q3,q4⟩
  ·have a:=vv f;have K:((kind:Int)==1)=qh:=by rw[f];rfl
   clear f;go_wp2_with fail;rw[<- Y.o];refine(Z.o _).mono ?_;rintro e w1 ⟨rfl,i⟩;have j:=vv (j.o.below i);have k:=vn k i;clear i z C D E F G H I c8 J;obtain⟨z,C,D,E,F,G,H,I,c8,J⟩:=j.o;cases a0<;>cases neg<;>rcases zero_or p with ⟨S,tp⟩|⟨S,tp⟩
   all_goals
    have d:=vv S;clear S;go_wp2;go_ret;exact⟨q0o (by rw[m.o,q.o,g.o];first|(simp [q08,a.o];done)|(simp [q08,a.o,d.o];done)|(simp [q08,a.o,d.o,v.o];done)|(simp [q08,a.o,b.o rfl];done)|(simp [q08,a.o,d.o,b.o rfl];done)|(simp [q08,a.o,b.o trivial];done)|(simp [q08,a.o,d.o,b.o trivial];done)),k.o⟩
  ·have a:=vv f;have K:((kind:Int)==1)=qa:=by rw[k02];omega
   have T:((kind:Int)==2)=qh:=by rw[f];rfl
   clear f;go_wp2_with fail;rw[<- Y.o];refine(HT.o _ k.o).mono ?_;rintro e w1 ⟨rfl,i⟩;have j:=vv (j.o.below i);have k:=vn k i;clear i z C D E F G H I c8 J;obtain⟨z,C,D,E,F,G,H,I,c8,J⟩:=j.o;cases r<;>(try cases hneg)<;>cases neg
   all_goals
    go_wp2;go_ret;exact⟨q0o (by rw[m.o,q.o,g.o];first|(simp [q08,a.o];done)|(simp [q08,a.o,d.o];done)|(simp [q08,a.o,d.o,v.o];done)|(simp [q08,a.o,b.o rfl];done)|(simp [q08,a.o,d.o,b.o rfl];done)|(simp [q08,a.o,b.o trivial];done)|(simp [q08,a.o,d.o,b.o trivial];done)),k.o⟩
  ·have a:=vv f;have K:((kind:Int)==1)=qa:=by rw[k02];omega
   have T:((kind:Int)==2)=qa:=by rw[k02];omega
   have t3:((kind:Int)==3)=qh:=by rw[f];rfl
   clear f;all_goals
    go_wp2;go_ret;exact⟨q0o (by rw[m.o,q.o,g.o];first|(simp [q08,a.o];done)|(simp [q08,a.o,d.o];done)|(simp [q08,a.o,d.o,v.o];done)|(simp [q08,a.o,b.o rfl];done)|(simp [q08,a.o,d.o,b.o rfl];done)|(simp [q08,a.o,b.o trivial];done)|(simp [q08,a.o,d.o,b.o trivial];done)),P.o⟩
  ·have a:=vv f;have K:((kind:Int)==1)=qa:=by rw[k02];omega
   have T:((kind:Int)==2)=qa:=by rw[k02];omega
   have t3:((kind:Int)==3)=qa:=by rw[k02];omega
   have t4:((kind:Int)==4)=qh:=by rw[f];rfl
   clear f;all_goals
    go_wp2;go_ret;exact⟨q0o (by rw[m.o,q.o,g.o];first|(simp [q08,a.o];done)|(simp [q08,a.o,d.o];done)|(simp [q08,a.o,d.o,v.o];done)|(simp [q08,a.o,b.o rfl];done)|(simp [q08,a.o,d.o,b.o rfl];done)|(simp [q08,a.o,b.o trivial];done)|(simp [q08,a.o,d.o,b.o trivial];done)),P.o⟩
  ·have K:((kind:Int)==1)=qa:=by rw[k02];omega
   have T:((kind:Int)==2)=qa:=by rw[k02];omega
   have t3:((kind:Int)==3)=qa:=by rw[k02];omega
   have t4:((kind:Int)==4)=qa:=by rw[k02];omega
   all_goals
    go_wp2;go_ret;exact⟨q0o (by rw[m.o,q.o,g.o];simp [q08,q1,q2,q3,q4]),P.o⟩
end Lex
end Go.Proofs.YthopehoklmgphaaGreatDoor
