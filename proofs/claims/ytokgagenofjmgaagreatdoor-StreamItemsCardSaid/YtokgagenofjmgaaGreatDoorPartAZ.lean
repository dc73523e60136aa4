/- Lemmas. -/
import Derived.Test.YtokgagenofjmgaaGreatDoorPartAY
set_option linter.all false
set_option maxHeartbeats 40000000
set_option maxRecDepth 100000
open Go.Proofs.Tryz
open Bool renaming false->qa,true->qc
open Go renaming RowKit.Below.refl->qb,bodyPost_ret->qj,World->qk,Calls->ql,IntKind.wrap_i64->qm,IntKind.wrap_u32->qn,Addr->qo
open Option renaming none->qd,some->qi
open Go.RowKit renaming Below->qe,Hid->qh
open Go.Proofs.Tryz renaming prog->qf
open Decidable renaming decide->qg
namespace Go.Proofs.YtokgagenofjmgaaGreatDoor
namespace Exa
open Go Go.RowKit R5
def exaErr(neg:Bool)(n:Nat)(xs:List Nat)(x:Int):Int:=
 if q1N n xs=qa then Nat_.natErr n xs else if twoOk neg n xs x then 0 else 40
theorem exaErr_zero(neg:Bool)(n:Nat)(xs:List Nat)(x:Int):(exaErr neg n xs x==0)=twoOk neg n xs x:=by
 unfold exaErr;cases h:q1N n xs
 ·rw[if_pos rfl,Nat_.natErr_zero,h];unfold twoOk;rw[h];rfl
 ·rw[if_neg (by decide)];cases twoOk neg n xs x<;>rfl
theorem qdM(A:Option qo)(c:Nat)(w:qk):ql qf 115 #[q4F A 0 c] w fun e w'=>e=.returned (.bool qc)/\qe w.heap.size w w':=none_ A 0 c w
theorem qaJ(A:Option qo)(n c:Nat)(w:qk)(h:0<n):ql qf 115 #[q4F A n c] w fun e w'=>e=.returned (.bool qa)/\qe w.heap.size w w':=by
 have e:((n:Int)==0)=qa:=by rw[k01];omega
 have:=none_ A n c w;rw[e] at this;exact this
theorem Check(neg:Bool)(A:Option qo)(n c:Nat)(xs:List Nat)(x:Int)(w:qk)(hr:Rd w A n c xs):ql qf 64 #[q5y neg A n c x] w fun e w'=>e=.returned (.int .i64 (exaErr neg n xs x))/\qe w.heap.size w w':=by
 have t:=vv fun w' (h:qe w.heap.size w w')=>Nat_.Check A n c xs w' (hr.below h rfl)
 obtain⟨T,H⟩:=yx (w.alloc (.cells #[.bool neg,.slice A n c,.int .i64 x] 80));have O:qe w.heap.size w T:=by rw[H];exact(qb _ w).alloc lr _
 have I:DyadBox T w.heap.size neg A n c x:=by rw[H];exact DyadBox.made w _ _ _ _ _ _
 have d:=vv I;have a:=vv O;have z:=vv H;have i:=I.c1;have j:=I.lt;clear H O I;cases hok:q1N n xs
 ·have l:qh (exaErr neg n xs x=Nat_.natErr n xs):=vv (by unfold exaErr;rw[if_pos hok]);obtain⟨v,u⟩:=yx (Nat_.natErr n xs);have Y:(v != 0)=qc:=by have:=Nat_.natErr_zero n xs;rw[<- u,hok] at this;rw[bne,this];rfl
  rw[<- u] at t l;clear u hok;go_enter func64,ntmps64;go_wp2_with fail;rw[<- z.o];refine(t.o _ a.o).mono ?_;rintro e D ⟨rfl,f⟩;have a:=vn a f;clear f;go_wp2;go_ret;exact⟨q0o l.o.symm,a.o⟩
 have l:qh (exaErr neg n xs x=if twoOk neg n xs x then 0 else 40):=vv (by unfold exaErr;rw[if_neg (by rw[hok];decide)]);have P:twoOk neg n xs x=(qg (x<=1073741824) && qg (-1073741824<=x) && (if n=0 then qg (x=0) && !neg else qg (nth xs 0%2=1))):=by unfold twoOk;rw[hok];rfl
 have y:=vv P;rw[Nat_.natErr_ok hok] at t;have U:=(R16.natOk_facts hok).1;have Z:(n:Int)<=16384:=by omega
 clear P U hok;rcases k05 n with E|E
 ·subst E;have r:=vv fun w=>qdM A c w
  cases neg
  ·cases tx:(x==0)
   ·have s:qh (exaErr qa 0 xs x=40):=vv (by
     have hx:x≠0:=by rw[k01] at tx;exact tx
     rw[l.o,y.o,if_pos rfl,k00 hx];simp)
    have a0:(x != 0)=qc:=by rw[bne,tx];rfl
    clear l y;go_enter func64,ntmps64;go_wp2_with fail;rw[<- z.o];refine(t.o _ a.o).mono ?_;rintro e D ⟨rfl,f⟩;have d:=vv (d.o.below f);have a:=vn a f;obtain⟨m,i,q,j⟩:=d.o;clear f;go_wp2_with fail;refine(r.o _).mono ?_;rintro e G ⟨rfl,g⟩;have d:=vv (d.o.below g);have a:=vn a g;obtain⟨m,i,q,j⟩:=d.o;clear g;go_wp2;go_ret;exact⟨q0o s.o.symm,a.o⟩
   ·have hx:x=0:=by rw[k2o] at tx;exact tx
    subst hx;have s:qh (exaErr qa 0 xs 0=0):=vv (by rw[l.o,y.o,if_pos rfl];rfl);clear l y;go_enter func64,ntmps64;go_wp2_with fail;rw[<- z.o];refine(t.o _ a.o).mono ?_;rintro e D ⟨rfl,f⟩;have d:=vv (d.o.below f);have a:=vn a f;obtain⟨m,i,q,j⟩:=d.o;clear f;go_wp2_with fail;refine(r.o _).mono ?_;rintro e G ⟨rfl,g⟩;have d:=vv (d.o.below g);have a:=vn a g;obtain⟨m,i,q,j⟩:=d.o;clear g;go_wp2_with fail;refine(r.o _).mono ?_;rintro e N ⟨rfl,k⟩;have d:=vv (d.o.below k);have a:=vn a k;obtain⟨m,i,q,j⟩:=d.o;clear k;go_wp2;go_ret;exact⟨q0o s.o.symm,a.o⟩
  ·have s:qh (exaErr qc 0 xs x=40):=vv (by rw[l.o,y.o,if_pos rfl];simp);clear l y;go_enter func64,ntmps64;go_wp2_with fail;rw[<- z.o];refine(t.o _ a.o).mono ?_;rintro e D ⟨rfl,f⟩;have d:=vv (d.o.below f);have a:=vn a f;obtain⟨m,i,q,j⟩:=d.o;clear f;go_wp2_with fail;refine(r.o _).mono ?_;rintro e G ⟨rfl,g⟩;have d:=vv (d.o.below g);have a:=vn a g;obtain⟨m,i,q,j⟩:=d.o;clear g;go_wp2;go_ret;exact⟨q0o s.o.symm,a.o⟩
 have r:=vv fun w=>qaJ A n c w E
 obtain⟨b,off,rfl,Q,R⟩:=hr.cell E;have L:=R 0 E;rw[k0W] at L;have J:=vv L;have F:=hr.nth_lt 0;have M:=vv Q;have C:qh (twoOk neg n xs x=(qg (nth xs 0%2=1) && !Dec.farB x)):=vv (by
  rw[y.o,if_neg (by omega)];unfold Dec.farB;by_cases q1:x < -1073741824
  ·rw[k02 q1,k00 (p:=-1073741824<=x) (by omega)];simp
  ·rw[k00 q1,k02 (p:=-1073741824<=x) (by omega)];by_cases q2:1073741824<x
   ·rw[k02 q2,k00 (p:=x<=1073741824) (by omega)];simp
   ·rw[k00 q2,k02 (p:=x<=1073741824) (by omega)];simp)
 have V:qg ((0:Int)<(n:Int))=qc:=k02 (by omega);clear y R hr E Q L;have K:=vv fun w=>far x w
 obtain⟨v,u⟩:=yx (nth xs 0);rw[<- u] at J C F;have S:qh (bits .and .u32 (v:Int) 1=((v%2:Nat):Int)):=vv (by have:=u32_and_nat v 1 F (by omega);rw[Nat.and_one_is_mod] at this;exact this);have a1:(0:Int)<(n:Int):=by simpa using V
 clear u;by_cases hp:v%2=0
 ·have s:qh (exaErr neg n xs x=40):=vv (by rw[l.o,C.o,k00 (p:=v%2=1) (by omega)];rfl);have W:(bits .and .u32 (v:Int) 1==0)=qc:=by rw[S.o,hp];rfl
  have X:((v:Int)%2==0)=qc:=by rw[k2o];omega
  clear hp l C F;go_enter func64,ntmps64;go_wp2_with fail;rw[<- z.o];refine(t.o _ a.o).mono ?_;rintro e D ⟨rfl,f⟩;have d:=vv (d.o.below f);have a:=vn a f;obtain⟨m,i,q,j⟩:=d.o;clear f;go_wp2_with fail;refine(r.o _).mono ?_;rintro e G ⟨rfl,g⟩;have d:=vv (d.o.below g);have a:=vn a g;obtain⟨m,i,q,j⟩:=d.o;clear g;go_wp2_with fail;refine(r.o _).mono ?_;rintro e N ⟨rfl,k⟩;have d:=vv (d.o.below k);have a:=vn a k;obtain⟨m,i,q,j⟩:=d.o;clear k;have u:=(a.o.cell (p:=⟨b,off,qd⟩) M.o).trans J.o;go_wp2;go_ret;exact⟨q0o s.o.symm,a.o⟩
 have W:(bits .and .u32 (v:Int) 1==0)=qa:=by rw[S.o,k01];omega
 have X:((v:Int)%2==0)=qa:=by rw[k01];omega
 cases hf:Dec.farB x
 ·rw[hf] at K;have s:qh (exaErr neg n xs x=0):=vv (by rw[l.o,C.o,hf,k02 (p:=v%2=1) (by omega)];rfl);clear hp l C F hf;go_enter func64,ntmps64;go_wp2_with fail;rw[<- z.o];refine(t.o _ a.o).mono ?_;rintro e D ⟨rfl,f⟩;have d:=vv (d.o.below f);have a:=vn a f;obtain⟨m,i,q,j⟩:=d.o;clear f;go_wp2_with fail;refine(r.o _).mono ?_;rintro e G ⟨rfl,g⟩;have d:=vv (d.o.below g);have a:=vn a g;obtain⟨m,i,q,j⟩:=d.o;clear g;go_wp2_with fail;refine(r.o _).mono ?_;rintro e N ⟨rfl,k⟩;have d:=vv (d.o.below k);have a:=vn a k;obtain⟨m,i,q,j⟩:=d.o;clear k;have u:=(a.o.cell (p:=⟨b,off,qd⟩) M.o).trans J.o;go_wp2_with fail;refine(K.o _).mono ?_;rintro e w' ⟨rfl,rfl⟩;go_wp2;go_ret;exact⟨q0o s.o.symm,a.o⟩
 ·rw[hf] at K;have s:qh (exaErr neg n xs x=40):=vv (by rw[l.o,C.o,hf,k02 (p:=v%2=1) (by omega)];rfl);clear hp l C F hf;go_enter func64,ntmps64;go_wp2_with fail;rw[<- z.o];refine(t.o _ a.o).mono ?_;rintro e D ⟨rfl,f⟩;have d:=vv (d.o.below f);have a:=vn a f;obtain⟨m,i,q,j⟩:=d.o;clear f;go_wp2_with fail;refine(r.o _).mono ?_;rintro e G ⟨rfl,g⟩;have d:=vv (d.o.below g);have a:=vn a g;obtain⟨m,i,q,j⟩:=d.o;clear g;go_wp2_with fail;refine(r.o _).mono ?_;rintro e N ⟨rfl,k⟩;have d:=vv (d.o.below k);have a:=vn a k;obtain⟨m,i,q,j⟩:=d.o;clear k;have u:=(a.o.cell (p:=⟨b,off,qd⟩) M.o).trans J.o;go_wp2_with fail;refine(K.o _).mono ?_;rintro e w' ⟨rfl,rfl⟩;go_wp2;go_ret;exact⟨q0o s.o.symm,a.o⟩
end Exa
namespace Nat_
open Go Go.RowKit R5
theorem Rd.cap{w:qk}{A:Option qo}{n c:Nat}{xs:List Nat}(h:Rd w A n c xs):Rd w A n n xs:=⟨h.len,lr,h.sm,h.lim,h.cell⟩
theorem q8y(A:Option qo)(n c:Nat)(xs:List Nat)(w:qk)(hr:Rd w A n c xs):ql qf 117 #[.slice A n c] w fun e w'=>∃A' m,e=.returned (q4F A' m m)/\Rd w' A' m m (toL (val xs))/\(∀a,A'=qi a->A=qi a)/\qe w.heap.size w w':=by
 have K:=hr.sm;have L:=hr.len;have M:=hr.le;have f:=(qb w.heap.size w).alloc (o:=.cells #[.slice qd 0 0] 78) lr;have l:=NatCell.made w 78;obtain⟨r,s⟩:=yx (w.alloc (.cells #[.slice qd 0 0] 78));rw[<- s] at f l;have g:=hr.below f rfl;have F:=vv s;have D:=vv f;have N:=vv g;have z:=vv hr;have E:=l.c0;have fz:=l.fz;have R:=l.lt;clear s l;go_enter func117,ntmps117;go_wp2_with fail;rw[<- F.o];go_loop [3] (fun t=>∃k:Nat,k<=n/\t=.int .i64 k/\∀i,k<=i->nth xs i=0) (fun t=>(intOf t).toNat)
 case atStart=>exact⟨n,lr,rfl,fun i hi=>q17 xs i (by omega)⟩
 case round =>
  obtain⟨k,S,rfl,q⟩:=hrel;have fin:∀m,m<=n->(∀i,m<=i->nth xs i=0)->(m=0\/nth xs (m-1)≠0)->Rd r A m c (toL (val xs)):=by intro m I d y;have e:=q1p hr.lim (n:=m) d (y.imp id fun h=>⟨by omega,h⟩);rw[<- e];exact g.take I
  have C:=vv fin;clear fin;rcases k05 k with rfl|O
  ·have u:=vv (C.o 0 (k0f _) q (.inl rfl));have x:=vv (D.o.setCell (p:=⟨w.heap.size,0,qd⟩) lr (.slice qd 0 0));have j:(r.setCell ⟨w.heap.size,0,qd⟩ (.slice qd 0 0)).cell? ⟨w.heap.size,0,qd⟩=qi (.slice qd 0 0):=q0t E;clear q g hr f;go_wp2;refine qj (v:=q4F qd 0 0) (by simp [results,results117,go_sem,j]) rfl ⟨qd,0,rfl,?_,fun a h=>(by cases h),x.o⟩;have e:toL (val xs)=[]:=k0r u.o.len;rw[e];exact Rd.nil _
  ·obtain⟨m,rfl⟩:∃m,k=m+1:=⟨k-1,by omega⟩;have G:=z.o;obtain⟨b,off,rfl,T,j⟩:=g.cell (by omega);have hx:=j m (by omega);clear j;by_cases d:nth xs m=0
   ·have y:(((nth xs m:Nat):Int)==0)=qc:=by rw[d];rfl
    have J:=vv d;clear d g hr f;go_wp2;go_round
    case rel=>exact⟨m,by omega,by go_num,fun i hi=>by
     rcases k2z hi with rfl|h
     ·exact J.o
     ·exact q i (by omega)⟩
    case measure=>simp [intOf]
   ·have y:(((nth xs m:Nat):Int)==0)=qa:=by rw[k01];omega
    have u:=vv (Rd.cap (C.o (m+1) (by omega) q (.inr d)));have P:b<w.heap.size:=by obtain⟨U,Q,e,h,_⟩:=z.o.cell (by omega);cases e;exact h
    have x:=vv (D.o.setCell (p:=⟨w.heap.size,0,qd⟩) lr (.slice (qi ⟨b,off,qd⟩) (m+1) (m+1)));have j:(r.setCell ⟨w.heap.size,0,qd⟩ (.slice (qi ⟨b,off,qd⟩) (m+1) (m+1))).cell? ⟨w.heap.size,0,qd⟩=qi (.slice (qi ⟨b,off,qd⟩) (m+1) (m+1)):=q0t E;have H:qh (Rd (r.setCell ⟨w.heap.size,0,qd⟩ (.slice (qi ⟨b,off,qd⟩) (m+1) (m+1))) (qi ⟨b,off,qd⟩) (m+1) (m+1) (toL (val xs))):=vv (u.o.other _ _ _ (fun a e=>by cases e;show b≠w.heap.size;omega));clear d q g hr f G;go_wp2;exact qj (v:=q4F (qi ⟨b,off,qd⟩) (m+1) (m+1)) (by simp [results,results117,go_sem,j]) rfl ⟨qi ⟨b,off,qd⟩,m+1,rfl,H.o,fun a h=>by simpa using h,x.o⟩
theorem Of1(w:qk):ql qf 65 #[.int .u64 1] w fun e w'=>∃A,e=.returned (q4F A 1 1)/\Rd w' A 1 1 (toL 1)/\qe w.heap.size w w':=by
 go_enter func65,ntmps65;go_wp2_with fail;obtain⟨g,h⟩:=R1.two_words (w.alloc (.cells #[.slice qd 0 0] 78)) 1 0 (by omega) (by omega) 187;have j:=(NatCell.made w 78).below h;have k:=(qb w.heap.size w).alloc (o:=.cells #[.slice qd 0 0] 78) lr;have u:=vv j;have x:=vv (k.trans (h.mono (by simp)));have l:(w.alloc (.cells #[.slice qd 0 0] 78)).heap.size=w.heap.size+1:=by simp
 rw[l] at g;clear h j k l;refine(q8y (qi ⟨w.heap.size+1,0,qd⟩) 2 2 [1,0] _ g).mono ?_;rintro e c ⟨b,m,rfl,i,n,d⟩;have y:m=1:=i.words.symm;subst y;have p:qh (Rd c b 1 1 (toL 1)):=vv i;have f:=vv (u.o.below d);have q:=vn x d;have z:=f.o.c0;have fz:=f.o.fz;have lt:=f.o.lt;have r:qh (Rd (c.setCell ⟨w.heap.size,0,qd⟩ (.slice b 1 1)) b 1 1 (toL 1)):=vv (p.o.other _ _ _ (fun a e=>by have:=n a e;cases this;simp));have s:qh (qe w.heap.size w (c.setCell ⟨w.heap.size,0,qd⟩ (.slice b 1 1))):=vv (q.o.setCell lr _);have t:(c.setCell ⟨w.heap.size,0,qd⟩ (.slice b 1 1)).cell? ⟨w.heap.size,0,qd⟩=qi (.slice b 1 1):=q0t z;clear d i n g;go_wp2;exact qj (v:=q4F b 1 1) (by simp [results,results65,go_sem,t]) rfl ⟨b,rfl,r.o,s.o⟩
end Nat_
namespace Rtp
open Go Go.RowKit R5
theorem qbs{W:List Nat}{N:Nat}(hl:Lim W)(hv:val W=N)(hw:W.length=words N):W=toL N:=q4q hw fun i _=>by rw[q1v,<- hv,q4h hl]
theorem q44(N:Nat):((bl N+7)/8+3)/4=words N:=by
 have b:=A.bl_words N;have a:N<4294967296^(((bl N+7)/8+3)/4):=by rw[qdB];exact k03 (A.lt_bytes N) (k06 (by decide) (by omega))
 have c:=q1s a;omega
theorem qaO(g o:Nat)(u:Int)(w:qk)(h:IntAt w g o u)(sN:bl u.natAbs<=4294967296):ql qf 298 #[.pointer (qi ⟨g,o,qd⟩)] w fun e w'=>∃A n,e=.returned (q4F A n n)/\Rd w' A n n (toL u.natAbs)/\Fr w.heap.size A/\qe w.heap.size w w':=by
 obtain⟨M,y⟩:=yx (w.alloc (.cells #[.slice qd 0 0] 78));have O:qe w.heap.size w M:=by rw[y];exact(qb _ w).alloc lr _
 have c0:NatCell M w.heap.size:=by rw[y];exact NatCell.made _ _
 have X:=vv (A.Bytes g o u M (h.below O) sN);have Y:=vv (q44 u.natAbs);obtain⟨N,hN⟩:=yx (u.natAbs);rw[<- hN] at X Y sN ⊢;have b3:=vv y;have Z:=vv O;have b4:=vv c0;have b5:=vv sN;clear h y O c0 sN hN;go_enter func298,ntmps298;go_wp2_with fail;rw[<- b3.o];refine X.o.mono ?_;rintro e a ⟨B,m,rfl,hm,a2,H⟩;have a3:=vv a2;have b6:=vv H;have a4:=vv (b4.o.below H);have I:qh (w.heap.size<a.heap.size):=vv a4.o.lt;obtain⟨L,P⟩:=yx ((m+3)/4);have b7:qh (L=words N):=vv (by rw[P,hm];exact Y.o);have d3:m<=4294967296:=by have:=b5.o;omega
 have a5:L<=35184372088832:=by omega
 have d4:(L:Int)<=35184372088832:=by omega
 have b8:((m:Int)+3)/4=(L:Int):=by omega
 have d5:(m:Int)<=4294967296:=by omega
 have d6:=AB.mk L a5;have HL:=vv P;have H1:qh (Own (a.alloc (.cells (madeCells #[.int .u32 0] L) 187)) a.heap.size 187 (List.replicate L 0)):=vv (Own.made a L 187);have H3:qh (qe a.heap.size a (a.alloc (.cells (madeCells #[.int .u32 0] L) 187))):=vv ((qb _ a).alloc lr _);clear a2 H P hm;go_wp2;clear b8;go_loopw [17] (fun t wr=>∃(i:Nat) (W:List Nat),t=.int .i64 i/\i<=m/\Own wr a.heap.size 187 W/\W.length=L/\val W=hi N (m-i)/\qe a.heap.size a wr) (fun t _=>m-(intOf t).toNat)
 case atStart=>exact⟨0,List.replicate L 0,rfl,k0f _,H1.o,k0V,by rw[q0m,Nat.sub_zero,q9m a3.o.lt],H3.o⟩
 case round =>
  obtain⟨i,W,rfl,b9,c,z,f,l⟩:=hrel;have a0:=vv c;have a6:=vv z;have HB:=vv l;by_cases him:i<m
  ·obtain⟨k,Q⟩:=yx (m-1-i);have a7:val W=hi N (k+1):=by rw[f];congr 1;omega
   have d7:(m:Int)-1-(i:Int)=(k:Int):=by omega
   obtain⟨b,off,e,a8,a9⟩:=a3.o.cell (by omega);subst e;have b1:=(l.cell (p:=⟨b,off+i,qd⟩) a8).trans (a9 i him);rw[<- Q] at b1;obtain⟨q,hq⟩:=yx (k/4);have d8:q<L:=by have:=HL.o;omega
   have J:q<W.length:=by omega
   have d9:(k:Int)/4=(q:Int):=by omega
   have d0:(k:Int)<=4294967296:=by omega
   have d1:(q:Int)<(L:Int):=by omega
   obtain⟨r,hr⟩:=yx (k%4);have e0:(k:Int).tmod 4=(r:Int):=by rw[k2b (by omega)];omega
   have e1:IntKind.i64.wrap (q:Int)=(q:Int):=by rw[qm];omega
   have e3:(0:Int)<=(q:Int):=by omega
   obtain⟨s1,F,R,G⟩:=q4z c.2 J (show k=4*q+r by omega) (by omega) a7;have b2:=c.cell J;have e4:=c.frozen q;have e5:=c.lt;have S:=vv (c.set (x:=nth W q+bt N k*256^r) J F rfl);have c2:=qbf N k;obtain⟨C,T⟩:=yx (bt N k);obtain⟨x,hx⟩:=yx (nth W q);rw[<- T,<- hx] at s1 F G S;rw[<- T] at R c2 b1;rw[<- hx] at b2;have e6:IntKind.u32.wrap (C:Int)=(C:Int):=by rw[qn];omega
   obtain⟨D,U⟩:=yx (C*256^r);rw[<- U] at s1 F R G S;obtain⟨s,hs⟩:=yx (8*r);have e7:IntKind.i64.wrap (8*(r:Int))=(s:Int):=by rw[qm];omega
   have e8:(0:Int)<=(s:Int):=by omega
   have d2:(s:Int)<=32:=by omega
   have e9:IntKind.u32.wrap ((C:Int)*2^s)=(D:Int):=by
    have e:(C:Int)*2^s=(D:Int):=by
     have e2:(2:Int)^s=((256^r:Nat):Int):=by rw[hs,k0v,Int.pow_mul];rfl
     rw[e2,U,k0b]
    rw[e,qn];omega
   have c3:qh (hi N k=hi N (m-(i+1))):=vv (by rw[Q];congr 1;omega);have c4:=vv G;clear a8 a9 l c a7 f z hr hq Q T hx U hs F R G;go_wp2;refine q02 (fun w'=>w'.cell? ⟨a.heap.size,q,qd⟩=qi (.int .u32 (x:Int))) 13
    (.still 0 (.still 1 (.still 2 (.still 3 (.still 4 (.still 5 (.still 6 (.still 7 (.still 8 (.still 9 (.still 10 (.still 11 (.still 12 .done))))))))))))) (by kernel_rfl) (by kernel_rfl) (fun _ _ d _ _ h=>by cases d<;>exact h) b2 (fun hS0=>?_)
   iterate 13
    refine q01 (v:=?_) rfl (by rfl) ?_ ?_;rotate_left
    ·intro w f0;go_simp;with_reducible rfl
    simp only[Act.put,sa,sb,sc]
   refine q09 ?_;go_wp2;go_roundw
   case rel=>exact⟨i+1,W.set q (x+D),by go_num,by omega,S.o,by rw[k0d];exact a6.o,c4.o.trans c3.o,(HB.o.drew).setCell lr _⟩
   case measure=>simp [intOf];omega
  ·obtain rfl:i=m:=by omega
   rw[k2M,q6D] at f;have f1:=vv f;have K:=a4.o.below l;have c1:=K.c0;have l1:=K.lt;have f2:=K.fz;have a1:(i:Int)<=(i:Int):=Int.le_refl _;have c5:=vv (qbs c.2 f (by rw[z];exact b7.o));obtain⟨V,j⟩:=yx (wr.setCell ⟨w.heap.size,0,qd⟩ (.slice (qi ⟨a.heap.size,0,qd⟩) L L));have E:V.cell? ⟨w.heap.size,0,qd⟩=qi (.slice (qi ⟨a.heap.size,0,qd⟩) L L):=by rw[j];exact q0t c1
   have c6:qh (Rd V (qi ⟨a.heap.size,0,qd⟩) L L (toL N)):=vv (by rw[<- c5.o,j];exact(a0.o.setOther (by show a.heap.size≠w.heap.size;have:=I.o;omega) _).rd a6.o.symm lr a5);have c7:qh (qe w.heap.size w V):=vv (by rw[j];exact(Z.o.trans ((b6.o.mono Z.o.size).trans (HB.o.mono (by have:=I.o;omega)))).setCell lr _);have c8:=vv j;have c9:=vv E;clear c f z l him b9 a1 j E;go_wp2;rw[<- c8.o];have E:=c9.o;exact qj (v:=q4F (qi ⟨a.heap.size,0,qd⟩) L L) (by simp [results,results298,go_sem,E]) rfl ⟨_,_,rfl,c6.o,Fr.at_ (by show w.heap.size<=a.heap.size;have:=I.o;omega),c7.o⟩
end Rtp
namespace Lex
open Go Go.RowKit R5
theorem q1o{neg:Bool}{n:Nat}{xs:List Nat}{x:Int}(h:twoOk neg n xs x=qc)(hn:n=0):x=0/\neg=qa:=by unfold twoOk at h;rw[if_pos hn] at h;simp only[k0B,k0I,Bool.not_eq_true'] at h;exact h.2
theorem zero_or(p:Nat):(p=0/\((p:Int)==0)=qc)\/(p≠0/\((p:Int)==0)=qa):=by
 rcases k05 p with h|h
 ·exact .inl ⟨h,by rw[h];rfl⟩
 ·exact .inr ⟨by omega,by rw[k01];omega⟩
theorem qar(p:Nat):(p<=2251799813685247/\qg ((p:Int)<=2251799813685247)=qc)\/(¬p<=2251799813685247/\qg ((p:Int)<=2251799813685247)=qa):=by
 rcases k0K 2251799813685247 p with h|h
 ·exact .inr ⟨by omega,k00 (by omega)⟩
 ·exact .inl ⟨h,k02 (by omega)⟩
theorem qd9(kind:Nat)(neg dneg:Bool)(s:ByteArray)(x:Int)(hneg:Bool)(A:Option qo)(n c:Nat)(xs:List Nat)(hx:Int)(p:Nat)(w:qk)(hr:Rd w A n c xs)(hmax:(s.size:Int)<=4611686018427387904)(he:s.toList.isEmpty=qa)(hd:dneg=qa):ql qf 46 #[numV kind neg dneg s x hneg A n c hx p] w fun e w'=>e=.returned (.int .i64 (q08 (q1H kind neg dneg s x hneg n xs hx p)))/\qe w.heap.size w w':=by
 obtain⟨a0,L⟩:=yx (q0v s x);obtain⟨r,t⟩:=yx (twoOk hneg n xs hx);obtain⟨y,M⟩:=yx (R11.noTwoB hneg n hx);obtain⟨V,l⟩:=yx (q1H kind neg dneg s x hneg n xs hx p);have Z:=vv fun w=>Dec.Check dneg s x w hmax
 have HT:=vv fun w' (h:qe w.heap.size w w')=>Exa.Check hneg A n c xs hx w' (hr.below h rfl)
 have td:=Dec.decErr_zero s x;have tt:=Exa.exaErr_zero hneg n xs hx;obtain⟨zd,N⟩:=yx (Dec.decErr s x);obtain⟨zt,O⟩:=yx (Exa.exaErr hneg n xs hx);rw[<- N,<- L] at td;rw[<- N] at Z;rw[<- O,<- t] at tt;rw[<- O] at HT;rw[<- l];unfold q1H at l;rw[<- L,<- t,<- M] at l;have m:=vv l;have g:=vv M;have U:=vv t;obtain⟨w0,u⟩:=yx (w.alloc (.cells #[.int .u8 (kind:Int),.bool neg,.bool dneg,.string s,.int .i64 x,.bool hneg,.slice A n c,.int .i64 hx,.int .u64 (p:Int)] 82));have W:qe w.heap.size w w0:=by rw[u];exact(qb _ w).alloc lr _
 have X:NumBox w0 w.heap.size kind neg dneg s x hneg A n c hx p:=by rw[u];exact NumBox.made w _ _ _ _ _ _ _ _ _ _ _ _
 have j:=vv X;have k:=vv W;have Y:=vv u;have P:=vv ((qb w.heap.size w).alloc (o:=.cells #[.int .u8 (kind:Int),.bool neg,.bool dneg,.string s,.int .i64 x,.bool hneg,.slice A n c,.int .i64 hx,.int .u64 (p:Int)] 82) lr);have a1:=hr.sm;clear u W X hr L t M l N O hmax;obtain⟨z,C,D,E,F,G,H,I,c8,J⟩:=j.o;subst hd;have q:qh (q1w qa s x=qa):=vv (by unfold q1w;rw[he];rfl);go_enter func46,ntmps46;by_cases hn:n=0
 focus
  have tn:((n:Int)==0)=qc:=by rw[hn];rfl
  have v:=vv hn;cases th:(hx==0)
  focus
   have Q:hx≠0:=by rw[k01] at th;exact th
   have g:qh (y=qa):=vv (by rw[g.o];unfold R11.noTwoB;rw[k00 Q];simp);have b:qh (r=qc->n≠0):=vv (fun ht _=>by rw[U.o] at ht;exact Q (q1o ht hn).1);clear hn Q
  rotate_left 1
  focus
   have R:hx=0:=by rw[k2o] at th;exact th
   cases hneg
   focus
    have g:qh (y=qc):=vv (by rw[g.o];unfold R11.noTwoB;rw[k02 hn,k02 R];rfl);clear R hn
   rotate_left 1
   focus
    have g:qh (y=qa):=vv (by rw[g.o];unfold R11.noTwoB;simp);have b:qh (r=qc->n≠0):=vv (fun ht _=>by rw[U.o] at ht;exact absurd (q1o ht hn).2 (by decide));clear hn R
 rotate_left 3
 focus
  have tn:((n:Int)==0)=qa:=by rw[k01];omega
  have g:qh (y=qa):=vv (by rw[g.o];unfold R11.noTwoB;rw[k00 hn];rfl);have b:qh (r=qc->n≠0):=vv (fun _=>hn);clear hn
 all_goals
  rcases(by omega:kind=1\/kind=2\/kind=3\/kind=4\/(kind≠1/\kind≠2/\kind≠3/\kind≠4)) with f|f|f|f|⟨q1,q2,q3,q4⟩
  ·have a:=vv f;have K:((kind:Int)==1)=qc:=by rw[f];rfl
   clear f;go_wp2_with fail;rw[<- Y.o];refine(Z.o _).mono ?_;rintro e w1 ⟨rfl,i⟩;have j:=vv (j.o.below i);have k:=vn k i;clear i z C D E F G H I c8 J;obtain⟨z,C,D,E,F,G,H,I,c8,J⟩:=j.o;cases a0<;>cases neg<;>rcases zero_or p with ⟨S,tp⟩|⟨S,tp⟩
   all_goals
    have d:=vv S;clear S;go_wp2;go_ret;exact⟨q0o (by rw[m.o,q.o,g.o];first|(simp [q08,a.o];done)|(simp [q08,a.o,d.o];done)|(simp [q08,a.o,d.o,v.o];done)|(simp [q08,a.o,b.o rfl];done)|(simp [q08,a.o,d.o,b.o rfl];done)|(simp [q08,a.o,b.o trivial];done)|(simp [q08,a.o,d.o,b.o trivial];done)),k.o⟩
  ·have a:=vv f;have K:((kind:Int)==1)=qa:=by rw[k01];omega
   have T:((kind:Int)==2)=qc:=by rw[f];rfl
   clear f;go_wp2_with fail;rw[<- Y.o];refine(HT.o _ k.o).mono ?_;rintro e w1 ⟨rfl,i⟩;have j:=vv (j.o.below i);have k:=vn k i;clear i z C D E F G H I c8 J;obtain⟨z,C,D,E,F,G,H,I,c8,J⟩:=j.o;cases r<;>(try cases hneg)<;>cases neg
   all_goals
    go_wp2;go_ret;exact⟨q0o (by rw[m.o,q.o,g.o];first|(simp [q08,a.o];done)|(simp [q08,a.o,d.o];done)|(simp [q08,a.o,d.o,v.o];done)|(simp [q08,a.o,b.o rfl];done)|(simp [q08,a.o,d.o,b.o rfl];done)|(simp [q08,a.o,b.o trivial];done)|(simp [q08,a.o,d.o,b.o trivial];done)),k.o⟩
  ·have a:=vv f;have K:((kind:Int)==1)=qa:=by rw[k01];omega
   have T:((kind:Int)==2)=qa:=by rw[k01];omega
   have t3:((kind:Int)==3)=qc:=by rw[f];rfl
   clear f;all_goals
    go_wp2;go_ret;exact⟨q0o (by rw[m.o,q.o,g.o];first|(simp [q08,a.o];done)|(simp [q08,a.o,d.o];done)|(simp [q08,a.o,d.o,v.o];done)|(simp [q08,a.o,b.o rfl];done)|(simp [q08,a.o,d.o,b.o rfl];done)|(simp [q08,a.o,b.o trivial];done)|(simp [q08,a.o,d.o,b.o trivial];done)),P.o⟩
  ·have a:=vv f;have K:((kind:Int)==1)=qa:=by rw[k01];omega
   have T:((kind:Int)==2)=qa:=by rw[k01];omega
   have t3:((kind:Int)==3)=qa:=by rw[k01];omega
   have t4:((kind:Int)==4)=qc:=by rw[f];rfl
   clear f;all_goals
    go_wp2;go_ret;exact⟨q0o (by rw[m.o,q.o,g.o];first|(simp [q08,a.o];done)|(simp [q08,a.o,d.o];done)|(simp [q08,a.o,d.o,v.o];done)|(simp [q08,a.o,b.o rfl];done)|(simp [q08,a.o,d.o,b.o rfl];done)|(simp [q08,a.o,b.o trivial];done)|(simp [q08,a.o,d.o,b.o trivial];done)),P.o⟩
  ·have K:((kind:Int)==1)=qa:=by rw[k01];omega
   have T:((kind:Int)==2)=qa:=by rw[k01];omega
   have t3:((kind:Int)==3)=qa:=by rw[k01];omega
   have t4:((kind:Int)==4)=qa:=by rw[k01];omega
   all_goals
    go_wp2;go_ret;exact⟨q0o (by rw[m.o,q.o,g.o];simp [q08,q1,q2,q3,q4]),P.o⟩
theorem qd8(kind:Nat)(neg dneg:Bool)(s:ByteArray)(x:Int)(hneg:Bool)(A:Option qo)(n c:Nat)(xs:List Nat)(hx:Int)(p:Nat)(w:qk)(hr:Rd w A n c xs)(hmax:(s.size:Int)<=4611686018427387904)(he:s.toList.isEmpty=qc)(hd:dneg=qa)(tx:(x==0)=qa):ql qf 46 #[numV kind neg dneg s x hneg A n c hx p] w fun e w'=>e=.returned (.int .i64 (q08 (q1H kind neg dneg s x hneg n xs hx p)))/\qe w.heap.size w w':=by
 obtain⟨a0,L⟩:=yx (q0v s x);obtain⟨r,t⟩:=yx (twoOk hneg n xs hx);obtain⟨y,M⟩:=yx (R11.noTwoB hneg n hx);obtain⟨V,l⟩:=yx (q1H kind neg dneg s x hneg n xs hx p);have Z:=vv fun w=>Dec.Check dneg s x w hmax
 have HT:=vv fun w' (h:qe w.heap.size w w')=>Exa.Check hneg A n c xs hx w' (hr.below h rfl)
 have td:=Dec.decErr_zero s x;have tt:=Exa.exaErr_zero hneg n xs hx;obtain⟨zd,N⟩:=yx (Dec.decErr s x);obtain⟨zt,O⟩:=yx (Exa.exaErr hneg n xs hx);rw[<- N,<- L] at td;rw[<- N] at Z;rw[<- O,<- t] at tt;rw[<- O] at HT;rw[<- l];unfold q1H at l;rw[<- L,<- t,<- M] at l;have m:=vv l;have g:=vv M;have U:=vv t;obtain⟨w0,u⟩:=yx (w.alloc (.cells #[.int .u8 (kind:Int),.bool neg,.bool dneg,.string s,.int .i64 x,.bool hneg,.slice A n c,.int .i64 hx,.int .u64 (p:Int)] 82));have W:qe w.heap.size w w0:=by rw[u];exact(qb _ w).alloc lr _
 have X:NumBox w0 w.heap.size kind neg dneg s x hneg A n c hx p:=by rw[u];exact NumBox.made w _ _ _ _ _ _ _ _ _ _ _ _
 have j:=vv X;have k:=vv W;have Y:=vv u;have P:=vv ((qb w.heap.size w).alloc (o:=.cells #[.int .u8 (kind:Int),.bool neg,.bool dneg,.string s,.int .i64 x,.bool hneg,.slice A n c,.int .i64 hx,.int .u64 (p:Int)] 82) lr);have a1:=hr.sm;clear u W X hr L t M l N O hmax;obtain⟨z,C,D,E,F,G,H,I,c8,J⟩:=j.o;subst hd;have q:qh (q1w qa s x=qa):=vv (by unfold q1w;rw[he,tx];rfl);go_enter func46,ntmps46;by_cases hn:n=0
 focus
  have tn:((n:Int)==0)=qc:=by rw[hn];rfl
  have v:=vv hn;cases th:(hx==0)
  focus
   have Q:hx≠0:=by rw[k01] at th;exact th
   have g:qh (y=qa):=vv (by rw[g.o];unfold R11.noTwoB;rw[k00 Q];simp);have b:qh (r=qc->n≠0):=vv (fun ht _=>by rw[U.o] at ht;exact Q (q1o ht hn).1);clear hn Q
  rotate_left 1
  focus
   have R:hx=0:=by rw[k2o] at th;exact th
   cases hneg
   focus
    have g:qh (y=qc):=vv (by rw[g.o];unfold R11.noTwoB;rw[k02 hn,k02 R];rfl);clear R hn
   rotate_left 1
   focus
    have g:qh (y=qa):=vv (by rw[g.o];unfold R11.noTwoB;simp);have b:qh (r=qc->n≠0):=vv (fun ht _=>by rw[U.o] at ht;exact absurd (q1o ht hn).2 (by decide));clear hn R
 rotate_left 3
 focus
  have tn:((n:Int)==0)=qa:=by rw[k01];omega
  have g:qh (y=qa):=vv (by rw[g.o];unfold R11.noTwoB;rw[k00 hn];rfl);have b:qh (r=qc->n≠0):=vv (fun _=>hn);clear hn
 all_goals
  rcases(by omega:kind=1\/kind=2\/kind=3\/kind=4\/(kind≠1/\kind≠2/\kind≠3/\kind≠4)) with f|f|f|f|⟨q1,q2,q3,q4⟩
  ·have a:=vv f;have K:((kind:Int)==1)=qc:=by rw[f];rfl
   clear f;go_wp2_with fail;rw[<- Y.o];refine(Z.o _).mono ?_;rintro e w1 ⟨rfl,i⟩;have j:=vv (j.o.below i);have k:=vn k i;clear i z C D E F G H I c8 J;obtain⟨z,C,D,E,F,G,H,I,c8,J⟩:=j.o;cases a0<;>cases neg<;>rcases zero_or p with ⟨S,tp⟩|⟨S,tp⟩
   all_goals
    have d:=vv S;clear S;go_wp2;go_ret;exact⟨q0o (by rw[m.o,q.o,g.o];first|(simp [q08,a.o];done)|(simp [q08,a.o,d.o];done)|(simp [q08,a.o,d.o,v.o];done)|(simp [q08,a.o,b.o rfl];done)|(simp [q08,a.o,d.o,b.o rfl];done)|(simp [q08,a.o,b.o trivial];done)|(simp [q08,a.o,d.o,b.o trivial];done)),k.o⟩
  ·have a:=vv f;have K:((kind:Int)==1)=qa:=by rw[k01];omega
   have T:((kind:Int)==2)=qc:=by rw[f];rfl
   clear f;go_wp2_with fail;rw[<- Y.o];refine(HT.o _ k.o).mono ?_;rintro e w1 ⟨rfl,i⟩;have j:=vv (j.o.below i);have k:=vn k i;clear i z C D E F G H I c8 J;obtain⟨z,C,D,E,F,G,H,I,c8,J⟩:=j.o;cases r<;>(try cases hneg)<;>cases neg
   all_goals
    go_wp2;go_ret;exact⟨q0o (by rw[m.o,q.o,g.o];first|(simp [q08,a.o];done)|(simp [q08,a.o,d.o];done)|(simp [q08,a.o,d.o,v.o];done)|(simp [q08,a.o,b.o rfl];done)|(simp [q08,a.o,d.o,b.o rfl];done)|(simp [q08,a.o,b.o trivial];done)|(simp [q08,a.o,d.o,b.o trivial];done)),k.o⟩
  ·have a:=vv f;have K:((kind:Int)==1)=qa:=by rw[k01];omega
   have T:((kind:Int)==2)=qa:=by rw[k01];omega
   have t3:((kind:Int)==3)=qc:=by rw[f];rfl
   clear f;all_goals
    go_wp2;go_ret;exact⟨q0o (by rw[m.o,q.o,g.o];first|(simp [q08,a.o];done)|(simp [q08,a.o,d.o];done)|(simp [q08,a.o,d.o,v.o];done)|(simp [q08,a.o,b.o rfl];done)|(simp [q08,a.o,d.o,b.o rfl];done)|(simp [q08,a.o,b.o trivial];done)|(simp [q08,a.o,d.o,b.o trivial];done)),P.o⟩
  ·have a:=vv f;have K:((kind:Int)==1)=qa:=by rw[k01];omega
   have T:((kind:Int)==2)=qa:=by rw[k01];omega
   have t3:((kind:Int)==3)=qa:=by rw[k01];omega
   have t4:((kind:Int)==4)=qc:=by rw[f];rfl
   clear f;all_goals
    go_wp2;go_ret;exact⟨q0o (by rw[m.o,q.o,g.o];first|(simp [q08,a.o];done)|(simp [q08,a.o,d.o];done)|(simp [q08,a.o,d.o,v.o];done)|(simp [q08,a.o,b.o rfl];done)|(simp [q08,a.o,d.o,b.o rfl];done)|(simp [q08,a.o,b.o trivial];done)|(simp [q08,a.o,d.o,b.o trivial];done)),P.o⟩
  ·have K:((kind:Int)==1)=qa:=by rw[k01];omega
   have T:((kind:Int)==2)=qa:=by rw[k01];omega
   have t3:((kind:Int)==3)=qa:=by rw[k01];omega
   have t4:((kind:Int)==4)=qa:=by rw[k01];omega
   all_goals
    go_wp2;go_ret;exact⟨q0o (by rw[m.o,q.o,g.o];simp [q08,q1,q2,q3,q4]),P.o⟩
theorem qd7(kind:Nat)(neg dneg:Bool)(s:ByteArray)(x:Int)(hneg:Bool)(A:Option qo)(n c:Nat)(xs:List Nat)(hx:Int)(p:Nat)(w:qk)(hr:Rd w A n c xs)(hmax:(s.size:Int)<=4611686018427387904)(he:s.toList.isEmpty=qc)(hd:dneg=qa)(tx:(x==0)=qc):ql qf 46 #[numV kind neg dneg s x hneg A n c hx p] w fun e w'=>e=.returned (.int .i64 (q08 (q1H kind neg dneg s x hneg n xs hx p)))/\qe w.heap.size w w':=by
 obtain⟨a0,N⟩:=yx (q0v s x);obtain⟨u,v⟩:=yx (twoOk hneg n xs hx);obtain⟨C,O⟩:=yx (R11.noTwoB hneg n hx);obtain⟨V,q⟩:=yx (q1H kind neg dneg s x hneg n xs hx p);have HD:=vv fun w=>Dec.Check dneg s x w hmax
 have HT:=vv fun w' (h:qe w.heap.size w w')=>Exa.Check hneg A n c xs hx w' (hr.below h rfl)
 have td:=Dec.decErr_zero s x;have tt:=Exa.exaErr_zero hneg n xs hx;obtain⟨zd,P⟩:=yx (Dec.decErr s x);obtain⟨zt,Q⟩:=yx (Exa.exaErr hneg n xs hx);rw[<- P,<- N] at td;rw[<- P] at HD;rw[<- Q,<- v] at tt;rw[<- Q] at HT;rw[<- q];unfold q1H at q;rw[<- N,<- v,<- O] at q;have r:=vv q;have i:=vv O;have W:=vv v;obtain⟨w0,y⟩:=yx (w.alloc (.cells #[.int .u8 (kind:Int),.bool neg,.bool dneg,.string s,.int .i64 x,.bool hneg,.slice A n c,.int .i64 hx,.int .u64 (p:Int)] 82));have X:qe w.heap.size w w0:=by rw[y];exact(qb _ w).alloc lr _
 have Y:NumBox w0 w.heap.size kind neg dneg s x hneg A n c hx p:=by rw[y];exact NumBox.made w _ _ _ _ _ _ _ _ _ _ _ _
 have k:=vv Y;have l:=vv X;have Z:=vv y;have R:=vv ((qb w.heap.size w).alloc (o:=.cells #[.int .u8 (kind:Int),.bool neg,.bool dneg,.string s,.int .i64 x,.bool hneg,.slice A n c,.int .i64 hx,.int .u64 (p:Int)] 82) lr);have a1:=hr.sm;clear y X Y hr N v O q P Q hmax;obtain⟨D,E,F,G,H,I,J,K,c8,L⟩:=k.o;subst hd;have t:qh (q1w qa s x=qc):=vv (by unfold q1w;rw[he,tx];rfl);go_enter func46,ntmps46;by_cases hn:n=0
 focus
  have tn:((n:Int)==0)=qc:=by rw[hn];rfl
  have z:=vv hn;cases th:(hx==0)
  focus
   have S:hx≠0:=by rw[k01] at th;exact th
   have i:qh (C=qa):=vv (by rw[i.o];unfold R11.noTwoB;rw[k00 S];simp);have d:qh (u=qc->n≠0):=vv (fun ht _=>by rw[W.o] at ht;exact S (q1o ht hn).1);clear hn S
  rotate_left 1
  focus
   have T:hx=0:=by rw[k2o] at th;exact th
   cases hneg
   focus
    have i:qh (C=qc):=vv (by rw[i.o];unfold R11.noTwoB;rw[k02 hn,k02 T];rfl);clear T hn
   rotate_left 1
   focus
    have i:qh (C=qa):=vv (by rw[i.o];unfold R11.noTwoB;simp);have d:qh (u=qc->n≠0):=vv (fun ht _=>by rw[W.o] at ht;exact absurd (q1o ht hn).2 (by decide));clear hn T
 rotate_left 3
 focus
  have tn:((n:Int)==0)=qa:=by rw[k01];omega
  have i:qh (C=qa):=vv (by rw[i.o];unfold R11.noTwoB;rw[k00 hn];rfl);have d:qh (u=qc->n≠0):=vv (fun _=>hn);clear hn
 all_goals
  rcases(by omega:kind=1\/kind=2\/kind=3\/kind=4\/(kind≠1/\kind≠2/\kind≠3/\kind≠4)) with f|f|f|f|⟨q1,q2,q3,q4⟩
  ·have a:=vv f;have M:((kind:Int)==1)=qc:=by rw[f];rfl
   clear f;go_wp2_with fail;rw[<- Z.o];refine(HD.o _).mono ?_;rintro e w1 ⟨rfl,j⟩;have k:=vv (k.o.below j);have l:=vn l j;clear j D E F G H I J K c8 L;obtain⟨D,E,F,G,H,I,J,K,c8,L⟩:=k.o;cases a0<;>cases neg<;>rcases zero_or p with ⟨g,m⟩|⟨g,m⟩
   all_goals
    have b:=vv g;clear g;go_wp2;go_ret;exact⟨q0o (by rw[r.o,t.o,i.o];first|(simp [q08,a.o];done)|(simp [q08,a.o,b.o];done)|(simp [q08,a.o,b.o,z.o];done)|(simp [q08,a.o,d.o rfl];done)|(simp [q08,a.o,b.o,d.o rfl];done)|(simp [q08,a.o,d.o trivial];done)|(simp [q08,a.o,b.o,d.o trivial];done)),l.o⟩
  ·have a:=vv f;have M:((kind:Int)==1)=qa:=by rw[k01];omega
   have U:((kind:Int)==2)=qc:=by rw[f];rfl
   clear f;go_wp2_with fail;rw[<- Z.o];refine(HT.o _ l.o).mono ?_;rintro e w1 ⟨rfl,j⟩;have k:=vv (k.o.below j);have l:=vn l j;clear j D E F G H I J K c8 L;obtain⟨D,E,F,G,H,I,J,K,c8,L⟩:=k.o;cases u<;>(try cases hneg)<;>cases neg<;>rcases zero_or p with ⟨g,m⟩|⟨g,m⟩
   all_goals
    have b:=vv g;clear g;go_wp2;go_ret;exact⟨q0o (by rw[r.o,t.o,i.o];first|(simp [q08,a.o];done)|(simp [q08,a.o,b.o];done)|(simp [q08,a.o,b.o,z.o];done)|(simp [q08,a.o,d.o rfl];done)|(simp [q08,a.o,b.o,d.o rfl];done)|(simp [q08,a.o,d.o trivial];done)|(simp [q08,a.o,b.o,d.o trivial];done)),l.o⟩
  ·have a:=vv f;have M:((kind:Int)==1)=qa:=by rw[k01];omega
   have U:((kind:Int)==2)=qa:=by rw[k01];omega
   have t3:((kind:Int)==3)=qc:=by rw[f];rfl
   clear f;rcases zero_or p with ⟨g,m⟩|⟨g,m⟩;all_goals
    have b:=vv g;clear g;go_wp2;go_ret;exact⟨q0o (by rw[r.o,t.o,i.o];first|(simp [q08,a.o];done)|(simp [q08,a.o,b.o];done)|(simp [q08,a.o,b.o,z.o];done)|(simp [q08,a.o,d.o rfl];done)|(simp [q08,a.o,b.o,d.o rfl];done)|(simp [q08,a.o,d.o trivial];done)|(simp [q08,a.o,b.o,d.o trivial];done)),R.o⟩
  ·have a:=vv f;have M:((kind:Int)==1)=qa:=by rw[k01];omega
   have U:((kind:Int)==2)=qa:=by rw[k01];omega
   have t3:((kind:Int)==3)=qa:=by rw[k01];omega
   have t4:((kind:Int)==4)=qc:=by rw[f];rfl
   clear f;rcases qar p with ⟨g,m⟩|⟨g,m⟩;all_goals
    have b:=vv g;clear g;go_wp2;go_ret;exact⟨q0o (by rw[r.o,t.o,i.o];first|(simp [q08,a.o];done)|(simp [q08,a.o,b.o];done)|(simp [q08,a.o,b.o,z.o];done)|(simp [q08,a.o,d.o rfl];done)|(simp [q08,a.o,b.o,d.o rfl];done)|(simp [q08,a.o,d.o trivial];done)|(simp [q08,a.o,b.o,d.o trivial];done)),R.o⟩
  ·have M:((kind:Int)==1)=qa:=by rw[k01];omega
   have U:((kind:Int)==2)=qa:=by rw[k01];omega
   have t3:((kind:Int)==3)=qa:=by rw[k01];omega
   have t4:((kind:Int)==4)=qa:=by rw[k01];omega
   all_goals
    go_wp2;go_ret;exact⟨q0o (by rw[r.o,t.o,i.o];simp [q08,q1,q2,q3,q4]),R.o⟩
theorem qd6(kind:Nat)(neg dneg:Bool)(s:ByteArray)(x:Int)(hneg:Bool)(A:Option qo)(n c:Nat)(xs:List Nat)(hx:Int)(p:Nat)(w:qk)(hr:Rd w A n c xs)(hmax:(s.size:Int)<=4611686018427387904)(hd:dneg=qc):ql qf 46 #[numV kind neg dneg s x hneg A n c hx p] w fun e w'=>e=.returned (.int .i64 (q08 (q1H kind neg dneg s x hneg n xs hx p)))/\qe w.heap.size w w':=by
 obtain⟨a0,L⟩:=yx (q0v s x);obtain⟨r,t⟩:=yx (twoOk hneg n xs hx);obtain⟨y,M⟩:=yx (R11.noTwoB hneg n hx);obtain⟨V,l⟩:=yx (q1H kind neg dneg s x hneg n xs hx p);have Z:=vv fun w=>Dec.Check dneg s x w hmax
 have HT:=vv fun w' (h:qe w.heap.size w w')=>Exa.Check hneg A n c xs hx w' (hr.below h rfl)
 have td:=Dec.decErr_zero s x;have tt:=Exa.exaErr_zero hneg n xs hx;obtain⟨zd,N⟩:=yx (Dec.decErr s x);obtain⟨zt,O⟩:=yx (Exa.exaErr hneg n xs hx);rw[<- N,<- L] at td;rw[<- N] at Z;rw[<- O,<- t] at tt;rw[<- O] at HT;rw[<- l];unfold q1H at l;rw[<- L,<- t,<- M] at l;have m:=vv l;have g:=vv M;have U:=vv t;obtain⟨w0,u⟩:=yx (w.alloc (.cells #[.int .u8 (kind:Int),.bool neg,.bool dneg,.string s,.int .i64 x,.bool hneg,.slice A n c,.int .i64 hx,.int .u64 (p:Int)] 82));have W:qe w.heap.size w w0:=by rw[u];exact(qb _ w).alloc lr _
 have X:NumBox w0 w.heap.size kind neg dneg s x hneg A n c hx p:=by rw[u];exact NumBox.made w _ _ _ _ _ _ _ _ _ _ _ _
 have j:=vv X;have k:=vv W;have Y:=vv u;have P:=vv ((qb w.heap.size w).alloc (o:=.cells #[.int .u8 (kind:Int),.bool neg,.bool dneg,.string s,.int .i64 x,.bool hneg,.slice A n c,.int .i64 hx,.int .u64 (p:Int)] 82) lr);have a1:=hr.sm;clear u W X hr L t M l N O hmax;obtain⟨z,C,D,E,F,G,H,I,c8,J⟩:=j.o;subst hd;have q:qh (q1w qc s x=qa):=vv (by unfold q1w;rfl);go_enter func46,ntmps46;by_cases hn:n=0
 focus
  have tn:((n:Int)==0)=qc:=by rw[hn];rfl
  have v:=vv hn;cases th:(hx==0)
  focus
   have Q:hx≠0:=by rw[k01] at th;exact th
   have g:qh (y=qa):=vv (by rw[g.o];unfold R11.noTwoB;rw[k00 Q];simp);have b:qh (r=qc->n≠0):=vv (fun ht _=>by rw[U.o] at ht;exact Q (q1o ht hn).1);clear hn Q
  rotate_left 1
  focus
   have R:hx=0:=by rw[k2o] at th;exact th
   cases hneg
   focus
    have g:qh (y=qc):=vv (by rw[g.o];unfold R11.noTwoB;rw[k02 hn,k02 R];rfl);clear R hn
   rotate_left 1
   focus
    have g:qh (y=qa):=vv (by rw[g.o];unfold R11.noTwoB;simp);have b:qh (r=qc->n≠0):=vv (fun ht _=>by rw[U.o] at ht;exact absurd (q1o ht hn).2 (by decide));clear hn R
 rotate_left 3
 focus
  have tn:((n:Int)==0)=qa:=by rw[k01];omega
  have g:qh (y=qa):=vv (by rw[g.o];unfold R11.noTwoB;rw[k00 hn];rfl);have b:qh (r=qc->n≠0):=vv (fun _=>hn);clear hn
 all_goals
  rcases(by omega:kind=1\/kind=2\/kind=3\/kind=4\/(kind≠1/\kind≠2/\kind≠3/\kind≠4)) with f|f|f|f|⟨q1,q2,q3,q4⟩
  ·have a:=vv f;have K:((kind:Int)==1)=qc:=by rw[f];rfl
   clear f;go_wp2_with fail;rw[<- Y.o];refine(Z.o _).mono ?_;rintro e w1 ⟨rfl,i⟩;have j:=vv (j.o.below i);have k:=vn k i;clear i z C D E F G H I c8 J;obtain⟨z,C,D,E,F,G,H,I,c8,J⟩:=j.o;cases a0<;>cases neg<;>rcases zero_or p with ⟨S,tp⟩|⟨S,tp⟩
   all_goals
    have d:=vv S;clear S;go_wp2;go_ret;exact⟨q0o (by rw[m.o,q.o,g.o];first|(simp [q08,a.o];done)|(simp [q08,a.o,d.o];done)|(simp [q08,a.o,d.o,v.o];done)|(simp [q08,a.o,b.o rfl];done)|(simp [q08,a.o,d.o,b.o rfl];done)|(simp [q08,a.o,b.o trivial];done)|(simp [q08,a.o,d.o,b.o trivial];done)),k.o⟩
  ·have a:=vv f;have K:((kind:Int)==1)=qa:=by rw[k01];omega
   have T:((kind:Int)==2)=qc:=by rw[f];rfl
   clear f;go_wp2_with fail;rw[<- Y.o];refine(HT.o _ k.o).mono ?_;rintro e w1 ⟨rfl,i⟩;have j:=vv (j.o.below i);have k:=vn k i;clear i z C D E F G H I c8 J;obtain⟨z,C,D,E,F,G,H,I,c8,J⟩:=j.o;cases r<;>(try cases hneg)<;>cases neg
   all_goals
    go_wp2;go_ret;exact⟨q0o (by rw[m.o,q.o,g.o];first|(simp [q08,a.o];done)|(simp [q08,a.o,d.o];done)|(simp [q08,a.o,d.o,v.o];done)|(simp [q08,a.o,b.o rfl];done)|(simp [q08,a.o,d.o,b.o rfl];done)|(simp [q08,a.o,b.o trivial];done)|(simp [q08,a.o,d.o,b.o trivial];done)),k.o⟩
  ·have a:=vv f;have K:((kind:Int)==1)=qa:=by rw[k01];omega
   have T:((kind:Int)==2)=qa:=by rw[k01];omega
   have t3:((kind:Int)==3)=qc:=by rw[f];rfl
   clear f;all_goals
    go_wp2;go_ret;exact⟨q0o (by rw[m.o,q.o,g.o];first|(simp [q08,a.o];done)|(simp [q08,a.o,d.o];done)|(simp [q08,a.o,d.o,v.o];done)|(simp [q08,a.o,b.o rfl];done)|(simp [q08,a.o,d.o,b.o rfl];done)|(simp [q08,a.o,b.o trivial];done)|(simp [q08,a.o,d.o,b.o trivial];done)),P.o⟩
  ·have a:=vv f;have K:((kind:Int)==1)=qa:=by rw[k01];omega
   have T:((kind:Int)==2)=qa:=by rw[k01];omega
   have t3:((kind:Int)==3)=qa:=by rw[k01];omega
   have t4:((kind:Int)==4)=qc:=by rw[f];rfl
   clear f;all_goals
    go_wp2;go_ret;exact⟨q0o (by rw[m.o,q.o,g.o];first|(simp [q08,a.o];done)|(simp [q08,a.o,d.o];done)|(simp [q08,a.o,d.o,v.o];done)|(simp [q08,a.o,b.o rfl];done)|(simp [q08,a.o,d.o,b.o rfl];done)|(simp [q08,a.o,b.o trivial];done)|(simp [q08,a.o,d.o,b.o trivial];done)),P.o⟩
  ·have K:((kind:Int)==1)=qa:=by rw[k01];omega
   have T:((kind:Int)==2)=qa:=by rw[k01];omega
   have t3:((kind:Int)==3)=qa:=by rw[k01];omega
   have t4:((kind:Int)==4)=qa:=by rw[k01];omega
   all_goals
    go_wp2;go_ret;exact⟨q0o (by rw[m.o,q.o,g.o];simp [q08,q1,q2,q3,q4]),P.o⟩
theorem Check(kind:Nat)(neg dneg:Bool)(s:ByteArray)(x:Int)(hneg:Bool)(A:Option qo)(n c:Nat)(xs:List Nat)(hx:Int)(p:Nat)(w:qk)(hr:Rd w A n c xs)(hmax:(s.size:Int)<=4611686018427387904):ql qf 46 #[numV kind neg dneg s x hneg A n c hx p] w fun e w'=>e=.returned (.int .i64 (q08 (q1H kind neg dneg s x hneg n xs hx p)))/\qe w.heap.size w w':=by
 cases hd:dneg
 ·cases he:s.toList.isEmpty
  ·exact qd9 kind neg qa s x hneg A n c xs hx p w hr hmax he rfl
  ·cases tx:(x==0)
   ·exact qd8 kind neg qa s x hneg A n c xs hx p w hr hmax he rfl tx
   ·exact qd7 kind neg qa s x hneg A n c xs hx p w hr hmax he rfl tx
 ·exact qd6 kind neg qc s x hneg A n c xs hx p w hr hmax rfl
end Lex
namespace Rtp
open Go Go.RowKit R5
theorem q5c(Ad:Option qo)(n c N:Nat)(w:qk)(hr:Rd w Ad n c (toL N))(hn:n<=1000000):ql qf 242 #[q4F Ad n c] w (q1x (N:Int) w):=by
 obtain⟨k,r⟩:=yx (w.alloc (.cells #[.slice Ad n c] 78));have b0:qe w.heap.size w k:=by rw[r];exact(qb _ w).alloc lr _
 have c0:k.cell? ⟨w.heap.size,0,qd⟩=qi (.slice Ad n c):=by rw[r];simp only[World.cell?];rw[heap_alloc_new];rfl
 have l0:w.heap.size<k.heap.size:=by rw[r];simp
 obtain⟨m,M⟩:=yx (4*n);have a1:m<=35184372088832:=by omega
 have e7:=A.mk8 m a1;have c6:4*(n:Int)=(m:Int):=by omega
 have e8:(m:Int)<=4000000:=by omega
 have e9:(n:Int)<=1000000:=by omega
 have a2:N<256^m:=by have:=q0l N;rw[hr.words,qdB,<- M] at this;exact this
 have O:=vv M;have c7:=vv a2;have HR:=vv hr;have c8:=vv r;have a3:=vv b0;have f0:=vv c0;have f5:=vv l0;have X:k.heap.size=w.heap.size+1:=by rw[r];simp
 have s:=q2Z.made k m 5;have Y:=(qb k.heap.size k).alloc (o:=.cells (madeCells #[.int .u8 0] m) 5) lr;rw[X] at s Y;have H1:=vv s;have H3:=vv Y;have f6:=vv X;clear s Y X;clear hr r b0 M a2;go_enter func242,ntmps242;go_wp2;rw[<- c8.o];clear c6 c0 l0;go_loopw [15] (fun t wr=>∃(i:Nat) (U:List Nat),t=.int .i64 i/\i<=n/\q2Z wr (w.heap.size+1) 5 U/\U.length=m/\(∀j,m-4*i<=j->j<m->nth U j=bt N (m-1-j))/\qe (w.heap.size+1) k wr) (fun t _=>n-(intOf t).toNat)
 case atStart=>exact⟨0,List.replicate m 0,rfl,k0f _,H1.o,k0V,fun j s h2=>absurd s (by omega),H3.o⟩
 case round =>
  obtain⟨i,U,rfl,a4,q,P,Q,u⟩:=hrel;have a0:=vv q;have a5:=vv P;have a6:=vv Q;have HB:=vv u;by_cases him:i<n
  ·obtain⟨b,off,e,a7,a8⟩:=HR.o.cell (by omega);subst e;have a9:b<w.heap.size+1:=by omega
   have c9:=(u.cell (p:=⟨b,off+i,qd⟩) a9).trans ((a3.o.cell (p:=⟨b,off+i,qd⟩) a7).trans (a8 i him));have b1:nth (toL N) i<4294967296:=HR.o.nth_lt i;have y:=q2H (q2y N) i 0 (by omega);have z:=q2H (q2y N) i 1 (by omega);have C:=q2H (q2y N) i 2 (by omega);have D:=q2H (q2y N) i 3 (by omega);rw[q06] at y z C D;rw[k0Q,k1H] at y;rw[k29] at z;rw[show 256^2=65536 from rfl] at C;rw[show 256^3=16777216 from rfl] at D;obtain⟨x,hx⟩:=yx (nth (toL N) i);obtain⟨f,R⟩:=yx (bt N (4*i+0));obtain⟨l,S⟩:=yx (bt N (4*i+1));obtain⟨v,T⟩:=yx (bt N (4*i+2));obtain⟨E,V⟩:=yx (bt N (4*i+3));rw[<- hx] at c9 b1 y z C D;rw[<- R] at y;rw[<- S] at z;rw[<- T] at C;rw[<- V] at D;have v0:(x:Int)%256=(f:Int):=by omega
   have v1:(x:Int)/256%256=(l:Int):=by omega
   have v2:(x:Int)/65536%256=(v:Int):=by omega
   have v3:(x:Int)/16777216=(E:Int):=by omega
   obtain⟨a,ha⟩:=yx (m-4*i);have d0:4<=a:=by have:=O.o;omega
   have d1:a<=m:=by omega
   obtain⟨p,hp⟩:=yx (a-4);have f7:(m:Int)-4*(i:Int)=(a:Int):=by have:=O.o;omega
   have q1:(a:Int)-1=((p+3:Nat):Int):=by omega
   have q2:(a:Int)-2=((p+2:Nat):Int):=by omega
   have q3:(a:Int)-3=((p+1:Nat):Int):=by omega
   have q4:(a:Int)-4=(p:Int):=by omega
   obtain⟨d,b2⟩:=yx (p+3);obtain⟨p2,b3⟩:=yx (p+2);obtain⟨g,b4⟩:=yx (p+1);rw[<- b2] at q1;rw[<- b3] at q2;rw[<- b4] at q3;have m1:(d:Int)<(m:Int):=by omega
   have m2:(p2:Int)<(m:Int):=by omega
   have m3:(g:Int)<(m:Int):=by omega
   have m4:(p:Int)<(m:Int):=by omega
   obtain⟨w1,I⟩:=yx (wr.setCell ⟨w.heap.size+1,d,qd⟩ (.int .u8 (f:Int)));obtain⟨w2,J⟩:=yx (w1.setCell ⟨w.heap.size+1,p2,qd⟩ (.int .u8 (l:Int)));obtain⟨w3,K⟩:=yx (w2.setCell ⟨w.heap.size+1,g,qd⟩ (.int .u8 (v:Int)));have F:q2Z w1 (w.heap.size+1) 5 (U.set d f):=by rw[I];exact q.set (by omega) rfl
   have G:q2Z w2 (w.heap.size+1) 5 ((U.set d f).set p2 l):=by rw[J];exact F.set (by rw[k0d];omega) rfl
   have H:q2Z w3 (w.heap.size+1) 5 (((U.set d f).set p2 l).set g v):=by rw[K];exact G.set (by simp only[k0d];omega) rfl
   have HS:=vv (H.set (i:=p) (x:=E) (by simp only[k0d];omega) rfl);have c1:=q.cell (i:=d) (by omega);have f1:=q.frozen d;have l1:=q.lt;have c2:=F.cell (i:=p2) (by simp only[k0d];omega);have f2:=F.frozen p2;have l2:=F.lt;have c3:=G.cell (i:=g) (by simp only[k0d];omega);have f3:=G.frozen g;have l3:=G.lt;have c4:=H.cell (i:=p) (by simp only[k0d];omega);have f4:=H.frozen p;have l4:=H.lt;have d2:qh (qe (w.heap.size+1) k (w3.setCell ⟨w.heap.size+1,p,qd⟩ (.int .u8 (E:Int)))):=vv (by rw[K,J,I];exact(((u.setCell lr _).setCell lr _).setCell lr _).setCell lr _);have d3:qh (∀j,m-4*(i+1)<=j->j<m->nth ((((U.set d f).set p2 l).set g v).set p E) j=bt N (m-1-j)):=vv (fun j s h2=>by
    rw[q1g _ p E j (by simp only[k0d];omega),q1g _ g v j (by simp only[k0d];omega),q1g _ p2 l j (by simp only[k0d];omega),q1g _ d f j (by omega)];have M:=O.o;by_cases e4:j=p
    ·rw[if_pos e4,V];congr 1;omega
    rw[if_neg e4];by_cases e3:j=g
    ·rw[if_pos e3,T];congr 1;omega
    rw[if_neg e3];by_cases e2:j=p2
    ·rw[if_pos e2,S];congr 1;omega
    rw[if_neg e2];by_cases e1:j=d
    ·rw[if_pos e1,R];congr 1;omega
    rw[if_neg e1];exact a6.o j (by omega) h2)
   obtain⟨z1,b6⟩:=yx (nth U d);obtain⟨z2,b7⟩:=yx (nth (U.set d f) p2);obtain⟨z3,b8⟩:=yx (nth ((U.set d f).set p2 l) g);obtain⟨z4,b9⟩:=yx (nth (((U.set d f).set p2 l).set g v) p);rw[<- b6] at c1;rw[<- b7] at c2;rw[<- b8] at c3;rw[<- b9] at c4;clear b6 b7 b8 b9;have d4:=vv I;have d5:=vv J;have d6:=vv K;have f8:(x:Int)<=4294967295:=by omega
   have f9:(i:Int)<(n:Int):=by omega
   have g0:(i:Int)<=1000000:=by omega
   have e6:(a:Int)<=4000000:=by omega
   clear a7 a9 a8 u q Q P hx R S T V y z C D b1 ha hp b2 b3 b4 I J K F G H a4 him d0 d1;go_wp2_with (first|rw[<- d4.o]|rw[<- d5.o]|rw[<- d6.o]);go_roundw
   case rel=>exact⟨i+1,_,by go_num,by omega,HS.o,by simp only[k0d];exact a5.o,d3.o,d2.o⟩
   case measure=>simp [intOf];omega
  ·obtain rfl:i=n:=by omega
   have d7:qh (Bd wr (qi ⟨w.heap.size+1,0,qd⟩) m m N):=vv (a0.o.bd a5.o.symm lr a1 c7.o (fun j h=>a6.o j (by have:=O.o;omega) h));have W:qh (qe w.heap.size w wr):=vv (a3.o.trans (u.mono (by omega)));obtain⟨Z,L⟩:=yx (wr.alloc (.cells #[.bool qa,.slice qd 0 0] 190));have b5:qe wr.heap.size wr Z:=by rw[L];exact(qb _ wr).alloc lr _
   have i5:IntAt Z wr.heap.size 0 0:=by rw[L];exact IntAt.zero wr _
   have d8:=vv (A.SetBytes wr.heap.size 0 0 _ m m N Z i5 (d7.o.below b5 rfl) (by omega));have g1:=vv i5;have d9:=vv L;have c5:=vn W b5;clear q Q P u him a4 L b5 i5;go_wp2_with fail;rw[<- d9.o];refine d8.o.mono ?_;rintro e w6 ⟨rfl,hI,hF⟩;have e0:=vv hI;have e5:qh (qe w.heap.size w w6):=vv (Fm.below c5.o hF c5.o.size W.o.size);clear hI hF;go_wp2;go_ret;exact⟨_,rfl,W.o.size,e0.o,e5.o⟩
end Rtp
end Go.Proofs.YtokgagenofjmgaaGreatDoor
