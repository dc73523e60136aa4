/- Lemmas. -/
import Derived.Test.YtabcgemembkkcaaGreatDoorMirrAV
set_option linter.all false
set_option maxHeartbeats 4000000
set_option maxRecDepth 100000
open Go.Proofs.Tryz
open Option renaming none->qa,some->qc
open Go.Proofs.Tryz renaming prog->qb
open Decidable renaming decide->qd
open Go.RowKit renaming Below->qe,Hid->qj
open Go renaming RowKit.Below.refl->qf,World->qg,Calls->qh
open Bool renaming false->qi
namespace Go.Proofs.YtabcgemembkkcaaGreatDoor
namespace A
open AB
open Go Go.RowKit
theorem qde:(Tryz.prog.info? 5).map (fun i=>(i.zero,i.size,i.bytes))=qc (qc (.int .u8 0),1,1):=by kernel_rfl
theorem mk8(n:Nat)(h:n<=35184372088832)(w:qg):(Instr.makeSlice 229 (.int .i64 (n:Int)) (.int .i64 (n:Int))).run qb w=.ok (.slice (qc ⟨w.heap.size,0,qa⟩) n n) (w.alloc (.cells (madeCells #[.int .u8 0] n) 5)):=run_make_row' (P:=qb) 229 5 (.int .u8 0) 1 underlying229 qde rfl .i64 .i64 n (by omega) (by omega) w
theorem lt_bytes(N:Nat):N<256^((bl N+7)/8):=by
 have h:(256:Nat)^((bl N+7)/8)=2^(8*((bl N+7)/8)):=by rw[k1k]
 rw[h];exact k02 (q0J N) (k04 (by decide) (by omega))
theorem bl_words(N:Nat):bl N<=32*words N:=q0A (by have h:=q0f N;rwa [show(4294967296:Nat)^words N=2^(32*words N) by rw[k1k]] at h)
theorem Bytes(g o:Nat)(u:Int)(w:qg)(h:IntAt w g o u)(sN:bl u.natAbs<=4294967296):qh qb 287 #[.pointer (qc ⟨g,o,qa⟩)] w fun e w'=>∃A m,e=.returned (.slice A m m)/\m=(bl u.natAbs+7)/8/\Bd w' A m m u.natAbs/\qe w.heap.size w w':=by
 have v:=vv fun w' (h:IntAt w' g o u)=>BitLen g o u w' h
 obtain⟨N,R⟩:=yx (u.natAbs);have F:=h.lt;obtain⟨A,n,c,h0,h1,d,S⟩:=h.ex;rw[<- R] at v sN d ⊢;obtain⟨m,T⟩:=yx ((bl N+7)/8);have Z:bl N<=32*n:=by have:=bl_words N;rwa [d.words] at this
 have y:=lt_bytes N;rw[<- T] at y ⊢;have G:m<=35184372088832:=by omega
 have b4:=mk8 m G;have H:((bl N:Int)+7)/8=(m:Int):=by omega
 obtain⟨b0,I⟩:=yx (bl N);rw[<- I] at v H sN;have b5:(b0:Int)<=4294967296:=by omega
 have b6:(m:Int)<=1000000000:=by omega
 have J:m<=4*n:=by omega
 have HI:=vv h;have V:=vv d;have HZ:=vv S;have a1:=vv y;have a2:=vv J;have b7:=vv d.sm;have H1:qj (q2f (w.alloc (.cells (madeCells #[.int .u8 0] m) 5)) w.heap.size 5 (List.replicate m 0)):=vv (q2f.made w m 5);have H3:qj (qe w.heap.size w (w.alloc (.cells (madeCells #[.int .u8 0] m) 5))):=vv ((qf _ w).alloc lr _);clear h d S T Z y J R I;go_enter func287,ntmps287;go_wp2_with fail;refine(v.o _ HI.o).mono ?_;rintro e w' ⟨rfl,rfl⟩;go_wp2;clear H;go_loopw [13] (fun t wr=>∃(i:Nat) (U:List Nat),t=.int .i64 i/\i<=m/\q2f wr w.heap.size 5 U/\U.length=m/\(∀j,j<i->nth U j=bt N (m-1-j))/\qe w.heap.size w wr) (fun t _=>m-(intOf t).toNat)
 case atStart=>exact⟨0,List.replicate m 0,rfl,k0x _,H1.o,k0I,fun j hj=>absurd hj (by omega),H3.o⟩
 case round =>
  obtain⟨i,U,rfl,K,a,z,D,f⟩:=hrel;have a0:=vv a;have L:=vv z;have M:=vv D;have W:=vv f;by_cases him:i<m
  ·obtain⟨k,X⟩:=yx (m-1-i);have b8:(m:Int)-1-(i:Int)=(k:Int):=by omega
   obtain⟨q,hq⟩:=yx (k/4);have a3:q<n:=by have:=a2.o;omega
   obtain⟨b,off,e,O,P⟩:=V.o.cell (by omega);subst e;have a4:=(f.cell (p:=⟨b,off+q,qa⟩) O).trans (P q a3);have j1:=(f.cell (p:=⟨g,o+1,qa⟩) F).trans h1;have a7:g<wr.heap.size:=k02 F f.size;have b9:(k:Int)/4=(q:Int):=by omega
   obtain⟨r,d⟩:=yx (k%4);have a5:(k:Int)%4=(r:Int):=by omega
   have a8:(k:Int).tmod 4=(r:Int):=by rw[k1X (by omega)];exact a5
   have c0:(r:Int)<=3:=by omega
   have a9:(q:Int)<(n:Int):=by omega
   have Q:nth (toL N) q<4294967296:=V.o.nth_lt q;have l:=q22 (q1U N) q r (by omega);rw[q04,show 4*q+r=k by omega] at l;obtain⟨x,hx⟩:=yx (nth (toL N) q);obtain⟨C,E⟩:=yx (bt N k);rw[<- hx] at a4 Q l;rw[<- E] at l;obtain⟨s,Y⟩:=yx (8*r);have c1:8*(r:Int)=(s:Int):=by omega
   have b1:(s:Int)<=24:=by omega
   have c2:(x:Int)/2^s%256=(C:Int):=by
    have e2:(2:Int)^s=((256^r:Nat):Int):=by rw[Y,k0D,Int.pow_mul];rfl
    rw[e2,<- l,k1Y,k1L];rfl
   have c3:=a.cell (i:=i) (by omega);have c4:=a.frozen i;have c5:=a.lt;have HS:=vv (a.set (i:=i) (x:=C) (by omega) rfl);have a6:qj (∀j,j<i+1->nth (U.set i C) j=bt N (m-1-j)):=vv (fun j hj=>by
    rw[q0D U i C j (by omega)];split
    ·rename_i e;rw[e,E,X]
    ·exact M.o j (by omega))
   have c6:(x:Int)<=4294967295:=by omega
   have b2:(k:Int)<=1000000000:=by omega
   have b3:(i:Int)<(m:Int):=by omega
   clear O P f a D z d hq X E hx Y l Q K him;go_wp2;go_roundw
   case rel=>exact⟨i+1,U.set i C,by go_num,by omega,HS.o,by rw[k07];exact L.o,a6.o,(W.o).setCell lr _⟩
   case measure=>simp [intOf];omega
  ·obtain rfl:i=m:=by omega
   clear a z D f him K;go_wp2;go_ret;exact⟨_,_,rfl,rfl,a0.o.bd L.o.symm lr G a1.o M.o,W.o⟩
end A
namespace A
open AB
open Go Go.RowKit
def Mul:=@AB.Mul 94
def added_same:=@AB.added_same 335
def added_ge:=@AB.added_ge 335
def added_lt:=@AB.added_lt 335
def added:=@AB.added 335
end A
namespace A
open AB
open Go Go.RowKit
def Add:=@AB.Add 292
def Sub:=@AB.Sub 319
def Lsh:=@AB.Lsh 172
def Uint64:=@AB.Uint64 269
def NewInt:=@AB.NewInt 93
end A
namespace A
open AB
open Go Go.RowKit
def Cmp_ff:=@AB.Cmp_ff 204
def Cmp_tt:=@AB.Cmp_tt 204
def Cmp_ne:=@AB.Cmp_ne 204
def Cmp:=@AB.Cmp 204
def Bit0:=@AB.Bit0 320
end A
namespace A
open AB
open Go Go.RowKit
def QuoRem:=@AB.QuoRem 318
def DivMod_up:=@AB.DivMod_up 260
def DivMod_low:=@AB.DivMod_low 260
def DivMod:=@AB.DivMod 260
def Div:=@AB.Div 231
end A
namespace A
open AB
open Go Go.RowKit
theorem Exp(g o gx ox gy oy:Nat)(v:Int)(x y:Nat)(w:qg)(h:IntAt w g o v)(hx:IntAt w gx ox (x:Int))(hy:IntAt w gy oy (y:Int))(hx0:0<x)(hy0:0<y)(hs:Sz (x^y))(hsy:Sz y):qh qb 92 #[.pointer (qc ⟨g,o,qa⟩),.pointer (qc ⟨gx,ox,qa⟩),.pointer (qc ⟨gy,oy,qa⟩),.pointer qa] w (q6m g o ((x^y:Nat):Int) w):=by
 have U:=vv h;have HX:=vv hx;have HY:=vv hy;have b6:=hy.lt;have E:qj (∀q,q<=y->Sz (x^q)):=vv fun q hq=>hs.mono (k04 hx0 hq)
 have a3:qj ((y:Int).sign=1):=vv (k0r (by omega));have a4:=vv hsy;have c0:=vv hx0;have a5:=vv hy0;have s:qj (∀(w:qg) t,qe w.heap.size w (w.alloc (.cells #[.bool qi,.slice qa 0 0] t))):=vv fun w t=>(qf _ w).alloc lr _
 have HZ:=vv (IntAt.zero w 142);clear h hx hy hs hsy hx0 hy0;go_enter func92,ntmps92;go_wp2_with fail;refine(NewInt 1 _ (by omega) (by omega)).mono ?_;rintro e r ⟨k,rfl,P,H,I⟩;have a6:=vv H;have J:=vv ((s.o w 142).trans (I.mono (Below.size (s.o w 142))));have a7:=vv (HZ.o.below I);have b7:=H.lt;have b8:w.heap.size<k:=by simp at P;omega
 have a0:=J.o.size;clear H I P;go_wp2_with fail;have K:=vv (J.o.trans ((s.o r 142).mono J.o.size));have Q:=vv (IntAt.zero r 142);refine(Set _ 0 gx ox 0 _ _ Q.o (HX.o.below K.o)).mono ?_;rintro e V c;have c:=c.f Q.o;have L:=vv (c.below K.o (K.o.size) a0);have a8:=vv ((a6.o.below (s.o r 142)).fs1 c.2.2 (by omega));have a9:=vv ((a7.o.below (s.o r 142)).fs1 c.2.2 (by omega));have b0:=vv c.2.1;obtain⟨rfl,-,-⟩:=c;have M:=vv (HY.o.below L.o);go_wp2_with fail;refine(Sign gy oy _ _ M.o).mono ?_;rintro e W ⟨rfl,rfl⟩;rw[a3.o];obtain⟨B,m,d,k0,k1,F,G⟩:=M.o.ex;have O:=vv F;have X:=F.words;have HM:=vv X;have c1:=F.sz a4.o;have a2:=M.o.lt;clear F G k0 X;go_wp2_with fail;refine(copied _ _ _ _ _ O.o).mono ?_;rintro e W ⟨rfl,Y,u⟩;have b1:qj (ExpInv w w.heap.size k r.heap.size (qc ⟨V.heap.size,0,qa⟩) m x y 0 W):=vv
  ⟨a9.o.below u,by simpa using a8.o.below u,b0.o.below u,Y.rd O.o.len.symm lr O.o.sm,fun a e=>by cases e;rfl,L.o.trans (u.mono L.o.size)⟩
 clear Y u;go_wp2;go_loopw [13] (fun i wr=>∃(z:Int) (j:Nat),i=.int .i64 z/\z+1=j/\j<=32*m/\ExpInv w w.heap.size k r.heap.size (qc ⟨V.heap.size,0,qa⟩) m x y (y/2^j) wr) (fun i _=>(intOf i+1).toNat)
 case atStart =>refine⟨_,32*m,rfl,by omega,lr,?_⟩;have R:=q0f y;have b2:words y=m:=HM.o;rw[b2,q1q] at R;rw[k0N R];exact b1.o
 case round =>
  obtain⟨z,j,rfl,G,hj,Z⟩:=hrel;have l:=vv Z;clear Z;rcases k01 j with rfl|b9
  ·obtain rfl:z = -1:=by omega
   clear G;go_wp2_with fail;have S:=l.o.o;rw[k0J,k1m] at S;refine(Set g o k 0 _ _ _ (U.o.below l.o.bel) S).mono ?_;rintro e w5 c;have hF:=vv ((c.f (U.o.below l.o.bel)).after l.o.bel);obtain⟨rfl,b3,-⟩:=c;go_wp2;go_ret;exact⟨rfl,b3,hF.o⟩
  ·obtain⟨i,rfl⟩:∃i,j=i+1:=⟨j-1,by omega⟩;obtain rfl:z=(i:Int):=by omega
   clear G;have i1:(0:Int)<=(i:Int):=by omega
   have i2:(i:Int)<32*(m:Int):=by omega
   go_wp2_with fail;refine(Mul k 0 k 0 k 0 _ _ _ _ l.o.o l.o.o l.o.o (by simpa using E.o _ (k0e _ _)) (by simpa using E.o _ (k0e _ _))).mono ?_;rintro e w4 c;have n:=vv (l.o.step c (q':=2*(y/2^(i+1))) (by rw[<- k08,<- k0h];congr 2;omega) (by omega) (by omega) (by omega));obtain⟨rfl,-,-⟩:=c;obtain⟨b,off,b4,c2,hc⟩:=n.o.words.cell (by omega);cases b4;have T:=hc (i/32) (by omega);rw[k0U] at T;clear hc;have C:=q3L (nth (toL y) (i/32)) (i%32) (n.o.words.nth_lt _);rw[q4Y] at C;have HQ:=vv (q2Q y i);by_cases hb:y/2^i%2=1
   ·rw[k03 hb] at C;have D:qj (y/2^i=2*(y/2^(i+1))+1):=vv (by have:=HQ.o;omega);clear hb;go_wp2_with fail;refine(Mul k 0 k 0 r.heap.size 0 _ _ _ _ n.o.o n.o.o n.o.base (by simpa using E.o _ (by have:=k0e y (2^i);have:=D.o;omega)) (by simpa using E.o 1 a5.o)).mono ?_;rintro e w5 c;have p:=vv (n.o.step c (q':=y/2^i) (by rw[D.o,k0h x _ 1,k23,k08]) (by omega) (by omega) (by omega));obtain⟨rfl,-,-⟩:=c;obtain⟨A5,c5,b5⟩:=p.o.by_.nil;have a1:=p.o.by_.lt;clear T C;go_wp2;go_roundw
    case rel=>exact⟨_,i,rfl,by omega,by omega,p.o⟩
    case measure=>simp [intOf]
   ·rw[k00 hb] at C;have D:qj (y/2^i=2*(y/2^(i+1))):=vv (by have:=HQ.o;omega);clear hb;have N:=n.o;rw[<- D.o] at N;have p:=vv N;obtain⟨A5,c5,b5⟩:=p.o.by_.nil;have a1:=p.o.by_.lt;clear N;go_wp2;go_roundw
    case rel=>exact⟨_,i,rfl,by omega,by omega,p.o⟩
    case measure=>simp [intOf]
end A
namespace A
open AB
open Go Go.RowKit
theorem Exp0(g o gx ox gy oy:Nat)(v x:Int)(w:qg)(h:IntAt w g o v)(hx:IntAt w gx ox x)(hy:IntAt w gy oy 0):qh qb 92 #[.pointer (qc ⟨g,o,qa⟩),.pointer (qc ⟨gx,ox,qa⟩),.pointer (qc ⟨gy,oy,qa⟩),.pointer qa] w (q6m g o 1 w):=by
 have q:=vv h;have E:=vv hx;have F:=vv hy;have I:=hy.lt;have b:qj (∀(w:qg) t,qe w.heap.size w (w.alloc (.cells #[.bool qi,.slice qa 0 0] t))):=vv fun w t=>(qf _ w).alloc lr _
 have G:=vv (IntAt.zero w 142);clear h hx hy;go_enter func92,ntmps92;go_wp2_with fail;refine(NewInt 1 _ (by omega) (by omega)).mono ?_;rintro e d ⟨r,rfl,m,i,j⟩;have s:=vv i;have k:=vv ((b.o w 142).trans (j.mono (Below.size (b.o w 142))));have u:=vv (G.o.below j);have J:=i.lt;have K:w.heap.size<r:=by simp at m;omega
 have y:=k.o.size;clear i j m;go_wp2_with fail;have l:=vv (k.o.trans ((b.o d 142).mono k.o.size));have n:=vv (IntAt.zero d 142);refine(Set _ 0 gx ox 0 _ _ n.o (E.o.below l.o)).mono ?_;rintro e N a;have a:=a.f n.o;have c:=vv (a.below l.o (l.o.size) y);have z:=vv ((s.o.below (b.o d 142)).fs1 a.2.2 (by omega));have p:=vv ((u.o.below (b.o d 142)).fs1 a.2.2 (by omega));obtain⟨rfl,-,-⟩:=a;have C:=vv (F.o.below c.o);go_wp2_with fail;refine(Sign gy oy _ _ C.o).mono ?_;rintro e O ⟨rfl,rfl⟩;rw[Int.sign_zero];obtain⟨P,Q,L⟩:=p.o.nil;have M:=p.o.lt;go_wp2_with fail;refine(Set g o r 0 _ _ _ (q.o.below c.o) z.o).mono ?_;rintro e R a;have H:=vv ((a.f (q.o.below c.o)).after c.o);obtain⟨rfl,D,-⟩:=a;go_wp2;go_ret;exact⟨rfl,D,H.o⟩
end A
namespace A
open AB
open Go Go.RowKit
def below:=@AB.below 279
def SetInt:=@AB.SetInt 228
def Num:=@AB.Num 211
theorem Denom(g:Nat)(p:Int)(d:Nat)(w:qg)(h:RatAt w g p d):qh qb 203 #[.pointer (qc ⟨g,0,qa⟩)] w (q19 (ld p d:Nat) w):=by
 have z:=h.lt;have i:qj (∀t,qe w.heap.size w (w.alloc (.cells #[.bool qi,.slice qa 0 0] t))):=vv fun t=>(qf _ w).alloc lr _
 have s:=vv h;clear h;go_enter func203,ntmps203;go_wp2_with fail;refine(below g p d _ (s.o.below (i.o _))).mono ?_;rintro e C ⟨A,n,c,rfl,l,D,b⟩;have u:=vv ((IntAt.zero w 142).below b);have j:=vv l;have q:=vv ((i.o 142).trans (b.mono (i.o _).size));clear l b;go_wp2_with fail;refine(copied _ _ _ _ _ j.o).mono ?_;rintro e E ⟨rfl,m,f⟩;have v:=vv m;have r:=vv (u.o.below f);have k:=vn q f;clear m f;go_wp2_with fail;refine(set_of _ 0 0 (ld p d:Nat) _ _ n n (ld p d) _ r.o (v.o.rd j.o.len.symm lr j.o.sm) (fun a e=>by cases e;rfl) rfl (q2N (by omega))).mono ?_;rintro e F ⟨rfl,x,y⟩;go_wp2;go_ret;exact⟨_,rfl,lr,x,y.below k.o k.o.size lr⟩
def RSign:=@AB.RSign 212
end A
namespace A
open AB
open Go Go.RowKit
def Rset_zero:=@AB.Rset_zero 214
theorem q4c(g:Nat)(b:Bool)(A B:Option Addr)(n c m d:Nat)(xs ys:List Nat)(w:qg)(h:RatSh w g)(ha:Rd w A n c xs)(hb:Rd w B m d ys)(hD:0<val ys)(h0:0<val xs)(hza:∀a,A=qc a->a.off=0)(hzb:∀a,B=qc a->a.off=0)
  (hst:Std w) (hn:n<549755813888) (hm:m<549755813888) :
  qh qb 214 #[.pointer (qc ⟨g,0,qa⟩),.bool b,.slice A n c,.slice B m d] w (q1X g (sg b (val xs)) (val ys) w):=by
 have HH:=vv h;obtain⟨v,z⟩:=h.int;have Q:=vv z;have b9:=z.lt;have HA:=vv (trim A n c xs w ha);have HB:=vv (trim B m d ys w hb);have HD:=vv hD;have H0:=vv h0;have X:=vv hst;have Y:=vv ha.lim;have Z:=vv hb.lim;have a3:=vv ha.len;have a4:=vv hb.len;have C:=vv (q0e (n:=val xs) hD);have E:=vv (q9h (b:=b) (N:=val xs) hD);have F:qj (0<val ys/Nat.gcd (val xs) (val ys)):=vv (k1e (k13 hD (k0z _ _)) C.o);clear z h ha hb hD h0 hst;go_enter func214,ntmps214;go_wp2_with fail;refine HA.o.mono ?_;rintro e w' ⟨l,rfl,rfl,i⟩;have c0:l<=n:=i.trim_le Y.o (by rw[a3.o];exact lr);have c3:0<l:=by
  rcases k01 l with e|e
  ·have:=i.words;rw[e] at this;have:=q06.1 this;have:=H0.o;omega
  ·exact e
 have c5:=i.sm;have R:=vv i;clear i;go_wp2_with fail;refine HB.o.mono ?_;rintro e w' ⟨D,rfl,rfl,i⟩;have c6:D<=m:=i.trim_le Z.o (by rw[a4.o];exact lr);have G:=vv i;clear i;have c7:((l:Int)==0)=qi:=by simp;omega
 go_wp2_with fail;refine(q1I A B l D c d _ _ _ R.o G.o X.o (by omega) (by omega)).mono ?_;rintro e w1 ⟨S,T,U,rfl,V,a5,y⟩;have H:=vv V;have I:=vv y;have a6:=vv (R.o.below y rfl);have a1:=vv (G.o.below y rfl);clear V;go_wp2_with fail;refine q02 (fun _=>True) 7
  (.still 0 (.still 1 (.still 2 (.still 3 (.still 4 (.still 5 (.one 6 .done))))))) (by kernel_rfl) (by kernel_rfl) (fun _ _ d _ _ h=>by cases d<;>exact h) trivial (fun hS0=>?_)
 clear hS0
 iterate 6
  refine q01 (v:=?_) rfl (by rfl) ?_ ?_;rotate_left
  ·intro w c8;go_simp;with_reducible rfl
  simp only[Act.put,sa,sb,sc]
 refine q03 rfl (by rfl) (fun K hK=>?_);go_simp;refine(by_ A S l T c U _ _ _ a6.o.drew H.o.drew C.o (by omega)).mono ?_;rintro e w2 ⟨W,k2,c2,rfl,q,J,r⟩;have s:qj (qe w.heap.size w w2):=vv ((q05 I.o).trans (r.mono (by simpa using I.o.size)));have L:∀a,W=qc a->a.off=0:=fun a e=>by
  rcases J with j|j
  ·exact(j a e).2
  ·exact hza a (j ▸ e)
 have HQ:=vv q;have a7:=vv L;have a8:=vv (H.o.drew.below r rfl);have a0:=vv (a1.o.drew.below r rfl);clear q L J r;go_wp2_with fail;refine hK.out _ _ trivial (fun a2=>?_);clear hK;refine q07 ?_;go_wp2_with fail;refine(set_of g 0 v (sg b (val xs/Nat.gcd (val xs) (val ys))) _ W k2 c2 _ _ (Q.o.below s.o) HQ.o a7.o (q0z _ _) (q1d _ _)).mono ?_;rintro e w3 k;have k:=k.f (Q.o.below s.o);have a9:=vv k.2.2;have b0:=vv ((HH.o.below s.o).num k);have b1:=vv (a8.o.fs (fun a e=>(a5 a e).2) k.2.2);have b2:=vv (a0.o.fs hzb k.2.2);obtain⟨rfl,-,-⟩:=k;go_wp2_with fail;refine(by_ B S D T d U _ _ _ b2.o b1.o C.o (by omega)).mono ?_;rintro e w4 ⟨A4,k4,c4,rfl,q,M,t⟩;have O:∀a,A4=qc a->a.off=0:=fun a e=>by
  rcases M with j|j
  ·exact(j a e).2
  ·exact hzb a (j ▸ e)
 have b3:=vv q;have b4:=vv O;obtain⟨hi,x,hx⟩:=b0.o;have u:=hi.below t;have b5:=(t.cell (p:=⟨g,2,qa⟩) hi.lt).trans hx;have b8:=u.lt;have c9:=u.fz 2;have P:=vv u;have b6:=vv b5;have b7:qj (Fs [(g,0,2)] w w4):=vv (((a9.o.after s.o).trans (Fs.of_nil t)).drop (fun p hp _=>by simpa using hp) (fun p hp=>by simpa using hp));clear q O M t hi u hx;go_wp2;go_ret;refine⟨rfl,RatAt.made P.o ⟨x,b6.o⟩ (b3.o.den F.o b4.o) HD.o F.o E.o.1 E.o.2,fs3 ?_⟩;exact b7.o.trans (Fs.set2 P.o _)
end A
namespace A
open AB
open Go Go.RowKit
theorem q9B(g:Nat)(b:Bool)(A B:Option Addr)(n c m d:Nat)(xs ys:List Nat)(w:qg)(h:RatSh w g)(ha:Rd w A n c xs)(hb:Rd w B m d ys)(hD:0<val ys)(hza:∀a,A=qc a->a.off=0)(hzb:∀a,B=qc a->a.off=0)
  (hst:Std w) (hn:n<549755813888) (hm:m<549755813888) :
  qh qb 214 #[.pointer (qc ⟨g,0,qa⟩),.bool b,.slice A n c,.slice B m d] w (q1X g (sg b (val xs)) (val ys) w):=by
 rcases k01 (val xs) with e|e
 ·exact Rset_zero g b A B n c m d xs ys w h ha hb hD e
 ·exact q4c g b A B n c m d xs ys w h ha hb hD e hza hzb hst hn hm
theorem SetFrac(g gx gy:Nat)(u:Int)(D:Nat)(w:qg)(h:RatSh w g)(hx:IntAt w gx 0 u)(hy:IntAt w gy 0 (D:Int))(hD:0<D)(hst:Std w)(hn:Sz u.natAbs)(hm:Sz D):qh qb 122 #[.pointer (qc ⟨g,0,qa⟩),.pointer (qc ⟨gx,0,qa⟩),.pointer (qc ⟨gy,0,qa⟩)] w (q1X g u D w):=by
 have r:=hx.lt;have s:=hy.lt;obtain⟨A,n,c,F,G,H,hz⟩:=hx.ex;obtain⟨B,m,d,y,I,P,hy⟩:=hy.ex;rw[k00 (by omega)] at y;have C:Rd w B m d (toL D):=P;have J:=vv H;have L:=vv C;have HH:=vv h;have R:=vv hst;have HD:=vv hD;have HN:=vv (H.sz hn);have HM:=vv (C.sz hm);clear H hz P C hy h hx hn hm hst hD;have fin:∀i b k l,qe w.heap.size w i->qe i.heap.size i b->Rd b k n n (toL u.natAbs)->Rd b l m m (toL D)->(∀a,k=qc a->a.off=0)->(∀a,l=qc a->a.off=0) ->qh qb 214 #[.pointer (qc ⟨g,0,qa⟩),.bool (qd (u<0)),.slice k n n,.slice l m m] b (q1X g u D w):=by intro i b k l N S ha hb T U;have E:=N.trans (S.mono N.size);refine(q9B g _ k l n n m m _ _ b (HH.o.below E) ha hb (by rw[q04];exact HD.o) T U (R.o.fs (Fs.of_nil E)) (by have:=HN.o;omega) (by have:=HM.o;omega)).mono ?_;rintro e q ⟨he,z,M⟩;rw[q04,q04,q4V] at z;exact⟨he,z,M.after E⟩
 have V:=vv fin;clear fin;go_enter func122,ntmps122;go_wp2_with fail;refine q02 (fun q=>q.cell? ⟨gx,0,qa⟩=qc (.bool (qd (u<0)))/\q.cell? ⟨gx,1,qa⟩=qc (.slice A n c)/\q.cell? ⟨gy,0,qa⟩=qc (.bool qi)/\q.cell? ⟨gy,1,qa⟩=qc (.slice B m d)) 20
  (.still 0 (.still 1 (.still 2 (.still 3 (.still 4 (.still 5 (.still 6 (.still 7 (.still 8 (.still 9 (.still 10 (.still 11 (.still 12 (.still 13 (.still 15 (.still 16 (.still 17 (.still 18 (.one 14 (.one 19 .done)))))))))))))))))))) (by kernel_rfl) (by kernel_rfl) (fun _ _ d _ _ h=>by cases d<;>exact h) ⟨F,G,y,I⟩ (fun hS0=>?_)
 iterate 18
  refine q01 (v:=?_) rfl (by rfl) ?_ ?_;rotate_left
  ·intro w a0;go_simp;with_reducible rfl
  simp only[Act.put,sa,sb,sc]
 refine q03 rfl (by rfl) (fun K hK=>?_);go_simp;refine(copied _ _ _ _ _ J.o.drew).mono ?_;rintro e i ⟨rfl,Q,j⟩;have HO:=vv (Q.rd J.o.len.symm lr J.o.sm);have f:qj (qe w.heap.size w i):=vv ⟨j.os,j.tape,j.output,j.size,j.block⟩;clear Q j;go_wp2_with fail;refine hK.out _ _ ⟨(f.o.cell (p:=⟨gx,0,qa⟩) r).trans F,(f.o.cell (p:=⟨gx,1,qa⟩) r).trans G,(f.o.cell (p:=⟨gy,0,qa⟩) s).trans y,(f.o.cell (p:=⟨gy,1,qa⟩) s).trans I⟩ (fun W=>?_);clear hK;refine q03 rfl (by rfl) (fun K hK=>?_);go_simp;refine(copied _ _ _ _ _ (L.o.below f.o rfl)).mono ?_;rintro e b ⟨rfl,O,t⟩;have X:=vv (O.rd L.o.len.symm lr L.o.sm);have Y:=vv (HO.o.below t rfl);have Z:=vv t;have x:=vn f t;clear O t;go_wp2_with fail;refine hK.out _ _ ⟨(x.o.cell (p:=⟨gx,0,qa⟩) r).trans F,(x.o.cell (p:=⟨gx,1,qa⟩) r).trans G,(x.o.cell (p:=⟨gy,0,qa⟩) s).trans y,(x.o.cell (p:=⟨gy,1,qa⟩) s).trans I⟩ (fun W=>?_);clear hK;refine q07 ?_;go_wp2_with fail;refine(V.o i b _ _ f.o Z.o Y.o X.o (fun a e=>by cases e;rfl) (fun a e=>by cases e;rfl)).mono ?_;rintro e w3 ⟨rfl,z,M⟩;have HR:=vv z;go_wp2;go_ret;exact⟨rfl,HR.o,M⟩
def SetInt64R:=@AB.SetInt64R 220
end A
namespace A
open AB
open Go Go.RowKit
theorem Inv(g gx:Nat)(N d:Nat)(w:qg)(h:RatSh w g)(hx:RatAt w gx (N:Int) d)(hN:0<N):qh qb 229 #[.pointer (qc ⟨g,0,qa⟩),.pointer (qc ⟨gx,0,qa⟩)] w (q1X g (d:Int) N w):=by have Q:=vv h;have HX:=vv hx;have k:=vv (q2l hN hx.pos);have HP:=vv (q0S (p:=(N:Int)) hx.pos);have R:=vv hN;have H:=q2B (p:=(N:Int)) hx.pos;have t:=hx.lt;obtain⟨v,q⟩:=h.int;have X:=q.lt;have C:=vv q;obtain⟨A,n,c,S,T,D,hz⟩:=hx.num.ex;rw[k00 (by omega)] at S;have r:=vv D;have I:=vv (below gx _ _ w hx);clear h hx q D H hN;go_enter func229,ntmps229;go_wp2_with fail;refine I.o.mono ?_;rintro e w1 ⟨B,m,d1,rfl,E,Y,u⟩;have s:=vv E;have J:=vv u;clear E u;go_wp2_with fail;refine(copied _ _ _ _ _ s.o).mono ?_;rintro e U ⟨rfl,F,y⟩;have V:=vv (F.rd s.o.len.symm lr s.o.sm);have i:=vn J y;have Z:=(i.o.cell (p:=⟨gx,1,qa⟩) t).trans T;have a0:gx<U.heap.size:=k02 t i.o.size;clear F y;go_wp2_with fail;refine(copied _ _ _ _ _ (r.o.below i.o rfl)).mono ?_;rintro e w3 ⟨rfl,z,l⟩;have K:=vv ((z.rd r.o.len.symm lr r.o.sm).den k.o.2.2 (fun a e=>by cases e;rfl));have L:=vv (V.o.below l rfl);have j:=vn i l;clear z l;go_wp2_with fail;refine(set_of g 0 v (ld N d:Nat) _ _ m m (ld N d) _ (C.o.below j.o) L.o (fun a e=>by cases e;rfl) rfl (q2N (by omega))).mono ?_;rintro e w4 b;have b:=b.f (C.o.below j.o);have M:=vv ((Q.o.below j.o).num b);have W:=vv (b.2.2.after j.o);have O:=vv (K.o.fs b.2.2);obtain⟨rfl,-,-⟩:=b;obtain⟨hi,x,hx⟩:=M.o;have a1:=hi.lt;have a2:=hi.fz 2;have G:=vv hi;have P:=vv hx;clear hi;go_wp2;go_ret;exact⟨rfl,RatAt.made G.o ⟨x,P.o⟩ O.o R.o k.o.2.2 k.o.1 k.o.2.1,fs3 (W.o.trans (Fs.set2 G.o _))⟩
theorem q1C(g:Nat)(s:Bool)(A D B C:Option Addr)(na ca nd cd nb cb nc cc a d b c:Nat)(w:qg)(h:RatSh w g)(ha:Rd w A na ca (toL a))(hb:Rd w B nb cb (toL b))(hd0:0<d)(hc0:0<c)
  (h0:a=0\/0<a/\b=0) (hst:Std w) :
  qh qb 298 #[.pointer (qc ⟨g,0,qa⟩),.bool s,.slice A na ca,.slice D nd cd,.slice B nb cb,.slice C nc cc] w (q1X g (sg s (a*b)) (d*c) w):=by
 have j:=ha.words;have k:=hb.words;have x:=ha.sm;have y:=hb.sm;have q:qj (sg s (a*b)=0):=vv (by have:a*b=0:=(by rcases h0 with h|h<;>simp [h]);rw[this];cases s<;>rfl);have r:=vv (k0l hd0 hc0);have p:qj (qh qb 214 #[.pointer (qc ⟨g,0,qa⟩),.bool qi,.slice qa 0 0,.slice (qc ⟨w.heap.size,0,qa⟩) 1 1] (w.alloc (.cells #[.int .u32 1] 54)) (q1X g (sg s (a*b)) (d*c) w)):=by have l:qe w.heap.size w (w.alloc (.cells #[.int .u32 1] 54)):=(qf _ _).alloc lr _;have t:Own (w.alloc (.cells #[.int .u32 1] 54)) w.heap.size 54 [1]:=Own.lit _ (q0y.2 ⟨by omega,q0N⟩) (by simp [q0q]);refine vv ((q9B g qi qa (qc ⟨w.heap.size,0,qa⟩) 0 0 1 1 [] [1] _ (h.below l) (Rd.nil _) (t.rd rfl lr (by omega)) (by decide) (fun a e=>by cases e) (fun a e=>by cases e;rfl) (hst.fs (Fs.of_nil l)) (by omega) (by omega)).mono ?_);rintro e z ⟨u,f,i⟩;refine⟨u,?_,i.after l⟩;rw[q.o];exact f.cross r.o (by simp [sg,val])
 clear ha hb hd0 hc0 hst h;rcases h0 with rfl|⟨ha,rfl⟩
 ·obtain rfl:na=0:=j.symm;clear j k;go_enter func298,ntmps298;go_wp2_with fail;refine p.o.mono ?_;rintro e v ⟨rfl,f,i⟩;have m:=vv f;go_wp2;go_ret;exact⟨rfl,m.o,i⟩
 ·obtain rfl:nb=0:=k.symm;have E:((na:Int)==0)=qi:=by have:=q06 (n:=a);simp;omega
  clear j k ha;go_enter func298,ntmps298;go_wp2_with fail;refine p.o.mono ?_;rintro e v ⟨rfl,f,i⟩;have m:=vv f;go_wp2;go_ret;exact⟨rfl,m.o,i⟩
theorem q37(g:Nat)(s:Bool)(A D B C:Option Addr)(na ca nd cd nb cb nc cc a d b c:Nat)(w:qg)(h:RatSh w g)(ha:Rd w A na ca (toL a))(hd:Rd w D nd cd (toL d))(hb:Rd w B nb cb (toL b))(hc:Rd w C nc cc (toL c))(hd0:0<d)(hc0:0<c)
  (had:Nat.gcd a d=1) (hbc:Nat.gcd b c=1) (ha0:0<a) (hb0:0<b) (hst:Std w) (sa:Sz a) (sd:Sz d) (sb:Sz b) (sc:Sz c) :
  qh qb 298 #[.pointer (qc ⟨g,0,qa⟩),.bool s,.slice A na ca,.slice D nd cd,.slice B nb cb,.slice C nc cc] w (q1X g (sg s (a*b)) (d*c) w):=by
 have a6:=ha.words;have a7:=hb.words;have b4:=ha.sz sa;have b5:=hb.sz sb;have b6:=hc.sz sc;have b7:=hd.sz sd;have t0:((na:Int)==0)=qi:=by have:=q06 (n:=a);simp;omega
 have t1:((nb:Int)==0)=qi:=by have:=q06 (n:=b);simp;omega
 have S:=vv (q7d hd0 hc0 had hbc ha0 hb0);have N:=vv (q0e (n:=a) hc0);have F:=vv (q0e (n:=b) hd0);have HM:=vv (k0l hd0 hc0);have T:qj (0<d/Nat.gcd b d*(c/Nat.gcd a c)):=vv (k0l (k1e (k13 hd0 (k0z _ _)) F.o) (k1e (k13 hc0 (k0z _ _)) N.o));have U:=vv hst;have HH:=vv h;obtain⟨v,hv⟩:=h.int;have HV:=vv hv;have O:=vv ha;have P:=vv hb;have Q:=vv hc;have R:=vv hd;clear h ha hb hc hd hd0 hc0 had hbc ha0 hb0 hst hv a6 a7 sa sb sc sd;go_enter func298,ntmps298;go_wp2_with fail;refine(q1I A C na nc ca cc a c w O.o Q.o U.o (by omega) (by omega)).mono ?_;rintro e w1 ⟨G1,g1,k1,rfl,V,b8,W⟩;have p:=vv W;have i:=vv V;clear V W;go_wp2_with fail;refine(q1I B D nb nd cb cd b d _ (P.o.below p.o rfl) (R.o.below p.o rfl) (U.o.fs (Fs.of_nil p.o)) (by omega) (by omega)).mono ?_;rintro e w2 ⟨G2,g2,k2,rfl,X,b9,G⟩;have Y:=vn p G;have i:=vv (i.o.below G rfl);have k:=vv X;clear X G;go_wp2_with fail;refine(by_ A G1 na g1 ca k1 a _ _ (O.o.below Y.o rfl) i.o N.o (by omega)).mono ?_;rintro e w3 ⟨A3,n3,c3,rfl,H,-,q⟩;have Z:=vn Y q;have i:=vv (i.o.below q rfl);have k:=vv (k.o.below q rfl);have c0:=H.le_of O.o (k0e _ _);have r:=vv H;clear H q;go_wp2_with fail;refine(by_ B G2 nb g2 cb k2 b _ _ (P.o.below Z.o rfl) k.o F.o (by omega)).mono ?_;rintro e w4 ⟨A4,n4,c4,rfl,I,-,m⟩;have a8:=vn Z m;have i:=vv (i.o.below m rfl);have k:=vv (k.o.below m rfl);have r:=vv (r.o.below m rfl);have c1:=I.le_of P.o (k0e _ _);have a0:=vv I;clear I m;go_wp2_with fail;refine(mulWords A3 A4 n3 n4 c3 c4 _ _ _ r.o a0.o (by omega)).mono ?_;rintro e w5 j;obtain⟨A5,n5,c5,rfl,a1,a9,t⟩:=j.val2;have a2:=vn a8 t;have i:=vv (i.o.below t rfl);have k:=vv (k.o.below t rfl);have l:=vv a1;clear a1 t j r a0;go_wp2_with fail;refine(by_ D G2 nd g2 cd k2 d _ _ (R.o.below a2.o rfl) k.o F.o (by omega)).mono ?_;rintro e w6 ⟨A6,n6,c6,rfl,J,-,u⟩;have a3:=vn a2 u;have i:=vv (i.o.below u rfl);have l:=vv (l.o.below u rfl);have c2:=J.le_of R.o (k0e _ _);have y:=vv J;clear J u;go_wp2_with fail;refine(by_ C G1 nc g1 cc k1 c _ _ (Q.o.below a3.o rfl) i.o N.o (by omega)).mono ?_;rintro e w7 ⟨A7,n7,c7,rfl,K,-,z⟩;have b0:=vn a3 z;have l:=vv (l.o.below z rfl);have y:=vv (y.o.below z rfl);have c9:=K.le_of Q.o (k0e _ _);have a4:=vv K;clear K z;go_wp2_with fail;refine(mulWords A6 A7 n6 n7 c6 c7 _ _ _ y.o a4.o (by omega)).mono ?_;rintro e w8 j;obtain⟨A8,n8,c8,rfl,a5,b1,L⟩:=j.val2;have E:=vn b0 L;have l:=vv (l.o.below L rfl);have M:=vv (a5.den T.o (fun a e=>(b1 a e).2));clear a5 L j y a4;go_wp2_with fail;refine(set_of g 0 v (sg s (a/Nat.gcd a c*(b/Nat.gcd b d))) _ A5 n5 c5 _ _ (HV.o.below E.o) l.o (fun a e=>(a9 a e).2) (q0z _ _) (q1d _ _)).mono ?_;rintro e w9 j;have j:=j.f (HV.o.below E.o);have HN:=vv ((HH.o.below E.o).num j);have HF:=vv (j.2.2.after E.o);have M:=vv (M.o.fs j.2.2);obtain⟨rfl,-,-⟩:=j;obtain⟨hi,x,hx⟩:=HN.o;have b3:=hi.lt;have d0:=hi.fz 2;have HI:=vv hi;have b2:=vv hx;clear hi;go_wp2;go_ret;refine⟨rfl,RatAt.made HI.o ⟨x,b2.o⟩ M.o HM.o T.o (by rw[q0z];exact S.o.1) ?_,fs3 (HF.o.trans (Fs.set2 HI.o _))⟩;have:=k0v (Nat.cast:Nat->Int) S.o.2;rw[k08,k08 (a*b)] at this;cases s
 ·exact this
 ·show -((a/Nat.gcd a c*(b/Nat.gcd b d):Nat):Int)*_ = -((a*b:Nat):Int)*_;rw[k0P,k0P,this]
theorem q4S(g:Nat)(s:Bool)(A D B C:Option Addr)(na ca nd cd nb cb nc cc a d b c:Nat)(w:qg)(h:RatSh w g)(ha:Rd w A na ca (toL a))(hd:Rd w D nd cd (toL d))(hb:Rd w B nb cb (toL b))(hc:Rd w C nc cc (toL c))(hd0:0<d)(hc0:0<c)
  (had:Nat.gcd a d=1) (hbc:Nat.gcd b c=1) (hst:Std w) (sa:Sz a) (sd:Sz d) (sb:Sz b) (sc:Sz c) :
  qh qb 298 #[.pointer (qc ⟨g,0,qa⟩),.bool s,.slice A na ca,.slice D nd cd,.slice B nb cb,.slice C nc cc] w (q1X g (sg s (a*b)) (d*c) w):=by
 rcases k01 a with e|e
 ·exact q1C g s A D B C na ca nd cd nb cb nc cc a d b c w h ha hb hd0 hc0 (.inl e) hst
 rcases k01 b with f|f
 ·exact q1C g s A D B C na ca nd cd nb cb nc cc a d b c w h ha hb hd0 hc0 (.inr ⟨e,f⟩) hst
 exact q37 g s A D B C na ca nd cd nb cb nc cc a d b c w h ha hd hb hc hd0 hc0 had hbc e f hst sa sd sb sc
end A
namespace A
open AB
open Go Go.RowKit
theorem MulR(g gx gy:Nat)(p q:Int)(d e':Nat)(w:qg)(h:RatSh w g)(hx:RatAt w gx p d)(hy:RatAt w gy q e')(hst:Std w)(sp:Sz p.natAbs)(sd:Sz d)(sq:Sz q.natAbs)(se:Sz e'):qh qb 230 #[.pointer (qc ⟨g,0,qa⟩),.pointer (qc ⟨gx,0,qa⟩),.pointer (qc ⟨gy,0,qa⟩)] w (q1X g (p*q) (d*e') w):=by
 have r:=hx.lt;have t:=hy.lt;have u:=vv hx;have x:=vv hy;have HH:=vv h;have W:=vv hst;have HP:=vv sp;have HQ:=vv sq;have HD:=vv sd;have HE:=vv se;obtain⟨A,n,c,I,J,U,L⟩:=hx.num.ex;obtain⟨B,m,M,N,O,y,X⟩:=hy.num.ex;have HA:=vv U;have HB:=vv y;clear h hx hy hst sp sd sq se U y L X;have fin:∀(s:Bool) a z C b D E F,(qd (lp p d<0) != qd (lp q e'<0))=s->qe w.heap.size w a->Rd a z C b (toL (ld p d))->Rd a D E F (toL (ld q e')) ->qh qb 298 #[.pointer (qc ⟨g,0,qa⟩),.bool s,.slice A n c,.slice z C b,.slice B m M,.slice D E F] a (q1X g (p*q) (d*e') w):=by
  intro s a z C b D E F y j ha hb;refine(q4S g s A z B D n c C b m M E F _ _ _ _ a (HH.o.below j) (HA.o.below j rfl) ha (HB.o.below j rfl) hb (q0S u.o.pos) (q0S x.o.pos) (q1F u.o.pos) (q1F x.o.pos) (W.o.fs (Fs.of_nil j)) (HP.o.mono (q1P _ _)) (HD.o.mono (q1Y _ _)) (HQ.o.mono (q1P _ _)) (HE.o.mono (q1Y _ _))).mono ?_;rintro e l ⟨he,P,Q⟩;refine⟨he,P.cross (k0l u.o.pos x.o.pos) ?_,Q.after j⟩;have e0:sg s ((lp p d).natAbs*(lp q e').natAbs)=lp p d*lp q e':=by
   have V:=q4V (lp p d*lp q e');rw[q2u,y,k0B] at V
   conv=>rhs;rw[<- V]
   by_cases L:0<(lp p d).natAbs*(lp q e').natAbs
   ·rw[k03 L,Bool.and_true]
   ·have:(lp p d).natAbs*(lp q e').natAbs=0:=by omega
    rw[this];cases s<;>rfl
  rw[e0];have R:=q0r p d;have b:=q0r q e';simp only[k08]
  calc lp p d*lp q e'*(↑d*↑e')=(lp p d*d)*(lp q e'*e'):=by grind
   _=(p*ld p d)*(q*ld q e'):=by rw[R,b]
   _=_:=by grind
 have Y:=vv fin;clear fin;go_enter func230,ntmps230;go_wp2_with fail;refine q02 (fun l=>l.cell? ⟨gx,0,qa⟩=qc (.bool (qd (lp p d<0)))/\l.cell? ⟨gx,1,qa⟩=qc (.slice A n c)/\l.cell? ⟨gy,0,qa⟩=qc (.bool (qd (lp q e'<0)))/\l.cell? ⟨gy,1,qa⟩=qc (.slice B m M)) 26
  (.still 0 (.still 1 (.still 2 (.still 3 (.still 4 (.still 5 (.still 6 (.still 7 (.still 8 (.still 9 (.still 10 (.still 11 (.still 12 (.still 13 (.still 14 (.still 15 (.still 16 (.still 17 (.still 19 (.still 20 (.still 21 (.still 22 (.still 23 (.still 24 (.one 18 (.one 25 .done)))))))))))))))))))))))))) (by kernel_rfl) (by kernel_rfl) (fun _ _ d _ _ h=>by cases d<;>exact h) ⟨I,J,N,O⟩ (fun hS0=>?_)
 iterate 24
  refine q01 (v:=?_) rfl (by rfl) ?_ ?_;rotate_left
  ·intro w a1;go_simp;with_reducible rfl
  simp only[Act.put,sa,sb,sc]
 refine q03 rfl (by rfl) (fun K hK=>?_);go_simp;refine(below gx _ _ _ u.o.drew).mono ?_;rintro e w1 ⟨A1,n1,R,rfl,S,a2,f⟩;have G:=vv S;have i:qj (qe w.heap.size w w1):=vv ⟨f.os,f.tape,f.output,f.size,f.block⟩;clear S f;go_wp2_with fail;refine hK.out _ _ ⟨(i.o.cell (p:=⟨gx,0,qa⟩) r).trans I,(i.o.cell (p:=⟨gx,1,qa⟩) r).trans J,(i.o.cell (p:=⟨gy,0,qa⟩) t).trans N,(i.o.cell (p:=⟨gy,1,qa⟩) t).trans O⟩ (fun Z=>?_);clear hK;refine q03 rfl (by rfl) (fun K hK=>?_);go_simp;refine(below gy _ _ _ (x.o.below i.o)).mono ?_;rintro e a ⟨A2,n2,b,rfl,T,a3,H⟩;have a0:=vv T;have G:=vv (G.o.below H rfl);have k:=vn i H;clear T H;go_wp2_with fail;refine hK.out _ _ ⟨(k.o.cell (p:=⟨gx,0,qa⟩) r).trans I,(k.o.cell (p:=⟨gx,1,qa⟩) r).trans J,(k.o.cell (p:=⟨gy,0,qa⟩) t).trans N,(k.o.cell (p:=⟨gy,1,qa⟩) t).trans O⟩ (fun Z=>?_);clear hK;refine q07 ?_;go_wp2_with fail;refine(Y.o _ a A1 n1 R A2 n2 b rfl k.o G.o a0.o).mono ?_;rintro e w3 ⟨rfl,P,Q⟩;have HR:=vv P;go_wp2;go_ret;exact⟨rfl,HR.o,Q⟩
end A
namespace A
open AB
open Go Go.RowKit
theorem qcg(g gx gy:Nat)(m n:Int)(P Q:Nat)(w:qg)(h:RatSh w g)(hx:RatAt w gx m P)(hy:RatAt w gy n Q)(hm:Nat.gcd m.natAbs P=1)(hn:Nat.gcd n.natAbs Q=1)(hst:Std w)(sp:Sm m.natAbs)(sd:Sm P)(sq:Sm n.natAbs)(se:Sm Q):qh qb 221 #[.pointer (qc ⟨g,0,qa⟩),.pointer (qc ⟨gx,0,qa⟩),.pointer (qc ⟨gy,0,qa⟩),.bool true] w (q1X g (m*Q-n*P) (P*Q) w):=by
 have S:=hx.lt;have z:=hy.lt;have HX:=vv hx;have HY:=vv hy;have HH:=vv h;have e5:=vv hst;have HM:=vv hm;have HN:=vv hn;obtain⟨i1,i2⟩:=q1t hx.pos hm;obtain⟨i3,i4⟩:=q1t hy.pos hn;have Z:=vv hx.pos;have d1:=vv hy.pos;have M:=vv (q0e (n:=P) hy.pos);have HL:=vv fun s F=>q4b (m:=m) (n:=-n) (s:=s) hx.pos hy.pos hm (by rw[k1R];exact hn) F
 have e6:=hx.num;have e7:=hy.num;rw[i1] at e6;rw[i3] at e7;obtain⟨A,na,ca,h0,h1,hr,hz⟩:=e6.ex;obtain⟨B,nb,cb,k0,k1,F,l1⟩:=e7.ex;have HA:=vv hr;have HB:=vv F;have o4:=hr.sz sp.sz;have o5:=F.sz sq.sz;have C:=vv (below gx m P w hx);have i5:=vv fun w' (hb:qe w.heap.size w w')=>below gy n Q w' (hy.below hb)
 rw[i2] at C;rw[i4] at i5;have l2:=vv sd.sz;have l3:=vv se.sz;have W:qj (Sz (m*(Q/Nat.gcd P Q:Nat)).natAbs/\Sz (-n*(P/Nat.gcd P Q:Nat)).natAbs/\Sz (m*(Q/Nat.gcd P Q:Nat) + -n*(P/Nat.gcd P Q:Nat)).natAbs):=by
  have O:(m*(Q/Nat.gcd P Q:Nat)).natAbs<=m.natAbs*Q:=by rw[k0B,k05];exact k0g _ (k0e _ _)
  have a2:(-n*(P/Nat.gcd P Q:Nat)).natAbs<=n.natAbs*P:=by rw[k0B,k05,k1R];exact k0g _ (k0e _ _)
  refine vv ⟨(sp.mul se).mono O,(sq.mul sd).mono a2,?_⟩;have a3:=Int.natAbs_add_le (m*(Q/Nat.gcd P Q:Nat)) (-n*(P/Nat.gcd P Q:Nat));refine Sz.mono (b:=m.natAbs*Q+n.natAbs*P) ?_ (by omega);have R:=q0H m.natAbs Q;have b2:=q0H n.natAbs P;have b3:=q3t (m.natAbs*Q) (n.natAbs*P);unfold Sm at sp sd sq se;unfold Sz;omega
 obtain⟨v,hv⟩:=h.int;have HV:=vv hv;clear h hx hy hst sp sd sq se hr F hz l1 hm hn i1 i2 i3 i4 e6 e7 hv;go_enter func221,ntmps221;go_wp2_with fail;refine C.o.mono ?_;rintro e w1 ⟨A1,n1,c1,rfl,e8,i6,i7⟩;have o6:=e8.sz l2.o;have i:=vv e8;have i8:=vv i7;have d2:=vv i6;clear e8 i7 i6;go_wp2_with fail;refine(i5.o _ i8.o).mono ?_;rintro e w2 ⟨A2,n2,c2,rfl,e9,i9,f0⟩;have o7:=e9.sz l3.o;have j:=vv e9;have i:=vv (i.o.below f0 rfl);have j0:=vn i8 f0;have d3:=vv i9;clear e9 f0 i9;go_wp2_with fail;refine(q1I A1 A2 n1 n2 c1 c2 P Q w2 i.o j.o (e5.o.fs (Fs.of_nil j0.o)) (by omega) (by omega)).mono ?_;rintro e k ⟨G,n3,c3,rfl,hG,j1,d4⟩;have o8:=hG.le_of i.o (Nat.gcd_le_left _ Z.o);have d5:qj (∀a,G=qc a->a.off=0):=vv fun a e=>(j1 a e).2
 have l:=vv hG;have i:=vv (i.o.below d4 rfl);have j:=vv (j.o.below d4 rfl);have j2:=vn j0 d4;have l4:=j2.o.size;clear hG d4 j1;obtain⟨o,ho⟩:∃o:Obj,o=.cells #[.bool qi,.slice qa 0 0] 142:=⟨_,rfl⟩;have f1:qe k.heap.size k (k.alloc o):=(qf _ k).alloc lr _;have f2:qe (k.alloc o).heap.size (k.alloc o) ((k.alloc o).alloc o):=(qf _ (k.alloc o)).alloc lr _;have j3:(k.alloc o).heap.size=k.heap.size+1:=by simp
 have j4:IntAt (k.alloc o) k.heap.size 0 0:=by rw[ho];exact IntAt.zero k _
 have j5:IntAt ((k.alloc o).alloc o) (k.heap.size+1) 0 0:=by rw[<- j3,ho];exact IntAt.zero _ _
 obtain⟨wx,b9⟩:=yx ((k.alloc o).alloc o);have a5:qe k.heap.size k wx:=by rw[b9];exact f1.trans (f2.mono f1.size)
 have q:=vv (j4.below f2);have r:=vv j5;rw[<- b9] at q r;have i:=vv (i.o.below a5 rfl);have j:=vv (j.o.below a5 rfl);have l:=vv (l.o.below a5 rfl);have C:=vn j2 a5;have j6:wx.heap.size=k.heap.size+1+1:=by rw[b9];simp
 have l5:=vv b9;have HO:=vv ho;have o9:=vv j6;have Y:=(C.o.cell (p:=⟨gx,0,qa⟩) S).trans h0;have O:=(C.o.cell (p:=⟨gx,1,qa⟩) S).trans h1;have V:=(C.o.cell (p:=⟨gy,0,qa⟩) z).trans k0;have R:=(C.o.cell (p:=⟨gy,1,qa⟩) z).trans k1;have n6:gx<wx.heap.size:=k02 S C.o.size;have f9:gy<wx.heap.size:=k02 z C.o.size;clear f1 f2 j3 j4 j5 a5 b9 ho j6;go_wp2_with fail;rw[<- HO.o,<- l5.o];refine q02 (fun w'=>w'.cell? ⟨gx,0,qa⟩=qc (.bool (qd (m<0)))/\w'.cell? ⟨gx,1,qa⟩=qc (.slice A na ca)) 15
  (.still 0 (.still 1 (.still 2 (.still 3 (.still 4 (.still 5 (.still 6 (.still 7 (.still 8 (.still 9 (.still 10 (.still 11 (.still 12 (.one 13 (.one 14 .done))))))))))))))) (by kernel_rfl) (by kernel_rfl) (fun _ _ d _ _ h=>by cases d<;>exact h) ⟨Y,O⟩ (fun hS0=>?_)
 iterate 13
  refine q01 (v:=?_) rfl (by rfl) ?_ ?_;rotate_left
  ·intro w j7;go_simp;with_reducible rfl
  simp only[Act.put,sa,sb,sc]
 refine q03 rfl (by rfl) (fun K hK=>?_);go_simp;refine(by_ A2 G n2 n3 c2 c3 Q _ _ j.o.drew l.o.drew M.o (by omega)).mono ?_;rintro e w4 ⟨A4,n4,c4,rfl,f3,-,u⟩;have u:qe wx.heap.size wx w4:=⟨u.os,u.tape,u.output,u.size,u.block⟩;have p0:=f3.le_of j.o (k0e _ _);have l6:=vv f3;have i:=vv (i.o.below u rfl);have j:=vv (j.o.below u rfl);have l:=vv (l.o.below u rfl);have q:=vv (q.o.below u);have r:=vv (r.o.below u);have d6:=vn C u;have Y:=(d6.o.cell (p:=⟨gx,0,qa⟩) S).trans h0;have O:=(d6.o.cell (p:=⟨gx,1,qa⟩) S).trans h1;clear f3 u;go_wp2_with fail;refine hK.out _ _ ⟨Y,O⟩ (fun a4=>?_);clear hK;refine q03 rfl (by rfl) (fun K hK=>?_);go_simp;refine(mulWords A A4 na n4 ca c4 _ _ _ (HA.o.below d6.o rfl) l6.o (by omega)).mono ?_;rintro e w5 c;obtain⟨A5,n5,c5,rfl,j8,l7,T⟩:=c.val2;have l8:=vv j8;have i:=vv (i.o.below T rfl);have j:=vv (j.o.below T rfl);have l:=vv (l.o.below T rfl);have q:=vv (q.o.below T);have r:=vv (r.o.below T);have d7:=vn d6 T;have Y:=(d7.o.cell (p:=⟨gx,0,qa⟩) S).trans h0;have O:=(d7.o.cell (p:=⟨gx,1,qa⟩) S).trans h1;clear j8 T c;go_wp2_with fail;refine hK.out _ _ ⟨Y,O⟩ (fun a4=>?_);clear hK;refine q07 ?_;go_wp2_with fail;refine(set_of _ 0 0 (m*(Q/Nat.gcd P Q:Nat)) _ A5 n5 c5 _ _ q.o l8.o (fun a e=>(l7 a e).2) (by rw[k0B,k05]) (by rw[q2u,k05,k00 (p:=((Q/Nat.gcd P Q:Nat):Int)<0) (Int.not_lt.2 (k0d _))];cases qd (m<0)<;>rfl)).mono ?_;rintro e w6 c;have c:=c.f q.o;have q:=vv c.2.1;have r:=vv (r.o.fs1 c.2.2 (by omega));have i:=vv (i.o.fs d2.o c.2.2);have j:=vv (j.o.fs d3.o c.2.2);have l:=vv (l.o.fs d5.o c.2.2);have d8:=vv (c.below d7.o d7.o.size l4);obtain⟨rfl,-,-⟩:=c;have V:=(d8.o.cell (p:=⟨gy,0,qa⟩) z).trans k0;have R:=(d8.o.cell (p:=⟨gy,1,qa⟩) z).trans k1;have f9:gy<w6.heap.size:=k02 z d8.o.size;go_wp2_with fail;refine q02 (fun w'=>w'.cell? ⟨gy,0,qa⟩=qc (.bool (qd (n<0)))/\w'.cell? ⟨gy,1,qa⟩=qc (.slice B nb cb)) 17
  (.still 0 (.still 1 (.still 2 (.still 3 (.still 4 (.still 5 (.still 6 (.still 7 (.still 8 (.still 9 (.still 10 (.still 11 (.still 12 (.still 13 (.still 14 (.one 15 (.one 16 .done))))))))))))))))) (by kernel_rfl) (by kernel_rfl) (fun _ _ d _ _ h=>by cases d<;>exact h) ⟨V,R⟩ (fun hS0=>?_)
 iterate 15
  refine q01 (v:=?_) rfl (by rfl) ?_ ?_;rotate_left
  ·intro w j7;go_simp;with_reducible rfl
  simp only[Act.put,sa,sb,sc]
 refine q03 rfl (by rfl) (fun K hK=>?_);go_simp;refine(by_ A1 G n1 n3 c1 c3 P _ _ i.o.drew l.o.drew M.o (by omega)).mono ?_;rintro e w7 ⟨A7,n7,c7,rfl,f4,-,y⟩;have y:qe w6.heap.size w6 w7:=⟨y.os,y.tape,y.output,y.size,y.block⟩;have p1:=f4.le_of i.o (k0e _ _);have l9:=vv f4;have i:=vv (i.o.below y rfl);have j:=vv (j.o.below y rfl);have l:=vv (l.o.below y rfl);have q:=vv (q.o.below y);have r:=vv (r.o.below y);have d9:=vn d8 y;have V:=(d9.o.cell (p:=⟨gy,0,qa⟩) z).trans k0;have R:=(d9.o.cell (p:=⟨gy,1,qa⟩) z).trans k1;clear f4 y;go_wp2_with fail;refine hK.out _ _ ⟨V,R⟩ (fun a4=>?_);clear hK;refine q03 rfl (by rfl) (fun K hK=>?_);go_simp;refine(mulWords B A7 nb n7 cb c7 _ _ _ (HB.o.below d9.o rfl) l9.o (by omega)).mono ?_;rintro e w8 c;obtain⟨A8,n8,c8,rfl,j9,m0,U⟩:=c.val2;have m1:=vv j9;have i:=vv (i.o.below U rfl);have j:=vv (j.o.below U rfl);have l:=vv (l.o.below U rfl);have q:=vv (q.o.below U);have r:=vv (r.o.below U);have e0:=vn d9 U;have V:=(e0.o.cell (p:=⟨gy,0,qa⟩) z).trans k0;have R:=(e0.o.cell (p:=⟨gy,1,qa⟩) z).trans k1;clear j9 U c;go_wp2_with fail;refine hK.out _ _ ⟨V,R⟩ (fun a4=>?_);clear hK;refine q07 ?_;go_wp2_with fail;refine(set_of _ 0 0 (-n*(P/Nat.gcd P Q:Nat)) _ A8 n8 c8 _ _ r.o m1.o (fun a e=>(m0 a e).2) (by rw[k0B,k05,k1R]) ?_).mono ?_
 ·rw[k0P,q4r,q2u,k0B,k05,k00 (p:=((P/Nat.gcd P Q:Nat):Int)<0) (Int.not_lt.2 (k0d _))];cases qd (n<0)<;>cases qd (0<n.natAbs*(P/Nat.gcd P Q))<;>rfl
 rintro e w9 c;have c:=c.f r.o;have r:=vv c.2.1;have q:=vv (q.o.fs1 c.2.2 (by omega));have i:=vv (i.o.fs d2.o c.2.2);have j:=vv (j.o.fs d3.o c.2.2);have l:=vv (l.o.fs d5.o c.2.2);have k2:=vv (c.below e0.o e0.o.size (by omega));obtain⟨rfl,-,-⟩:=c;clear Y O V R;go_wp2_with fail;refine(Add _ 0 _ 0 _ 0 _ _ _ _ q.o q.o r.o W.o.1 W.o.2.1).mono ?_;rintro e X c;have c:=c.f q.o;have q:=vv c.2.1;have i:=vv (i.o.fs d2.o c.2.2);have j:=vv (j.o.fs d3.o c.2.2);have l:=vv (l.o.fs d5.o c.2.2);have a8:=vv (c.below k2.o k2.o.size (by omega));obtain⟨rfl,-,-⟩:=c;obtain⟨s,F⟩:=yx (m*(Q/Nat.gcd P Q:Nat) + -n*(P/Nat.gcd P Q:Nat));have W:=vv W.o.2.2;have HL:=vv (HL.o s F);rw[<- F] at q W;have HS:=vv F;have D:=q.o.lt;have c0:=q.o;obtain⟨AS,ns,cs,I,J,e2,k3⟩:=c0.ex;have f5:=e2.words;have p2:=e2.sz W.o;have e3:=vv e2;have p3:=vv k3;clear F e2 k3 c0;rcases k01 ns with hz|n9
 ·subst hz;have k4:s=0:=by have:=q06.1 f5;omega
  have HF:qj (m*Q-n*P=0):=by
   refine vv ?_;have e1:=HL.o.2;rw[k4] at e1;have hp:(0:Int)<(P/Nat.gcd P Q*(Q/Nat.gcd (Int.natAbs 0) (Nat.gcd P Q)):Nat):=by have:0<P/Nat.gcd P Q*(Q/Nat.gcd (Int.natAbs 0) (Nat.gcd P Q)):=k0l (k1e (k13 Z.o (k15 _ _)) M.o) (by rw[k2g,k25];exact k1e (k13 d1.o (k0z _ _)) M.o);omega
   simp [sg] at e1;have:=Int.mul_eq_zero.1 e1.symm;rcases this with h|h
   ·rw[k21,<- k0P];exact h
   ·have h':((P/Nat.gcd P Q*(Q/Nat.gcd (Int.natAbs 0) (Nat.gcd P Q)):Nat):Int)=0:=by
     rw[k2g,k25]
     exact_mod_cast h
    omega
  clear k4 f5;have hB:qe X.heap.size X (X.alloc (.cells #[.int .u32 1] 54)):=(qf _ _).alloc lr _;have hO:Own (X.alloc (.cells #[.int .u32 1] 54)) X.heap.size 54 [1]:=Own.lit _ (q0y.2 ⟨by omega,q0N⟩) (by simp [q0q]);have f6:=vn a8 hB;have HO:=vv hO;clear hB hO;go_wp2_with fail;refine(q9B g qi qa (qc ⟨X.heap.size,0,qa⟩) 0 0 1 1 [] [1] _ (HH.o.below f6.o) (Rd.nil _) (HO.o.rd rfl lr (by omega)) (by decide) (fun a e=>by cases e) (fun a e=>by cases e;rfl) (e5.o.fs (Fs.of_nil f6.o)) (by omega) (by omega)).mono ?_;rintro e e4 ⟨rfl,hR,hF⟩;have HR:=vv hR;go_wp2;go_ret;refine⟨rfl,?_,hF.after f6.o⟩;rw[HF.o];exact HR.o.cross (k0l Z.o d1.o) (by simp [sg,val])
 ·have p4:((ns:Int)==0)=qi:=by simp;omega
  clear f5;go_wp2_with fail;refine(q1I AS G ns n3 cs c3 _ _ _ e3.o l.o (e5.o.fs (Fs.of_nil a8.o)) (by omega) (by omega)).mono ?_;rintro e e4 ⟨H,k5,k6,rfl,f7,k7,L⟩;have o0:=f7.le_of l.o (Nat.gcd_le_right _ M.o);have E:=vv f7;have m2:qj (∀a,H=qc a->a.off=0):=vv fun a e=>(k7 a e).2
  have f8:=vv (q0e (n:=s.natAbs) M.o);have e3:=vv (e3.o.below L rfl);have i:=vv (i.o.below L rfl);have j:=vv (j.o.below L rfl);have l:=vv (l.o.below L rfl);have I:=(L.cell (p:=⟨k.heap.size,0,qa⟩) D).trans I;have J:=(L.cell (p:=⟨k.heap.size,1,qa⟩) D).trans J;have D:k.heap.size<e4.heap.size:=k02 D L.size;have g0:=vn a8 L;clear f7 k7 L;go_wp2_with fail;refine q02 (fun w'=>w'.cell? ⟨k.heap.size,0,qa⟩=qc (.bool (qd (s<0)))/\w'.cell? ⟨k.heap.size,1,qa⟩=qc (.slice AS ns cs)) 14
   (.still 0 (.still 1 (.still 2 (.still 3 (.still 4 (.still 5 (.still 6 (.still 7 (.still 8 (.still 9 (.still 10 (.still 11 (.one 12 (.one 13 .done)))))))))))))) (by kernel_rfl) (by kernel_rfl) (fun _ _ d _ _ h=>by cases d<;>exact h) ⟨I,J⟩ (fun hS0=>?_)
  iterate 12
   refine q01 (v:=?_) rfl (by rfl) ?_ ?_;rotate_left
   ·intro w j7;go_simp;with_reducible rfl
   simp only[Act.put,sa,sb,sc]
  refine q03 rfl (by rfl) (fun K hK=>?_);go_simp;refine(by_ AS H ns k5 cs k6 _ _ _ e3.o.drew E.o.drew f8.o (by omega)).mono ?_;rintro e k8 ⟨p5,k9,p6,rfl,c6,-,t⟩;have t:qe e4.heap.size e4 k8:=⟨t.os,t.tape,t.output,t.size,t.block⟩;have a9:=vv c6;have i:=vv (i.o.below t rfl);have j:=vv (j.o.below t rfl);have l:=vv (l.o.below t rfl);have E:=vv (E.o.below t rfl);have I:=(t.cell (p:=⟨k.heap.size,0,qa⟩) D).trans I;have J:=(t.cell (p:=⟨k.heap.size,1,qa⟩) D).trans J;have D:k.heap.size<k8.heap.size:=k02 D t.size;have g1:=vn g0 t;clear c6 t;go_wp2_with fail;refine hK.out _ _ ⟨I,J⟩ (fun a4=>?_);clear hK;refine q03 rfl (by rfl) (fun K hK=>?_);go_simp;refine(copied _ _ _ _ _ a9.o).mono ?_;rintro e p7 ⟨rfl,hO,N⟩;have g2:=vv (hO.rd a9.o.len.symm lr a9.o.sm);have i:=vv (i.o.below N rfl);have j:=vv (j.o.below N rfl);have l:=vv (l.o.below N rfl);have E:=vv (E.o.below N rfl);have I:=(N.cell (p:=⟨k.heap.size,0,qa⟩) D).trans I;have J:=(N.cell (p:=⟨k.heap.size,1,qa⟩) D).trans J;have a6:=vn g1 N;clear hO N;go_wp2_with fail;refine hK.out _ _ ⟨I,J⟩ (fun a4=>?_);clear hK;refine q07 ?_;go_wp2_with fail;refine(set_of g 0 v (sg (qd (s<0)) (s.natAbs/Nat.gcd s.natAbs (Nat.gcd P Q))) _ _ k9 k9 _ _ (HV.o.below a6.o) g2.o (fun a e=>by cases e;rfl) (q0z _ _) (q1d _ _)).mono ?_;rintro e p8 c;have c:=c.f (HV.o.below a6.o);have g3:=vv ((HH.o.below a6.o).num c);have HF:=vv (c.2.2.after a6.o);have i:=vv (i.o.fs d2.o c.2.2);have j:=vv (j.o.fs d3.o c.2.2);have l:=vv (l.o.fs d5.o c.2.2);have E:=vv (E.o.fs m2.o c.2.2);obtain⟨rfl,-,-⟩:=c;clear I J;go_wp2_with fail;refine(by_ A1 G n1 n3 c1 c3 P _ _ i.o l.o M.o (by omega)).mono ?_;rintro e p9 ⟨m3,m4,m5,rfl,b4,-,a7⟩;have o1:=b4.le_of i.o (k0e _ _);have b5:=vv b4;have j:=vv (j.o.below a7 rfl);have E:=vv (E.o.below a7 rfl);have g4:=vv a7;clear b4 a7;go_wp2_with fail;refine(by_ A2 H n2 k5 c2 k6 Q _ _ j.o E.o f8.o (by omega)).mono ?_;rintro e q0 ⟨m6,m7,m8,rfl,b6,-,b7⟩;have o2:=b6.le_of j.o (k0e _ _);have g5:=vv b6;have b5:=vv (b5.o.below b7 rfl);have g6:=vn g4 b7;clear b6 b7;go_wp2_with fail;refine(mulWords m3 m6 m4 m7 m5 m8 _ _ _ b5.o g5.o (by omega)).mono ?_;rintro e m9 c;obtain⟨q1,q2,q3,rfl,c9,g7,d0⟩:=c.val2;have b8:=vn g6 d0;have l0:qj (0<P/Nat.gcd P Q*(Q/Nat.gcd s.natAbs (Nat.gcd P Q))):=vv (k0l (k1e (k13 Z.o (k15 _ _)) M.o) (k1e (k13 d1.o (k2m (k0z _ _) (k0z _ _))) f8.o));have g8:=vv (c9.den l0.o (fun a e=>(g7 a e).2));clear c9 d0 c;obtain⟨hi,x,hx⟩:=g3.o;have g9:=(b8.o.cell (p:=⟨g,2,qa⟩) hi.lt).trans hx;have hi:=hi.below b8.o;have o3:=hi.lt;have q4:=hi.fz 2;have HI:=vv hi;have n0:=vv g9;have i0:qj (Fs [(g,0,2)] w m9):=vv ((HF.o.trans (Fs.of_nil b8.o)).drop (fun p hp _=>by simpa using hp) (fun p hp=>by simpa using hp));clear hi hx;go_wp2;go_ret;refine⟨rfl,RatAt.made HI.o ⟨x,n0.o⟩ g8.o (k0l Z.o d1.o) l0.o (by rw[q0z];exact HL.o.1) ?_,fs3 (i0.o.trans (Fs.set2 HI.o _))⟩;rw[HL.o.2,k0P,<- k21]
theorem SubR(g gx gy:Nat)(p q:Int)(d e':Nat)(w:qg)(h:RatSh w g)(hx:RatAt w gx p d)(hy:RatAt w gy q e')(hst:Std w)(sp:Sm p.natAbs)(sd:Sm d)(sq:Sm q.natAbs)(se:Sm e'):qh qb 131 #[.pointer (qc ⟨g,0,qa⟩),.pointer (qc ⟨gx,0,qa⟩),.pointer (qc ⟨gy,0,qa⟩)] w (q1X g (p*e'-q*d) (d*e') w):=by
 have a:qj ((lp p d*↑(ld q e')-lp q e'*↑(ld p d))*((d*e':Nat):Int)=(p*e'-q*d)*((ld p d*ld q e':Nat):Int)):=by
  have b:=q0r p d;have c:=q0r q e';refine vv ?_;simp only[k08]
  calc (lp p d*↑(ld q e')-lp q e'*↑(ld p d))*(↑d*↑e')=(lp p d*d)*↑(ld q e')*e'-(lp q e'*e')*↑(ld p d)*d:=by grind
   _=(p*ld p d)*↑(ld q e')*e'-(q*ld q e')*↑(ld p d)*d:=by rw[b,c]
   _=_:=by grind
 have f:=vv (k0l hx.pos hy.pos);have i:=vv (qcg g gx gy (lp p d) (lp q e') (ld p d) (ld q e') w h (hx.cross (q0S hx.pos) (q0r p d).symm) (hy.cross (q0S hy.pos) (q0r q e').symm) (q1F hx.pos) (q1F hy.pos) hst (sp.mono (q1P _ _)) (sd.mono (q1Y _ _)) (sq.mono (q1P _ _)) (se.mono (q1Y _ _)));clear h hx hy hst sp sd sq se;go_enter func131,ntmps131;go_wp2_with fail;refine i.o.mono ?_;rintro e m ⟨rfl,j,k⟩;have l:=vv j;go_wp2;go_ret;exact⟨rfl,l.o.cross f.o a.o,k⟩
end A
namespace A
open AB
open Go Go.RowKit
theorem q3p(p q:Int)(d e':Nat)(hd:0<d)(he:0<e')(h:p.sign≠q.sign\/p.sign=0):q1Z (p*e') (q*d)=q1Z p.sign q.sign:=by
 have b:(p*(e':Int)).sign=p.sign:=by rw[Int.sign_mul,k0r (a:=(e':Int)) (by omega),k2Q]
 have c:(q*(d:Int)).sign=q.sign:=by rw[Int.sign_mul,k0r (a:=(d:Int)) (by omega),k2Q]
 rw[<- b,<- c] at h ⊢;have k:∀A:Int,A<0/\A.sign = -1\/A=0/\A.sign=0\/0<A/\A.sign=1:=fun A=>by
  rcases k0K A 0 with a|a|a
  ·exact .inl ⟨a,k0L a⟩
  ·exact .inr (.inl ⟨a,by rw[a];rfl⟩)
  ·exact .inr (.inr ⟨a,k0r a⟩)
 have e:=k (p*(e':Int));have f:=k (q*(d:Int));clear b c k;generalize p*(e':Int)=A at *
 generalize q*(d:Int)=B at *
 unfold q1Z
 (repeat' split)<;>omega
theorem q6O(p:Int):p.sign = -1\/p.sign=0\/p.sign=1:=by
 rcases k0K p 0 with a|a|a
 ·exact .inl (k0L a)
 ·rw[a];exact .inr (.inl rfl)
 ·exact .inr (.inr (k0r a))
theorem q5a(g gx:Nat)(p q:Int)(d e':Nat)(w:qg)(hx:RatAt w g p d)(hy:RatAt w gx q e')(h:p.sign≠q.sign\/p.sign=0):qh qb 205 #[.pointer (qc ⟨g,0,qa⟩),.pointer (qc ⟨gx,0,qa⟩)] w fun e w'=>e=.returned (.int .i64 (q1Z (p*e') (q*d)))/\qe w.heap.size w w':=by
 have a:=vv (RSign g _ _ w hx);have b:=vv (RSign gx _ _ w hy);rw[q3p p q d e' hx.pos hy.pos h];have c:=q6O p;have f:=q6O q;obtain⟨s,i⟩:=yx (p.sign);obtain⟨t,j⟩:=yx (q.sign);rw[<- i] at a h c ⊢;rw[<- j] at b h f ⊢;clear i j hx hy;rcases c with rfl|rfl|rfl<;>rcases f with rfl|rfl|rfl<;>first|(exfalso;revert h;decide)|clear h;all_goals
  go_enter func205,ntmps205
  repeat
   go_wp2_with fail
   first
    | (refine a.o.mono ?_;rintro e w' ⟨rfl,rfl⟩)
    | (refine b.o.mono ?_;rintro e w' ⟨rfl,rfl⟩)
  go_wp2;go_ret;exact⟨rfl,qf _ _⟩
theorem q6Q(s:Bool)(a b d e':Nat):q1Z (sg s a*e') (sg s b*d)=if s then -q0F (a*e') (b*d) else q0F (a*e') (b*d):=by
 cases s
 ·show q1Z ((a:Int)*e') ((b:Int)*d)=q0F (a*e') (b*d);rw[<- k08,<- k08];unfold q1Z q0F
  (repeat' split)<;>omega
 ·show q1Z (-(a:Int)*e') (-(b:Int)*d) = -q0F (a*e') (b*d);rw[k0P,k0P,<- k08,<- k08];unfold q1Z q0F
  (repeat' split)<;>omega
theorem q3a(s:Bool)(a d:Nat):(lp (sg s a) d).natAbs=(lp (a:Int) d).natAbs/\ld (sg s a) d=ld (a:Int) d:=⟨by rw[q3f,q3f,q0z,k05],by unfold ld;rw[q0z,k05]⟩
theorem q39(s:Bool){a:Nat}(ha:0<a):(sg s a).sign=if s then -1 else 1:=by
 cases s
 ·exact k0r (a:=(a:Int)) (by omega)
 ·exact k0L (a:=-(a:Int)) (by omega)
theorem q3V(s:Bool){a:Nat}(ha:0<a):qd (sg s a<0)=s:=by
 cases s
 ·exact k00 (by show ¬(a:Int)<0;omega)
 ·exact k03 (by show -(a:Int)<0;omega)
theorem q3o(g gx:Nat)(s:Bool)(a b d e':Nat)(w:qg)(hx:RatAt w g (sg s a) d)(hy:RatAt w gx (sg s b) e')(ha:0<a)(hb:0<b)(sa:Sz a)(sd:Sz d)(sb:Sz b)(se:Sz e'):qh qb 205 #[.pointer (qc ⟨g,0,qa⟩),.pointer (qc ⟨gx,0,qa⟩)] w fun e w'=>e=.returned (.int .i64 (q1Z (sg s a*e') (sg s b*d)))/\qe w.heap.size w w':=by
 have D:=vv (RSign g _ _ w hx);have M:=vv (RSign gx _ _ w hy);rw[q39 s ha] at D;rw[q39 s hb] at M;have f:=hx.lt;have u:=hy.lt;have N:=vv fun w' (h:RatAt w' g (sg s a) d)=>below g _ _ w' h
 have O:=vv fun w' (h:RatAt w' gx (sg s b) e')=>below gx _ _ w' h
 obtain⟨U,V⟩:=q3a s a d;obtain⟨W,X⟩:=q3a s b e';rw[V] at N;rw[X] at O;have a0:=vv hx;have a1:=vv hy;obtain⟨A,n,c,Y,q,E,hz⟩:=hx.num.ex;obtain⟨B,m,Z,k0,r,F,a2⟩:=hy.num.ex;rw[show qd (lp (sg s a) d<0)=s from(k2w.2 (q2B hx.pos)).trans (q3V s ha)] at Y;rw[U] at E;rw[W] at F;have hn:=E.sz (sa.mono (q1P a d));have hm:=F.sz (sb.mono (q1P b e'));have HA:=vv E;have HB:=vv F;have a3:=vv sd;have a4:=vv se;have HZ:=vv (q6Q s a b d e');have HR:qj (q0F ((lp a d).natAbs*ld b e') ((lp b e').natAbs*ld a d)=q0F (a*e') (b*d)):=by
  refine vv ?_;have e1:=q2l ha hx.pos;have e2:=q2l hb hy.pos;have f1:ld a d*a=d*(lp a d).natAbs:=by have:=e1.2.1;exact_mod_cast this
  have f2:ld b e'*b=e'*(lp b e').natAbs:=by have:=e2.2.1;exact_mod_cast this
  rw[<- q2C (d*e') _ _ (k0l hx.pos hy.pos),<- q2C (ld a d*ld b e') (a*e') (b*d) (k0l (q0S hx.pos) (q0S hy.pos))];congr 1
  ·calc d*e'*((lp a d).natAbs*ld b e')=(d*(lp a d).natAbs)*(e'*ld b e'):=by grind
    _=(ld a d*a)*(e'*ld b e'):=by rw[f1]
    _=_:=by grind
  ·calc d*e'*((lp b e').natAbs*ld a d)=(e'*(lp b e').natAbs)*(d*ld a d):=by grind
    _=(ld b e'*b)*(d*ld a d):=by rw[f2]
    _=_:=by grind
 clear hx hy ha hb E F hz a2 sa sb sd se k0 U V W X;rw[HZ.o];obtain⟨R,G⟩:=yx (q0F (a*e') (b*d));have i:-1<=R/\R<=1:=by rw[G];unfold q0F;(repeat' split)<;>omega
 obtain⟨i,b2⟩:=i;have wR:IntKind.i64.wrap (-R) = -R:=IntWalk.i64_in _ (by omega);rw[<- G] at HR ⊢;clear HZ G;cases s
 all_goals
  simp only[k1o,k2S,k2O] at D M ⊢;go_enter func205,ntmps205;go_wp2_with fail;refine D.o.mono ?_;rintro e w' ⟨rfl,rfl⟩;go_wp2_with fail;refine M.o.mono ?_;rintro e w' ⟨rfl,rfl⟩;go_wp2_with fail;refine D.o.mono ?_;rintro e w' ⟨rfl,rfl⟩;go_wp2_with fail;refine q02 (fun w'=>w'.cell? ⟨g,1,qa⟩=qc (.slice A n c)/\w'.cell? ⟨gx,1,qa⟩=qc (.slice B m Z)) 16
   (.still 0 (.still 1 (.still 2 (.still 3 (.still 4 (.still 5 (.still 8 (.still 9 (.still 10 (.still 11 (.still 12 (.still 13 (.one 6 (.one 7 (.one 14 (.one 15 .done)))))))))))))))) (by kernel_rfl) (by kernel_rfl) (fun _ _ d _ _ h=>by cases d<;>exact h) ⟨q,r⟩ (fun hS0=>?_)
  iterate 12
   refine q01 (v:=?_) rfl (by rfl) ?_ ?_;rotate_left
   ·intro w b3;go_simp;with_reducible rfl
   simp only[Act.put,sa,sb,sc]
  refine q03 rfl (by rfl) (fun K hK=>?_);go_simp;refine(O.o _ a1.o.drew).mono ?_;rintro e w1 ⟨A1,n1,c1,rfl,i,b4,j⟩;have b5:=i.sz (a4.o.mono (q1Y _ _));have a5:=vv i;have x:qj (qe w.heap.size w w1):=vv ⟨j.os,j.tape,j.output,j.size,j.block⟩;clear i j;go_wp2_with fail;refine hK.out _ _ ⟨(x.o.cell (p:=⟨g,1,qa⟩) f).trans q,(x.o.cell (p:=⟨gx,1,qa⟩) u).trans r⟩ (fun H=>?_);clear hK;refine q03 rfl (by rfl) (fun K hK=>?_);go_simp;refine(mulWords A A1 n n1 c c1 _ _ _ (HA.o.below x.o rfl) a5.o (by omega)).mono ?_;rintro e w2 t;obtain⟨A2,n2,c2,rfl,P,b6,Q⟩:=t.val2;have k:=vv P;have y:=vn x Q;clear P Q t;go_wp2_with fail;refine hK.out _ _ ⟨(y.o.cell (p:=⟨g,1,qa⟩) f).trans q,(y.o.cell (p:=⟨gx,1,qa⟩) u).trans r⟩ (fun H=>?_);clear hK;refine q03 rfl (by rfl) (fun K hK=>?_);go_simp;refine(N.o _ (a0.o.below y.o)).mono ?_;rintro e w3 ⟨A3,n3,c3,rfl,I,b7,J⟩;have b8:=I.sz (a3.o.mono (q1Y _ _));have a6:=vv I;have k:=vv (k.o.below J rfl);have z:=vn y J;clear I J;go_wp2_with fail;refine hK.out _ _ ⟨(z.o.cell (p:=⟨g,1,qa⟩) f).trans q,(z.o.cell (p:=⟨gx,1,qa⟩) u).trans r⟩ (fun H=>?_);clear hK;refine q03 rfl (by rfl) (fun K hK=>?_);go_simp;refine(mulWords B A3 m n3 Z c3 _ _ _ (HB.o.below z.o rfl) a6.o (by omega)).mono ?_;rintro e w4 t;obtain⟨A4,n4,c4,rfl,S,b9,L⟩:=t.val2;have a7:=vv S;have k:=vv (k.o.below L rfl);have l:=vn z L;have a8:=(l.o.cell (p:=⟨g,0,qa⟩) f).trans Y;have T:g<w4.heap.size:=k02 f l.o.size;clear S L t;go_wp2_with fail;refine hK.out _ _ ⟨(l.o.cell (p:=⟨g,1,qa⟩) f).trans q,(l.o.cell (p:=⟨gx,1,qa⟩) u).trans r⟩ (fun H=>?_);clear hK;refine q07 ?_;go_wp2_with fail;refine(cmpWords A2 A4 n2 n4 c2 c4 _ _ _ k.o a7.o (by rw[q04]) (by rw[q04])).mono ?_;rintro e w5 ⟨rfl,C⟩;rw[q04,q04,HR.o];have b0:=(C.cell (p:=⟨g,0,qa⟩) T).trans a8;have b1:g<w5.heap.size:=k02 T C.size;have a9:=vn l C;clear C;go_wp2;go_ret;exact⟨rfl,a9.o⟩
theorem CmpS(g gx:Nat)(p q:Int)(d e':Nat)(w:qg)(hx:RatAt w g p d)(hy:RatAt w gx q e')(sa:Sz p.natAbs)(sd:Sz d)(sb:Sz q.natAbs)(se:Sz e'):qh qb 205 #[.pointer (qc ⟨g,0,qa⟩),.pointer (qc ⟨gx,0,qa⟩)] w fun e w'=>e=.returned (.int .i64 (q1Z (p*e') (q*d)))/\qe w.heap.size w w':=by
 by_cases h:p.sign≠q.sign\/p.sign=0
 ·exact q5a g gx p q d e' w hx hy h
 ·rcases k0K p 0 with a|a|a<;>rcases k0K q 0 with b|b|b;all_goals
   simp only[k0L,k0r,a,b,Int.sign_zero,Int.reduceNeg,ne_eq,not_true_eq_false,reduceCtorEq,or_self,not_false_eq_true,or_true,true_or] at h
   try (exact absurd h (by decide))
  ·have c:p=sg true p.natAbs:=by show p = -(p.natAbs:Int);omega
   have f:q=sg true q.natAbs:=by show q = -(q.natAbs:Int);omega
   rw[c] at hx;rw[f] at hy;rw[c,f];exact q3o g gx true _ _ d e' w hx hy (by omega) (by omega) sa sd sb se
  ·have c:p=sg qi p.natAbs:=by show p=(p.natAbs:Int);omega
   have f:q=sg qi q.natAbs:=by show q=(q.natAbs:Int);omega
   rw[c] at hx;rw[f] at hy;rw[c,f];exact q3o g gx qi _ _ d e' w hx hy (by omega) (by omega) sa sd sb se
theorem CmpR(g gx:Nat)(a b d e':Nat)(w:qg)(hx:RatAt w g (a:Int) d)(hy:RatAt w gx (b:Int) e')(sa:Sz a)(sd:Sz d)(sb:Sz b)(se:Sz e'):qh qb 205 #[.pointer (qc ⟨g,0,qa⟩),.pointer (qc ⟨gx,0,qa⟩)] w fun e w'=>e=.returned (.int .i64 (q0F (a*e') (b*d)))/\qe w.heap.size w w':=by
 have c:q1Z ((a:Int)*e') (b*d)=q0F (a*e') (b*d):=by rw[q46 (by have:=k0W (k0d a) (k0d e');omega) (by have:=k0W (k0d b) (k0d d);omega),k0B,k0B];rfl
 rw[<- c];exact CmpS g gx a b d e' w hx hy (by rw[k05];exact sa) sd (by rw[k05];exact sb) se
end A
namespace A
open AB
open Go Go.RowKit
theorem qcI(g gx gy:Nat)(m n:Int)(P Q:Nat)(w:qg)(h:RatSh w g)(hx:RatAt w gx m P)(hy:RatAt w gy n Q)(hm:Nat.gcd m.natAbs P=1)(hn:Nat.gcd n.natAbs Q=1)(hst:Std w)(sp:Sm m.natAbs)(sd:Sm P)(sq:Sm n.natAbs)(se:Sm Q):qh qb 221 #[.pointer (qc ⟨g,0,qa⟩),.pointer (qc ⟨gx,0,qa⟩),.pointer (qc ⟨gy,0,qa⟩),.bool qi] w (q1X g (m*Q+n*P) (P*Q) w):=by
 have S:=hx.lt;have z:=hy.lt;have HX:=vv hx;have HY:=vv hy;have HH:=vv h;have e5:=vv hst;have HM:=vv hm;have HN:=vv hn;obtain⟨i1,i2⟩:=q1t hx.pos hm;obtain⟨i3,i4⟩:=q1t hy.pos hn;have Z:=vv hx.pos;have d1:=vv hy.pos;have M:=vv (q0e (n:=P) hy.pos);have HL:=vv fun s F=>q4b (m:=m) (n:=n) (s:=s) hx.pos hy.pos hm hn F
 have e6:=hx.num;have e7:=hy.num;rw[i1] at e6;rw[i3] at e7;obtain⟨A,na,ca,h0,h1,hr,hz⟩:=e6.ex;obtain⟨B,nb,cb,k0,k1,F,l1⟩:=e7.ex;have HA:=vv hr;have HB:=vv F;have o4:=hr.sz sp.sz;have o5:=F.sz sq.sz;have C:=vv (below gx m P w hx);have i5:=vv fun w' (hb:qe w.heap.size w w')=>below gy n Q w' (hy.below hb)
 rw[i2] at C;rw[i4] at i5;have l2:=vv sd.sz;have l3:=vv se.sz;have W:qj (Sz (m*(Q/Nat.gcd P Q:Nat)).natAbs/\Sz (n*(P/Nat.gcd P Q:Nat)).natAbs/\Sz (m*(Q/Nat.gcd P Q:Nat)+n*(P/Nat.gcd P Q:Nat)).natAbs):=by
  have O:(m*(Q/Nat.gcd P Q:Nat)).natAbs<=m.natAbs*Q:=by rw[k0B,k05];exact k0g _ (k0e _ _)
  have a2:(n*(P/Nat.gcd P Q:Nat)).natAbs<=n.natAbs*P:=by rw[k0B,k05];exact k0g _ (k0e _ _)
  refine vv ⟨(sp.mul se).mono O,(sq.mul sd).mono a2,?_⟩;have a3:=Int.natAbs_add_le (m*(Q/Nat.gcd P Q:Nat)) (n*(P/Nat.gcd P Q:Nat));refine Sz.mono (b:=m.natAbs*Q+n.natAbs*P) ?_ (by omega);have R:=q0H m.natAbs Q;have b2:=q0H n.natAbs P;have b3:=q3t (m.natAbs*Q) (n.natAbs*P);unfold Sm at sp sd sq se;unfold Sz;omega
 obtain⟨v,hv⟩:=h.int;have HV:=vv hv;clear h hx hy hst sp sd sq se hr F hz l1 hm hn i1 i2 i3 i4 e6 e7 hv;go_enter func221,ntmps221;go_wp2_with fail;refine C.o.mono ?_;rintro e w1 ⟨A1,n1,c1,rfl,e8,i6,i7⟩;have o6:=e8.sz l2.o;have i:=vv e8;have i8:=vv i7;have d2:=vv i6;clear e8 i7 i6;go_wp2_with fail;refine(i5.o _ i8.o).mono ?_;rintro e w2 ⟨A2,n2,c2,rfl,e9,i9,f0⟩;have o7:=e9.sz l3.o;have j:=vv e9;have i:=vv (i.o.below f0 rfl);have j0:=vn i8 f0;have d3:=vv i9;clear e9 f0 i9;go_wp2_with fail;refine(q1I A1 A2 n1 n2 c1 c2 P Q w2 i.o j.o (e5.o.fs (Fs.of_nil j0.o)) (by omega) (by omega)).mono ?_;rintro e k ⟨G,n3,c3,rfl,hG,j1,d4⟩;have o8:=hG.le_of i.o (Nat.gcd_le_left _ Z.o);have d5:qj (∀a,G=qc a->a.off=0):=vv fun a e=>(j1 a e).2
 have l:=vv hG;have i:=vv (i.o.below d4 rfl);have j:=vv (j.o.below d4 rfl);have j2:=vn j0 d4;have l4:=j2.o.size;clear hG d4 j1;obtain⟨o,ho⟩:∃o:Obj,o=.cells #[.bool qi,.slice qa 0 0] 142:=⟨_,rfl⟩;have f1:qe k.heap.size k (k.alloc o):=(qf _ k).alloc lr _;have f2:qe (k.alloc o).heap.size (k.alloc o) ((k.alloc o).alloc o):=(qf _ (k.alloc o)).alloc lr _;have j3:(k.alloc o).heap.size=k.heap.size+1:=by simp
 have j4:IntAt (k.alloc o) k.heap.size 0 0:=by rw[ho];exact IntAt.zero k _
 have j5:IntAt ((k.alloc o).alloc o) (k.heap.size+1) 0 0:=by rw[<- j3,ho];exact IntAt.zero _ _
 obtain⟨wx,b9⟩:=yx ((k.alloc o).alloc o);have a5:qe k.heap.size k wx:=by rw[b9];exact f1.trans (f2.mono f1.size)
 have q:=vv (j4.below f2);have r:=vv j5;rw[<- b9] at q r;have i:=vv (i.o.below a5 rfl);have j:=vv (j.o.below a5 rfl);have l:=vv (l.o.below a5 rfl);have C:=vn j2 a5;have j6:wx.heap.size=k.heap.size+1+1:=by rw[b9];simp
 have l5:=vv b9;have HO:=vv ho;have o9:=vv j6;have Y:=(C.o.cell (p:=⟨gx,0,qa⟩) S).trans h0;have O:=(C.o.cell (p:=⟨gx,1,qa⟩) S).trans h1;have V:=(C.o.cell (p:=⟨gy,0,qa⟩) z).trans k0;have R:=(C.o.cell (p:=⟨gy,1,qa⟩) z).trans k1;have n6:gx<wx.heap.size:=k02 S C.o.size;have f9:gy<wx.heap.size:=k02 z C.o.size;clear f1 f2 j3 j4 j5 a5 b9 ho j6;go_wp2_with fail;rw[<- HO.o,<- l5.o];refine q02 (fun w'=>w'.cell? ⟨gx,0,qa⟩=qc (.bool (qd (m<0)))/\w'.cell? ⟨gx,1,qa⟩=qc (.slice A na ca)) 15
  (.still 0 (.still 1 (.still 2 (.still 3 (.still 4 (.still 5 (.still 6 (.still 7 (.still 8 (.still 9 (.still 10 (.still 11 (.still 12 (.one 13 (.one 14 .done))))))))))))))) (by kernel_rfl) (by kernel_rfl) (fun _ _ d _ _ h=>by cases d<;>exact h) ⟨Y,O⟩ (fun hS0=>?_)
 iterate 13
  refine q01 (v:=?_) rfl (by rfl) ?_ ?_;rotate_left
  ·intro w j7;go_simp;with_reducible rfl
  simp only[Act.put,sa,sb,sc]
 refine q03 rfl (by rfl) (fun K hK=>?_);go_simp;refine(by_ A2 G n2 n3 c2 c3 Q _ _ j.o.drew l.o.drew M.o (by omega)).mono ?_;rintro e w4 ⟨A4,n4,c4,rfl,f3,-,u⟩;have u:qe wx.heap.size wx w4:=⟨u.os,u.tape,u.output,u.size,u.block⟩;have p0:=f3.le_of j.o (k0e _ _);have l6:=vv f3;have i:=vv (i.o.below u rfl);have j:=vv (j.o.below u rfl);have l:=vv (l.o.below u rfl);have q:=vv (q.o.below u);have r:=vv (r.o.below u);have d6:=vn C u;have Y:=(d6.o.cell (p:=⟨gx,0,qa⟩) S).trans h0;have O:=(d6.o.cell (p:=⟨gx,1,qa⟩) S).trans h1;clear f3 u;go_wp2_with fail;refine hK.out _ _ ⟨Y,O⟩ (fun a4=>?_);clear hK;refine q03 rfl (by rfl) (fun K hK=>?_);go_simp;refine(mulWords A A4 na n4 ca c4 _ _ _ (HA.o.below d6.o rfl) l6.o (by omega)).mono ?_;rintro e w5 c;obtain⟨A5,n5,c5,rfl,j8,l7,T⟩:=c.val2;have l8:=vv j8;have i:=vv (i.o.below T rfl);have j:=vv (j.o.below T rfl);have l:=vv (l.o.below T rfl);have q:=vv (q.o.below T);have r:=vv (r.o.below T);have d7:=vn d6 T;have Y:=(d7.o.cell (p:=⟨gx,0,qa⟩) S).trans h0;have O:=(d7.o.cell (p:=⟨gx,1,qa⟩) S).trans h1;clear j8 T c;go_wp2_with fail;refine hK.out _ _ ⟨Y,O⟩ (fun a4=>?_);clear hK;refine q07 ?_;go_wp2_with fail;refine(set_of _ 0 0 (m*(Q/Nat.gcd P Q:Nat)) _ A5 n5 c5 _ _ q.o l8.o (fun a e=>(l7 a e).2) (by rw[k0B,k05]) (by rw[q2u,k05,k00 (p:=((Q/Nat.gcd P Q:Nat):Int)<0) (Int.not_lt.2 (k0d _))];cases qd (m<0)<;>rfl)).mono ?_;rintro e w6 c;have c:=c.f q.o;have q:=vv c.2.1;have r:=vv (r.o.fs1 c.2.2 (by omega));have i:=vv (i.o.fs d2.o c.2.2);have j:=vv (j.o.fs d3.o c.2.2);have l:=vv (l.o.fs d5.o c.2.2);have d8:=vv (c.below d7.o d7.o.size l4);obtain⟨rfl,-,-⟩:=c;have V:=(d8.o.cell (p:=⟨gy,0,qa⟩) z).trans k0;have R:=(d8.o.cell (p:=⟨gy,1,qa⟩) z).trans k1;have f9:gy<w6.heap.size:=k02 z d8.o.size;go_wp2_with fail;refine q02 (fun w'=>w'.cell? ⟨gy,0,qa⟩=qc (.bool (qd (n<0)))/\w'.cell? ⟨gy,1,qa⟩=qc (.slice B nb cb)) 17
  (.still 0 (.still 1 (.still 2 (.still 3 (.still 4 (.still 5 (.still 6 (.still 7 (.still 8 (.still 9 (.still 10 (.still 11 (.still 12 (.still 13 (.still 14 (.one 15 (.one 16 .done))))))))))))))))) (by kernel_rfl) (by kernel_rfl) (fun _ _ d _ _ h=>by cases d<;>exact h) ⟨V,R⟩ (fun hS0=>?_)
 iterate 15
  refine q01 (v:=?_) rfl (by rfl) ?_ ?_;rotate_left
  ·intro w j7;go_simp;with_reducible rfl
  simp only[Act.put,sa,sb,sc]
 refine q03 rfl (by rfl) (fun K hK=>?_);go_simp;refine(by_ A1 G n1 n3 c1 c3 P _ _ i.o.drew l.o.drew M.o (by omega)).mono ?_;rintro e w7 ⟨A7,n7,c7,rfl,f4,-,y⟩;have y:qe w6.heap.size w6 w7:=⟨y.os,y.tape,y.output,y.size,y.block⟩;have p1:=f4.le_of i.o (k0e _ _);have l9:=vv f4;have i:=vv (i.o.below y rfl);have j:=vv (j.o.below y rfl);have l:=vv (l.o.below y rfl);have q:=vv (q.o.below y);have r:=vv (r.o.below y);have d9:=vn d8 y;have V:=(d9.o.cell (p:=⟨gy,0,qa⟩) z).trans k0;have R:=(d9.o.cell (p:=⟨gy,1,qa⟩) z).trans k1;clear f4 y;go_wp2_with fail;refine hK.out _ _ ⟨V,R⟩ (fun a4=>?_);clear hK;refine q03 rfl (by rfl) (fun K hK=>?_);go_simp;refine(mulWords B A7 nb n7 cb c7 _ _ _ (HB.o.below d9.o rfl) l9.o (by omega)).mono ?_;rintro e w8 c;obtain⟨A8,n8,c8,rfl,j9,m0,U⟩:=c.val2;have m1:=vv j9;have i:=vv (i.o.below U rfl);have j:=vv (j.o.below U rfl);have l:=vv (l.o.below U rfl);have q:=vv (q.o.below U);have r:=vv (r.o.below U);have e0:=vn d9 U;have V:=(e0.o.cell (p:=⟨gy,0,qa⟩) z).trans k0;have R:=(e0.o.cell (p:=⟨gy,1,qa⟩) z).trans k1;clear j9 U c;go_wp2_with fail;refine hK.out _ _ ⟨V,R⟩ (fun a4=>?_);clear hK;refine q07 ?_;go_wp2_with fail;refine(set_of _ 0 0 (n*(P/Nat.gcd P Q:Nat)) _ A8 n8 c8 _ _ r.o m1.o (fun a e=>(m0 a e).2) (by rw[k0B,k05]) ?_).mono ?_
 ·rw[q2u,k05,k00 (p:=((P/Nat.gcd P Q:Nat):Int)<0) (Int.not_lt.2 (k0d _))];cases qd (n<0)<;>cases qd (0<n.natAbs*(P/Nat.gcd P Q))<;>rfl
 rintro e w9 c;have c:=c.f r.o;have r:=vv c.2.1;have q:=vv (q.o.fs1 c.2.2 (by omega));have i:=vv (i.o.fs d2.o c.2.2);have j:=vv (j.o.fs d3.o c.2.2);have l:=vv (l.o.fs d5.o c.2.2);have k2:=vv (c.below e0.o e0.o.size (by omega));obtain⟨rfl,-,-⟩:=c;clear Y O V R;go_wp2_with fail;refine(Add _ 0 _ 0 _ 0 _ _ _ _ q.o q.o r.o W.o.1 W.o.2.1).mono ?_;rintro e X c;have c:=c.f q.o;have q:=vv c.2.1;have i:=vv (i.o.fs d2.o c.2.2);have j:=vv (j.o.fs d3.o c.2.2);have l:=vv (l.o.fs d5.o c.2.2);have a8:=vv (c.below k2.o k2.o.size (by omega));obtain⟨rfl,-,-⟩:=c;obtain⟨s,F⟩:=yx (m*(Q/Nat.gcd P Q:Nat)+n*(P/Nat.gcd P Q:Nat));have W:=vv W.o.2.2;have HL:=vv (HL.o s F);rw[<- F] at q W;have HS:=vv F;have D:=q.o.lt;have c0:=q.o;obtain⟨AS,ns,cs,I,J,e2,k3⟩:=c0.ex;have f5:=e2.words;have p2:=e2.sz W.o;have e3:=vv e2;have p3:=vv k3;clear F e2 k3 c0;rcases k01 ns with hz|n9
 ·subst hz;have k4:s=0:=by have:=q06.1 f5;omega
  have HF:qj (m*Q+n*P=0):=by
   refine vv ?_;have e1:=HL.o.2;rw[k4] at e1;have hp:(0:Int)<(P/Nat.gcd P Q*(Q/Nat.gcd (Int.natAbs 0) (Nat.gcd P Q)):Nat):=by have:0<P/Nat.gcd P Q*(Q/Nat.gcd (Int.natAbs 0) (Nat.gcd P Q)):=k0l (k1e (k13 Z.o (k15 _ _)) M.o) (by rw[k2g,k25];exact k1e (k13 d1.o (k0z _ _)) M.o);omega
   simp [sg] at e1;have:=Int.mul_eq_zero.1 e1.symm;rcases this with h|h
   ·exact h
   ·have h':((P/Nat.gcd P Q*(Q/Nat.gcd (Int.natAbs 0) (Nat.gcd P Q)):Nat):Int)=0:=by
     rw[k2g,k25]
     exact_mod_cast h
    omega
  clear k4 f5;have hB:qe X.heap.size X (X.alloc (.cells #[.int .u32 1] 54)):=(qf _ _).alloc lr _;have hO:Own (X.alloc (.cells #[.int .u32 1] 54)) X.heap.size 54 [1]:=Own.lit _ (q0y.2 ⟨by omega,q0N⟩) (by simp [q0q]);have f6:=vn a8 hB;have HO:=vv hO;clear hB hO;go_wp2_with fail;refine(q9B g qi qa (qc ⟨X.heap.size,0,qa⟩) 0 0 1 1 [] [1] _ (HH.o.below f6.o) (Rd.nil _) (HO.o.rd rfl lr (by omega)) (by decide) (fun a e=>by cases e) (fun a e=>by cases e;rfl) (e5.o.fs (Fs.of_nil f6.o)) (by omega) (by omega)).mono ?_;rintro e e4 ⟨rfl,hR,hF⟩;have HR:=vv hR;go_wp2;go_ret;refine⟨rfl,?_,hF.after f6.o⟩;rw[HF.o];exact HR.o.cross (k0l Z.o d1.o) (by simp [sg,val])
 ·have p4:((ns:Int)==0)=qi:=by simp;omega
  clear f5;go_wp2_with fail;refine(q1I AS G ns n3 cs c3 _ _ _ e3.o l.o (e5.o.fs (Fs.of_nil a8.o)) (by omega) (by omega)).mono ?_;rintro e e4 ⟨H,k5,k6,rfl,f7,k7,L⟩;have o0:=f7.le_of l.o (Nat.gcd_le_right _ M.o);have E:=vv f7;have m2:qj (∀a,H=qc a->a.off=0):=vv fun a e=>(k7 a e).2
  have f8:=vv (q0e (n:=s.natAbs) M.o);have e3:=vv (e3.o.below L rfl);have i:=vv (i.o.below L rfl);have j:=vv (j.o.below L rfl);have l:=vv (l.o.below L rfl);have I:=(L.cell (p:=⟨k.heap.size,0,qa⟩) D).trans I;have J:=(L.cell (p:=⟨k.heap.size,1,qa⟩) D).trans J;have D:k.heap.size<e4.heap.size:=k02 D L.size;have g0:=vn a8 L;clear f7 k7 L;go_wp2_with fail;refine q02 (fun w'=>w'.cell? ⟨k.heap.size,0,qa⟩=qc (.bool (qd (s<0)))/\w'.cell? ⟨k.heap.size,1,qa⟩=qc (.slice AS ns cs)) 14
   (.still 0 (.still 1 (.still 2 (.still 3 (.still 4 (.still 5 (.still 6 (.still 7 (.still 8 (.still 9 (.still 10 (.still 11 (.one 12 (.one 13 .done)))))))))))))) (by kernel_rfl) (by kernel_rfl) (fun _ _ d _ _ h=>by cases d<;>exact h) ⟨I,J⟩ (fun hS0=>?_)
  iterate 12
   refine q01 (v:=?_) rfl (by rfl) ?_ ?_;rotate_left
   ·intro w j7;go_simp;with_reducible rfl
   simp only[Act.put,sa,sb,sc]
  refine q03 rfl (by rfl) (fun K hK=>?_);go_simp;refine(by_ AS H ns k5 cs k6 _ _ _ e3.o.drew E.o.drew f8.o (by omega)).mono ?_;rintro e k8 ⟨p5,k9,p6,rfl,c6,-,t⟩;have t:qe e4.heap.size e4 k8:=⟨t.os,t.tape,t.output,t.size,t.block⟩;have a9:=vv c6;have i:=vv (i.o.below t rfl);have j:=vv (j.o.below t rfl);have l:=vv (l.o.below t rfl);have E:=vv (E.o.below t rfl);have I:=(t.cell (p:=⟨k.heap.size,0,qa⟩) D).trans I;have J:=(t.cell (p:=⟨k.heap.size,1,qa⟩) D).trans J;have D:k.heap.size<k8.heap.size:=k02 D t.size;have g1:=vn g0 t;clear c6 t;go_wp2_with fail;refine hK.out _ _ ⟨I,J⟩ (fun a4=>?_);clear hK;refine q03 rfl (by rfl) (fun K hK=>?_);go_simp;refine(copied _ _ _ _ _ a9.o).mono ?_;rintro e p7 ⟨rfl,hO,N⟩;have g2:=vv (hO.rd a9.o.len.symm lr a9.o.sm);have i:=vv (i.o.below N rfl);have j:=vv (j.o.below N rfl);have l:=vv (l.o.below N rfl);have E:=vv (E.o.below N rfl);have I:=(N.cell (p:=⟨k.heap.size,0,qa⟩) D).trans I;have J:=(N.cell (p:=⟨k.heap.size,1,qa⟩) D).trans J;have a6:=vn g1 N;clear hO N;go_wp2_with fail;refine hK.out _ _ ⟨I,J⟩ (fun a4=>?_);clear hK;refine q07 ?_;go_wp2_with fail;refine(set_of g 0 v (sg (qd (s<0)) (s.natAbs/Nat.gcd s.natAbs (Nat.gcd P Q))) _ _ k9 k9 _ _ (HV.o.below a6.o) g2.o (fun a e=>by cases e;rfl) (q0z _ _) (q1d _ _)).mono ?_;rintro e p8 c;have c:=c.f (HV.o.below a6.o);have g3:=vv ((HH.o.below a6.o).num c);have HF:=vv (c.2.2.after a6.o);have i:=vv (i.o.fs d2.o c.2.2);have j:=vv (j.o.fs d3.o c.2.2);have l:=vv (l.o.fs d5.o c.2.2);have E:=vv (E.o.fs m2.o c.2.2);obtain⟨rfl,-,-⟩:=c;clear I J;go_wp2_with fail;refine(by_ A1 G n1 n3 c1 c3 P _ _ i.o l.o M.o (by omega)).mono ?_;rintro e p9 ⟨m3,m4,m5,rfl,b4,-,a7⟩;have o1:=b4.le_of i.o (k0e _ _);have b5:=vv b4;have j:=vv (j.o.below a7 rfl);have E:=vv (E.o.below a7 rfl);have g4:=vv a7;clear b4 a7;go_wp2_with fail;refine(by_ A2 H n2 k5 c2 k6 Q _ _ j.o E.o f8.o (by omega)).mono ?_;rintro e q0 ⟨m6,m7,m8,rfl,b6,-,b7⟩;have o2:=b6.le_of j.o (k0e _ _);have g5:=vv b6;have b5:=vv (b5.o.below b7 rfl);have g6:=vn g4 b7;clear b6 b7;go_wp2_with fail;refine(mulWords m3 m6 m4 m7 m5 m8 _ _ _ b5.o g5.o (by omega)).mono ?_;rintro e m9 c;obtain⟨q1,q2,q3,rfl,c9,g7,d0⟩:=c.val2;have b8:=vn g6 d0;have l0:qj (0<P/Nat.gcd P Q*(Q/Nat.gcd s.natAbs (Nat.gcd P Q))):=vv (k0l (k1e (k13 Z.o (k15 _ _)) M.o) (k1e (k13 d1.o (k2m (k0z _ _) (k0z _ _))) f8.o));have g8:=vv (c9.den l0.o (fun a e=>(g7 a e).2));clear c9 d0 c;obtain⟨hi,x,hx⟩:=g3.o;have g9:=(b8.o.cell (p:=⟨g,2,qa⟩) hi.lt).trans hx;have hi:=hi.below b8.o;have o3:=hi.lt;have q4:=hi.fz 2;have HI:=vv hi;have n0:=vv g9;have i0:qj (Fs [(g,0,2)] w m9):=vv ((HF.o.trans (Fs.of_nil b8.o)).drop (fun p hp _=>by simpa using hp) (fun p hp=>by simpa using hp));clear hi hx;go_wp2;go_ret;refine⟨rfl,RatAt.made HI.o ⟨x,n0.o⟩ g8.o (k0l Z.o d1.o) l0.o (by rw[q0z];exact HL.o.1) ?_,fs3 (i0.o.trans (Fs.set2 HI.o _))⟩;rw[HL.o.2]
theorem AddR(g gx gy:Nat)(p q:Int)(d e':Nat)(w:qg)(h:RatSh w g)(hx:RatAt w gx p d)(hy:RatAt w gy q e')(hst:Std w)(sp:Sm p.natAbs)(sd:Sm d)(sq:Sm q.natAbs)(se:Sm e'):qh qb 300 #[.pointer (qc ⟨g,0,qa⟩),.pointer (qc ⟨gx,0,qa⟩),.pointer (qc ⟨gy,0,qa⟩)] w (q1X g (p*e'+q*d) (d*e') w):=by
 have a:qj ((lp p d*↑(ld q e')+lp q e'*↑(ld p d))*((d*e':Nat):Int)=(p*e'+q*d)*((ld p d*ld q e':Nat):Int)):=by
  have b:=q0r p d;have c:=q0r q e';refine vv ?_;simp only[k08]
  calc (lp p d*↑(ld q e')+lp q e'*↑(ld p d))*(↑d*↑e')=(lp p d*d)*↑(ld q e')*e'+(lp q e'*e')*↑(ld p d)*d:=by grind
   _=(p*ld p d)*↑(ld q e')*e'+(q*ld q e')*↑(ld p d)*d:=by rw[b,c]
   _=_:=by grind
 have f:=vv (k0l hx.pos hy.pos);have i:=vv (qcI g gx gy (lp p d) (lp q e') (ld p d) (ld q e') w h (hx.cross (q0S hx.pos) (q0r p d).symm) (hy.cross (q0S hy.pos) (q0r q e').symm) (q1F hx.pos) (q1F hy.pos) hst (sp.mono (q1P _ _)) (sd.mono (q1Y _ _)) (sq.mono (q1P _ _)) (se.mono (q1Y _ _)));clear h hx hy hst sp sd sq se;go_enter func300,ntmps300;go_wp2_with fail;refine i.o.mono ?_;rintro e m ⟨rfl,j,k⟩;have l:=vv j;go_wp2;go_ret;exact⟨rfl,l.o.cross f.o a.o,k⟩
end A
end Go.Proofs.YtabcgemembkkcaaGreatDoor
