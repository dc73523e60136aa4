/- Lemmas. -/
import Derived.Test.YthopehoklmgphaaGreatDoorPartBA
set_option linter.all false
set_option maxRecDepth 100000
open Go.Proofs.Tryz
open Option renaming none->qa,some->qc
open Go.Proofs.Tryz renaming prog->qb
open Go renaming World->qd,Calls->qe,RowKit.Below.refl->qf
namespace Go.Proofs.YthopehoklmgphaaGreatDoor
namespace A
open AB
open Go Go.RowKit
def Cmp_ff:=@AB.Cmp_ff 253
def Cmp_tt:=@AB.Cmp_tt 253
def Cmp_ne:=@AB.Cmp_ne 253
def Cmp:=@AB.Cmp 253
def Bit0:=@AB.Bit0 259
end A
namespace A
open AB
open Go Go.RowKit
def QuoRem:=@AB.QuoRem 258
def DivMod_up:=@AB.DivMod_up 254
def DivMod_low:=@AB.DivMod_low 254
def DivMod:=@AB.DivMod 254
end A
namespace A
open AB
open Go Go.RowKit
set_option maxHeartbeats 400000 in
theorem Exp(g o gx ox gy oy:Nat)(v:Int)(x y:Nat)(w:qd)(h:IntAt w g o v)(hx:IntAt w gx ox (x:Int))(hy:IntAt w gy oy (y:Int))(hx0:0<x)(hy0:0<y)(hs:Sz (x^y))(hsy:Sz y):qe qb 124 #[.pointer (qc ⟨g,o,qa⟩),.pointer (qc ⟨gx,ox,qa⟩),.pointer (qc ⟨gy,oy,qa⟩),.pointer qa] w (q7o g o ((x^y:Nat):Int) w):=by
 have U:=vv h;have HX:=vv hx;have HY:=vv hy;have b6:=hy.lt;have E:Hid (∀q,q<=y->Sz (x^q)):=vv fun q hq=>hs.mono (k05 hx0 hq)
 have a3:Hid ((y:Int).sign=1):=vv (k0G (by omega));have a4:=vv hsy;have c0:=vv hx0;have a5:=vv hy0;have s:Hid (∀(w:qd) t,Below w.heap.size w (w.alloc (.cells #[.bool false,.slice qa 0 0] t))):=vv fun w t=>(qf _ w).alloc lr _
 have HZ:=vv (IntAt.zero w 200);clear h hx hy hs hsy hx0 hy0;go_enter func124,ntmps124;go_wp2_with fail;refine(NewInt 1 _ (by omega) (by omega)).mono ?_;rintro e r ⟨k,rfl,P,H,I⟩;have a6:=vv H;have J:=vv ((s.o w 200).trans (I.mono (Below.size (s.o w 200))));have a7:=vv (HZ.o.below I);have b7:=H.lt;have b8:w.heap.size<k:=by simp at P;omega
 have a0:=J.o.size;clear H I P;go_wp2_with fail;have K:=vv (J.o.trans ((s.o r 200).mono J.o.size));have Q:=vv (IntAt.zero r 200);refine(Set _ 0 gx ox 0 _ _ Q.o (HX.o.below K.o)).mono ?_;rintro e V c;have c:=c.f Q.o;have L:=vv (c.below K.o (K.o.size) a0);have a8:=vv ((a6.o.below (s.o r 200)).fs1 c.2.2 (by omega));have a9:=vv ((a7.o.below (s.o r 200)).fs1 c.2.2 (by omega));have b0:=vv c.2.1;obtain⟨rfl,-,-⟩:=c;have M:=vv (HY.o.below L.o);go_wp2_with fail;refine(Sign gy oy _ _ M.o).mono ?_;rintro e W ⟨rfl,rfl⟩;rw[a3.o];obtain⟨B,m,d,k0,k1,F,G⟩:=M.o.ex;have O:=vv F;have X:=F.words;have HM:=vv X;have c1:=F.sz a4.o;have a2:=M.o.lt;clear F G k0 X;go_wp2_with fail;refine(copied _ _ _ _ _ O.o).mono ?_;rintro e W ⟨rfl,Y,u⟩;have b1:Hid (ExpInv w w.heap.size k r.heap.size (qc ⟨V.heap.size,0,qa⟩) m x y 0 W):=vv
  ⟨a9.o.below u,by simpa using a8.o.below u,b0.o.below u,Y.rd O.o.len.symm lr O.o.sm,fun a e=>by cases e;rfl,L.o.trans (u.mono L.o.size)⟩
 clear Y u;go_wp2;go_loopw [13] (fun i wr=>∃(z:Int) (j:Nat),i=.int .i64 z/\z+1=j/\j<=32*m/\ExpInv w w.heap.size k r.heap.size (qc ⟨V.heap.size,0,qa⟩) m x y (y/2^j) wr) (fun i _=>(intOf i+1).toNat)
 case atStart =>refine⟨_,32*m,rfl,by omega,lr,?_⟩;have R:=q0l y;have b2:words y=m:=HM.o;rw[b2,q2T] at R;rw[k1c R];exact b1.o
 case round =>
  obtain⟨z,j,rfl,G,hj,Z⟩:=hrel;have l:=vv Z;clear Z;rcases k04 j with rfl|b9
  ·obtain rfl:z = -1:=by omega
   clear G;go_wp2_with fail;have S:=l.o.o;rw[k0R,k1H] at S;refine(Set g o k 0 _ _ _ (U.o.below l.o.bel) S).mono ?_;rintro e w5 c;have hF:=vv ((c.f (U.o.below l.o.bel)).after l.o.bel);obtain⟨rfl,b3,-⟩:=c;go_wp2;go_ret;exact⟨rfl,b3,hF.o⟩
  ·obtain⟨i,rfl⟩:∃i,j=i+1:=⟨j-1,by omega⟩;obtain rfl:z=(i:Int):=by omega
   clear G;have i1:(0:Int)<=(i:Int):=by omega
   have i2:(i:Int)<32*(m:Int):=by omega
   go_wp2_with fail;refine(Mul k 0 k 0 k 0 _ _ _ _ l.o.o l.o.o l.o.o (by simpa using E.o _ (k0y _ _)) (by simpa using E.o _ (k0y _ _))).mono ?_;rintro e w4 c;have n:=vv (l.o.step c (q':=2*(y/2^(i+1))) (by rw[<- k0a,<- k0q];congr 2;omega) (by omega) (by omega) (by omega));obtain⟨rfl,-,-⟩:=c;obtain⟨b,off,b4,c2,hc⟩:=n.o.words.cell (by omega);cases b4;have T:=hc (i/32) (by omega);rw[k13] at T;clear hc;have C:=q51 (nth (toL y) (i/32)) (i%32) (n.o.words.nth_lt _);rw[q8W] at C;have HQ:=vv (q2C y i);by_cases hb:y/2^i%2=1
   ·rw[k03 hb] at C;have D:Hid (y/2^i=2*(y/2^(i+1))+1):=vv (by have:=HQ.o;omega);clear hb;go_wp2_with fail;refine(Mul k 0 k 0 r.heap.size 0 _ _ _ _ n.o.o n.o.o n.o.base (by simpa using E.o _ (by have:=k0y y (2^i);have:=D.o;omega)) (by simpa using E.o 1 a5.o)).mono ?_;rintro e w5 c;have p:=vv (n.o.step c (q':=y/2^i) (by rw[D.o,k0q x _ 1,k29,k0a]) (by omega) (by omega) (by omega));obtain⟨rfl,-,-⟩:=c;obtain⟨A5,c5,b5⟩:=p.o.by_.nil;have a1:=p.o.by_.lt;clear T C;go_wp2;go_roundw
    case rel=>exact⟨_,i,rfl,by omega,by omega,p.o⟩
    case measure=>simp [intOf]
   ·rw[k00 hb] at C;have D:Hid (y/2^i=2*(y/2^(i+1))):=vv (by have:=HQ.o;omega);clear hb;have N:=n.o;rw[<- D.o] at N;have p:=vv N;obtain⟨A5,c5,b5⟩:=p.o.by_.nil;have a1:=p.o.by_.lt;clear N;go_wp2;go_roundw
    case rel=>exact⟨_,i,rfl,by omega,by omega,p.o⟩
    case measure=>simp [intOf]
end A
namespace A
open AB
open Go Go.RowKit
theorem Exp0(g o gx ox gy oy:Nat)(v x:Int)(w:qd)(h:IntAt w g o v)(hx:IntAt w gx ox x)(hy:IntAt w gy oy 0):qe qb 124 #[.pointer (qc ⟨g,o,qa⟩),.pointer (qc ⟨gx,ox,qa⟩),.pointer (qc ⟨gy,oy,qa⟩),.pointer qa] w (q7o g o 1 w):=by
 have q:=vv h;have E:=vv hx;have F:=vv hy;have I:=hy.lt;have b:Hid (∀(w:qd) t,Below w.heap.size w (w.alloc (.cells #[.bool false,.slice qa 0 0] t))):=vv fun w t=>(qf _ w).alloc lr _
 have G:=vv (IntAt.zero w 200);clear h hx hy;go_enter func124,ntmps124;go_wp2_with fail;refine(NewInt 1 _ (by omega) (by omega)).mono ?_;rintro e d ⟨r,rfl,m,i,j⟩;have s:=vv i;have k:=vv ((b.o w 200).trans (j.mono (Below.size (b.o w 200))));have u:=vv (G.o.below j);have J:=i.lt;have K:w.heap.size<r:=by simp at m;omega
 have y:=k.o.size;clear i j m;go_wp2_with fail;have l:=vv (k.o.trans ((b.o d 200).mono k.o.size));have n:=vv (IntAt.zero d 200);refine(Set _ 0 gx ox 0 _ _ n.o (E.o.below l.o)).mono ?_;rintro e N a;have a:=a.f n.o;have c:=vv (a.below l.o (l.o.size) y);have z:=vv ((s.o.below (b.o d 200)).fs1 a.2.2 (by omega));have p:=vv ((u.o.below (b.o d 200)).fs1 a.2.2 (by omega));obtain⟨rfl,-,-⟩:=a;have C:=vv (F.o.below c.o);go_wp2_with fail;refine(Sign gy oy _ _ C.o).mono ?_;rintro e O ⟨rfl,rfl⟩;rw[Int.sign_zero];obtain⟨P,Q,L⟩:=p.o.nil;have M:=p.o.lt;go_wp2_with fail;refine(Set g o r 0 _ _ _ (q.o.below c.o) z.o).mono ?_;rintro e R a;have H:=vv ((a.f (q.o.below c.o)).after c.o);obtain⟨rfl,D,-⟩:=a;go_wp2;go_ret;exact⟨rfl,D,H.o⟩
theorem ExpN(g o gx ox gy oy:Nat)(v:Int)(x y:Nat)(w:qd)(h:IntAt w g o v)(hx:IntAt w gx ox (x:Int))(hy:IntAt w gy oy (y:Int))(hx0:0<x)(hs:Sz (x^y))(hsy:Sz y):qe qb 124 #[.pointer (qc ⟨g,o,qa⟩),.pointer (qc ⟨gx,ox,qa⟩),.pointer (qc ⟨gy,oy,qa⟩),.pointer qa] w (q7o g o ((x^y:Nat):Int) w):=by
 rcases k04 y with rfl|a
 ·exact Exp0 g o gx ox gy oy v x w h hx hy
 ·exact Exp g o gx ox gy oy v x y w h hx hy hx0 a hs hsy
end A
namespace B
open AB
open Go Go.RowKit
theorem TrailingZeroBits(g o:Nat)(u:Int)(w:qd)(h:IntAt w g o u)(hu:u≠0)(hs:Std w):qe qb 206 #[.pointer (qc ⟨g,o,qa⟩)] w fun e w'=>e=.returned (.int .u64 ((tz u.natAbs:Nat):Int))/\w=w':=by
 have i:=h.lt;obtain⟨A,n,c,j,b,a,d⟩:=h.ex;have f:=vv (zeros A n c u.natAbs w a (by omega) hs);have k:(tz u.natAbs:Int)<18446744073709551616:=by have b:=q1j (n:=u.natAbs) (by omega);have l:bl u.natAbs<=32*words u.natAbs:=q1g (by have h:=q0l u.natAbs;rwa [show(4294967296:Nat)^words u.natAbs=2^(32*words u.natAbs) by rw[k18]] at h);have m:=a.words;have p:=a.sm;omega
 have q:IntKind.u64.wrap ((tz u.natAbs:Nat):Int)=((tz u.natAbs:Nat):Int):=by rw[IntKind.wrap_u64];omega
 clear a d h hs hu;go_enter func206,ntmps206;go_wp2_with fail;refine f.o.mono ?_;rintro e r ⟨rfl,rfl⟩;go_wp2;go_ret;exact⟨rfl,rfl⟩
end B
namespace B
open AB
open Go Go.RowKit
theorem Rsh(g o gx ox k:Nat)(v u:Int)(w:qd)(h:IntAt w g o v)(hx:IntAt w gx ox u)(hu:0<=u)(hk:k<30000000000000):qe qb 207 #[.pointer (qc ⟨g,o,qa⟩),.pointer (qc ⟨gx,ox,qa⟩),.int .u64 (k:Int)] w (q0L g o (u/2^k) w):=by
 have l:=vv h;have d:=hx.lt;obtain⟨A,n,c,f,m,q,t⟩:=hx.ex;have r:decide (u<0)=false:=k00 (by omega);rw[r] at f;have K:IntKind.i64.wrap (k:Int)=(k:Int):=by rw[IntKind.wrap_i64];omega
 have x:=vv (down A n c _ k _ rfl w q (by omega));have y:Hid ((u/2^k).natAbs=u.natAbs/2^k):=vv (by
  obtain⟨N,rfl⟩:∃N:Nat,u=(N:Int):=⟨u.toNat,by omega⟩;have:((N:Int)/2^k)=((N/2^k:Nat):Int):=by rw[k1k,k0v];rfl
  rw[this];rfl)
 have z:Hid (0<=u/2^k):=vv (Int.ediv_nonneg hu (by
  have:(0:Int)<2^k:=by exact_mod_cast k1I (n:=k) (show 0<2 by decide)
  omega))
 clear q t h hx hk hu r;go_enter func207,ntmps207;go_wp2_with fail;refine x.o.mono ?_;rintro e C ⟨D,E,F,rfl,i,j,b⟩;have s:=vv b;have M:=(b.cell (p:=⟨gx,ox,qa⟩) d).trans f;have O:=(b.cell (p:=⟨gx,ox+1,qa⟩) d).trans m;rw[q06] at i;have G:=vv i;have H:=vv j;have L:gx<C.heap.size:=k01 d b.size;clear i j b f m d;go_wp2_with fail;refine(set_of g o v (u/2^k) _ D E F (u.natAbs/2^k) _ (l.o.below s.o) G.o (fun a e=>(H.o a e).2) y.o (q2P z.o)).mono ?_;rintro e P ⟨rfl,I,J⟩;go_wp2;go_ret;exact⟨rfl,I,(Fm.of_below s.o l.o.lt).trans J⟩
end B
namespace B
open AB
open Go Go.RowKit
def qcJ(N:Nat)(w:qd)(e:Ending)(w':qd):Prop:=∃A n c,e=.returned (.slice A n c)/\Rd w' A n c (toL N)/\(∀a,A=qc a->a.off=0/\w.heap.size<=a.block)/\Below w.heap.size w w'
theorem Words_(g o:Nat)(u:Int)(w:qd)(h:IntAt w g o u):qe qb 267 #[.pointer (qc ⟨g,o,qa⟩)] w (qcJ u.natAbs w):=by
 have s:=h.lt;obtain⟨A,n,c,j,v,b,k⟩:=h.ex;have t:=b.sm;clear k h j;rcases k04 n with rfl|l
 ·have d:=vv b;clear b;go_enter func267,ntmps267;go_wp2;go_ret;have m:=d.o.len;have p:toL u.natAbs=[]:=k2v.1 m;exact⟨qa,0,0,rfl,by rw[p];exact⟨rfl,lr,by omega,q0Q,fun h=>absurd h (by omega)⟩,fun a e=>(by cases e),qf _ _⟩
 ·have d:=vv b;have x:((n:Int)==0)=false:=by rw[k02];omega
  clear b l;go_enter func267,ntmps267;go_wp2_with fail;refine(copied _ _ _ _ _ d.o).mono ?_;rintro e y ⟨rfl,f,i⟩;have q:=vv f;have r:=vv i;clear f i;go_wp2;go_ret;exact⟨_,n,n,rfl,q.o.rd d.o.len.symm lr d.o.sm,fun a e=>(by cases e;exact⟨rfl,lr⟩),r.o⟩
end B
namespace R2
open Go Go.RowKit B AB
end R2
namespace A
open AB
open Go Go.RowKit
def below:=@AB.below 304
def Num:=@AB.Num 301
theorem Denom(g:Nat)(p:Int)(d:Nat)(w:qd)(h:RatAt w g p d):qe qb 252 #[.pointer (qc ⟨g,0,qa⟩)] w (q1s (ld p d:Nat) w):=by
 have z:=h.lt;have i:Hid (∀t,Below w.heap.size w (w.alloc (.cells #[.bool false,.slice qa 0 0] t))):=vv fun t=>(qf _ w).alloc lr _
 have s:=vv h;clear h;go_enter func252,ntmps252;go_wp2_with fail;refine(below g p d _ (s.o.below (i.o _))).mono ?_;rintro e C ⟨A,n,c,rfl,l,D,b⟩;have u:=vv ((IntAt.zero w 200).below b);have j:=vv l;have q:=vv ((i.o 200).trans (b.mono (i.o _).size));clear l b;go_wp2_with fail;refine(copied _ _ _ _ _ j.o).mono ?_;rintro e E ⟨rfl,m,f⟩;have v:=vv m;have r:=vv (u.o.below f);have k:=vn q f;clear m f;go_wp2_with fail;refine(set_of _ 0 0 (ld p d:Nat) _ _ n n (ld p d) _ r.o (v.o.rd j.o.len.symm lr j.o.sm) (fun a e=>by cases e;rfl) rfl (q2P (by omega))).mono ?_;rintro e F ⟨rfl,x,y⟩;go_wp2;go_ret;exact⟨_,rfl,lr,x,y.below k.o k.o.size lr⟩
def RSign:=@AB.RSign 302
end A
namespace A
open AB
open Go Go.RowKit
def Rset_zero:=@AB.Rset_zero 299
theorem q5z(g:Nat)(b:Bool)(A B:Option Addr)(n c m d:Nat)(xs ys:List Nat)(w:qd)(h:RatSh w g)(ha:Rd w A n c xs)(hb:Rd w B m d ys)(hD:0<val ys)(h0:0<val xs)(hza:∀a,A=qc a->a.off=0)(hzb:∀a,B=qc a->a.off=0)
  (hst:Std w) (hn:n<549755813888) (hm:m<549755813888) :
  qe qb 299 #[.pointer (qc ⟨g,0,qa⟩),.bool b,.slice A n c,.slice B m d] w (q2X g (sg b (val xs)) (val ys) w):=by
 have HH:=vv h;obtain⟨v,z⟩:=h.int;have Q:=vv z;have b9:=z.lt;have HA:=vv (trim A n c xs w ha);have HB:=vv (trim B m d ys w hb);have HD:=vv hD;have H0:=vv h0;have X:=vv hst;have Y:=vv ha.lim;have Z:=vv hb.lim;have a3:=vv ha.len;have a4:=vv hb.len;have C:=vv (q0F (n:=val xs) hD);have E:=vv (qbm (b:=b) (N:=val xs) hD);have F:Hid (0<val ys/Nat.gcd (val xs) (val ys)):=vv (k2l (k2j hD (k0V _ _)) C.o);clear z h ha hb hD h0 hst;go_enter func299,ntmps299;go_wp2_with fail;refine HA.o.mono ?_;rintro e w' ⟨l,rfl,rfl,i⟩;have c0:l<=n:=i.trim_le Y.o (by rw[a3.o];exact lr);have c3:0<l:=by
  rcases k04 l with e|e
  ·have:=i.words;rw[e] at this;have:=q0c.1 this;have:=H0.o;omega
  ·exact e
 have c5:=i.sm;have R:=vv i;clear i;go_wp2_with fail;refine HB.o.mono ?_;rintro e w' ⟨D,rfl,rfl,i⟩;have c6:D<=m:=i.trim_le Z.o (by rw[a4.o];exact lr);have G:=vv i;clear i;have c7:((l:Int)==0)=false:=by simp;omega
 go_wp2_with fail;refine(q3v A B l D c d _ _ _ R.o G.o X.o (by omega) (by omega)).mono ?_;rintro e w1 ⟨S,T,U,rfl,V,a5,y⟩;have H:=vv V;have I:=vv y;have a6:=vv (R.o.below y rfl);have a1:=vv (G.o.below y rfl);clear V;go_wp2_with fail;refine q02 (fun _=>True) 7
  (.still 0 (.still 1 (.still 2 (.still 3 (.still 4 (.still 5 (.one 6 .done))))))) (by kernel_rfl) (by kernel_rfl) (fun _ _ d _ _ h=>by cases d<;>exact h) trivial (fun hS0=>?_)
 clear hS0
 iterate 6
  refine q01 (v:=?_) rfl (by rfl) ?_ ?_;rotate_left
  ·intro w c8;go_simp;with_reducible rfl
  simp only[Act.put,sa,sb,sc]
 refine q04 rfl (by rfl) (fun K hK=>?_);go_simp;refine(by_ A S l T c U _ _ _ a6.o.drew H.o.drew C.o (by omega)).mono ?_;rintro e w2 ⟨W,k2,c2,rfl,q,J,r⟩;have s:Hid (Below w.heap.size w w2):=vv ((q07 I.o).trans (r.mono (by simpa using I.o.size)));have L:∀a,W=qc a->a.off=0:=fun a e=>by
  rcases J with j|j
  ·exact(j a e).2
  ·exact hza a (j ▸ e)
 have HQ:=vv q;have a7:=vv L;have a8:=vv (H.o.drew.below r rfl);have a0:=vv (a1.o.drew.below r rfl);clear q L J r;go_wp2_with fail;refine hK.out _ _ trivial (fun a2=>?_);clear hK;refine q0a ?_;go_wp2_with fail;refine(set_of g 0 v (sg b (val xs/Nat.gcd (val xs) (val ys))) _ W k2 c2 _ _ (Q.o.below s.o) HQ.o a7.o (q1t _ _) (q2d _ _)).mono ?_;rintro e w3 k;have k:=k.f (Q.o.below s.o);have a9:=vv k.2.2;have b0:=vv ((HH.o.below s.o).num k);have b1:=vv (a8.o.fs (fun a e=>(a5 a e).2) k.2.2);have b2:=vv (a0.o.fs hzb k.2.2);obtain⟨rfl,-,-⟩:=k;go_wp2_with fail;refine(by_ B S D T d U _ _ _ b2.o b1.o C.o (by omega)).mono ?_;rintro e w4 ⟨A4,k4,c4,rfl,q,M,t⟩;have O:∀a,A4=qc a->a.off=0:=fun a e=>by
  rcases M with j|j
  ·exact(j a e).2
  ·exact hzb a (j ▸ e)
 have b3:=vv q;have b4:=vv O;obtain⟨hi,x,hx⟩:=b0.o;have u:=hi.below t;have b5:=(t.cell (p:=⟨g,2,qa⟩) hi.lt).trans hx;have b8:=u.lt;have c9:=u.fz 2;have P:=vv u;have b6:=vv b5;have b7:Hid (Fs [(g,0,2)] w w4):=vv (((a9.o.after s.o).trans (Fs.of_nil t)).drop (fun p hp _=>by simpa using hp) (fun p hp=>by simpa using hp));clear q O M t hi u hx;go_wp2;go_ret;refine⟨rfl,RatAt.made P.o ⟨x,b6.o⟩ (b3.o.den F.o b4.o) HD.o F.o E.o.1 E.o.2,fs3 ?_⟩;exact b7.o.trans (Fs.set2 P.o _)
end A
namespace A
open AB
open Go Go.RowKit
theorem qdO(g:Nat)(b:Bool)(A B:Option Addr)(n c m d:Nat)(xs ys:List Nat)(w:qd)(h:RatSh w g)(ha:Rd w A n c xs)(hb:Rd w B m d ys)(hD:0<val ys)(hza:∀a,A=qc a->a.off=0)(hzb:∀a,B=qc a->a.off=0)
  (hst:Std w) (hn:n<549755813888) (hm:m<549755813888) :
  qe qb 299 #[.pointer (qc ⟨g,0,qa⟩),.bool b,.slice A n c,.slice B m d] w (q2X g (sg b (val xs)) (val ys) w):=by
 rcases k04 (val xs) with e|e
 ·exact Rset_zero g b A B n c m d xs ys w h ha hb hD e
 ·exact q5z g b A B n c m d xs ys w h ha hb hD e hza hzb hst hn hm
theorem SetFrac(g gx gy:Nat)(u:Int)(D:Nat)(w:qd)(h:RatSh w g)(hx:IntAt w gx 0 u)(hy:IntAt w gy 0 (D:Int))(hD:0<D)(hst:Std w)(hn:Sz u.natAbs)(hm:Sz D):qe qb 249 #[.pointer (qc ⟨g,0,qa⟩),.pointer (qc ⟨gx,0,qa⟩),.pointer (qc ⟨gy,0,qa⟩)] w (q2X g u D w):=by
 have r:=hx.lt;have s:=hy.lt;obtain⟨A,n,c,F,G,H,hz⟩:=hx.ex;obtain⟨B,m,d,y,I,P,hy⟩:=hy.ex;rw[k00 (by omega)] at y;have C:Rd w B m d (toL D):=P;have J:=vv H;have L:=vv C;have HH:=vv h;have R:=vv hst;have HD:=vv hD;have HN:=vv (H.sz hn);have HM:=vv (C.sz hm);clear H hz P C hy h hx hn hm hst hD;have fin:∀i b k l,Below w.heap.size w i->Below i.heap.size i b->Rd b k n n (toL u.natAbs)->Rd b l m m (toL D)->(∀a,k=qc a->a.off=0)->(∀a,l=qc a->a.off=0) ->qe qb 299 #[.pointer (qc ⟨g,0,qa⟩),.bool (decide (u<0)),.slice k n n,.slice l m m] b (q2X g u D w):=by intro i b k l N S ha hb T U;have E:=N.trans (S.mono N.size);refine(qdO g _ k l n n m m _ _ b (HH.o.below E) ha hb (by rw[q06];exact HD.o) T U (R.o.fs (Fs.of_nil E)) (by have:=HN.o;omega) (by have:=HM.o;omega)).mono ?_;rintro e q ⟨he,z,M⟩;rw[q06,q06,q6l] at z;exact⟨he,z,M.after E⟩
 have V:=vv fin;clear fin;go_enter func249,ntmps249;go_wp2_with fail;refine q02 (fun q=>q.cell? ⟨gx,0,qa⟩=qc (.bool (decide (u<0)))/\q.cell? ⟨gx,1,qa⟩=qc (.slice A n c)/\q.cell? ⟨gy,0,qa⟩=qc (.bool false)/\q.cell? ⟨gy,1,qa⟩=qc (.slice B m d)) 20
  (.still 0 (.still 1 (.still 2 (.still 3 (.still 4 (.still 5 (.still 6 (.still 7 (.still 8 (.still 9 (.still 10 (.still 11 (.still 12 (.still 13 (.still 15 (.still 16 (.still 17 (.still 18 (.one 14 (.one 19 .done)))))))))))))))))))) (by kernel_rfl) (by kernel_rfl) (fun _ _ d _ _ h=>by cases d<;>exact h) ⟨F,G,y,I⟩ (fun hS0=>?_)
 iterate 18
  refine q01 (v:=?_) rfl (by rfl) ?_ ?_;rotate_left
  ·intro w a0;go_simp;with_reducible rfl
  simp only[Act.put,sa,sb,sc]
 refine q04 rfl (by rfl) (fun K hK=>?_);go_simp;refine(copied _ _ _ _ _ J.o.drew).mono ?_;rintro e i ⟨rfl,Q,j⟩;have HO:=vv (Q.rd J.o.len.symm lr J.o.sm);have f:Hid (Below w.heap.size w i):=vv ⟨j.os,j.tape,j.output,j.size,j.block⟩;clear Q j;go_wp2_with fail;refine hK.out _ _ ⟨(f.o.cell (p:=⟨gx,0,qa⟩) r).trans F,(f.o.cell (p:=⟨gx,1,qa⟩) r).trans G,(f.o.cell (p:=⟨gy,0,qa⟩) s).trans y,(f.o.cell (p:=⟨gy,1,qa⟩) s).trans I⟩ (fun W=>?_);clear hK;refine q04 rfl (by rfl) (fun K hK=>?_);go_simp;refine(copied _ _ _ _ _ (L.o.below f.o rfl)).mono ?_;rintro e b ⟨rfl,O,t⟩;have X:=vv (O.rd L.o.len.symm lr L.o.sm);have Y:=vv (HO.o.below t rfl);have Z:=vv t;have x:=vn f t;clear O t;go_wp2_with fail;refine hK.out _ _ ⟨(x.o.cell (p:=⟨gx,0,qa⟩) r).trans F,(x.o.cell (p:=⟨gx,1,qa⟩) r).trans G,(x.o.cell (p:=⟨gy,0,qa⟩) s).trans y,(x.o.cell (p:=⟨gy,1,qa⟩) s).trans I⟩ (fun W=>?_);clear hK;refine q0a ?_;go_wp2_with fail;refine(V.o i b _ _ f.o Z.o Y.o X.o (fun a e=>by cases e;rfl) (fun a e=>by cases e;rfl)).mono ?_;rintro e w3 ⟨rfl,z,M⟩;have HR:=vv z;go_wp2;go_ret;exact⟨rfl,HR.o,M⟩
end A
end Go.Proofs.YthopehoklmgphaaGreatDoor
