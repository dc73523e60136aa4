/- Lemmas. -/
import Derived.Test.YtabcgemembkkcaaGreatDoorDigsAP
import Derived.Deep.RegionHeld3
set_option linter.all false
set_option maxHeartbeats 1000000
set_option maxRecDepth 100000
open Go.Proofs.Tryz
open Decidable renaming decide->qa
namespace Go.Proofs.YtabcgemembkkcaaGreatDoor
namespace AB
open Go Go.RowKit
def q4z(q r:Nat)(w:World)(e:Ending)(w':World):Prop:=
 ∃A m c A' m' c',e=.returned (.tuple #[.slice A m c,.slice A' m' c'])/\Rd w' A m c (toL q)/\Rd w' A' m' c' (toL r)/\Fr w.heap.size A/\Fr w.heap.size A'/\Below w.heap.size w w'
theorem div_less{fq:FuncId}(A B:Option Addr)(n m c d a b:Nat)(w:World)(ha:Rd w A n c (toL a))(hb:Rd w B m d (toL b))(h:a<b)(hq:fq=332\/fq=283:=by decide):Calls Tryz.prog fq #[.slice A n c,.slice B m d] w (q4z (a/b) (a%b) w):=by
 have r:qa (q14 a b<0)=true:=by rw[q1G h];rfl
 have i:a/b=0:=k0K h;have j:a%b=a:=k0E h;rw[i,j];have k:∀fq,(fq=280\/fq=206)->Calls Tryz.prog fq #[.slice A n c,.slice B m d] w fun e w'=>e=.returned (.int .i64 (q14 a b))/\Below w.heap.size w w':=by intro fq hq;have:=cmpWords (hq:=hq) A B n m c d (toL a) (toL b) w ha hb (by rw[q04]) (by rw[q04]);rw[q04,q04] at this;exact this
 have p:=vv k;clear k i j;rcases hq with rfl|rfl;go_enter func332,ntmps332;rotate_left;go_enter func283,ntmps283;rotate_left;all_goals
  go_wp2_with fail;refine(p.o _ (by decide)).mono ?_;rintro e s ⟨rfl,f⟩;have g:=vv (ha.below f rfl);go_wp2_with fail;refine(copied _ _ _ _ _ g.o).mono ?_;rintro e t ⟨rfl,q,l⟩;go_wp2;go_ret2;exact⟨none,0,0,_,_,_,rfl,Rd.nil _,q.rd g.o.len.symm lr g.o.sm,Fr.none_ _,Fr.at_ f.size,f.trans (l.mono f.size)⟩
theorem div_one{fq:FuncId}(A B:Option Addr)(n c d a b:Nat)(w:World)(ha:Rd w A n c (toL a))(hb:Rd w B 1 d (toL b))(h:b<=a)(hq:fq=332\/fq=283:=by decide):Calls Tryz.prog fq #[.slice A n c,.slice B 1 d] w (q4z (a/b) (a%b) w):=by
 have Q:qa (q14 a b<0)=false:=by simp only[k1i];have:=q1F.2 h;omega
 have y:∀fq,(fq=280\/fq=206)->Calls Tryz.prog fq #[.slice A n c,.slice B 1 d] w fun e z=>e=.returned (.int .i64 (q14 a b))/\Below w.heap.size w z:=by intro fq hq;have:=cmpWords (hq:=hq) A B n 1 c d (toL a) (toL b) w ha hb (by rw[q04]) (by rw[q04]);rw[q04,q04] at this;exact this
 have H:=vv y;have i:words b=1:=hb.words;have q:b<4294967296:=by have:=q0p b;rw[i] at this;simpa using this
 have s:0<b:=by
  rcases k01 b with l|l
  ·subst l;rw[q0h] at i;omega
  ·exact l
 have t:nth (toL b) 0=b:=by rw[q19];simp;omega
 obtain⟨g,off,rfl,C,u⟩:=hb.cell (by omega);have hx:=u 0 (by omega);rw[k1u,t] at hx;clear y i t u;rcases hq with rfl|rfl;go_enter func332,ntmps332;rotate_left;go_enter func283,ntmps283;rotate_left;all_goals
  go_wp2_with fail;refine(H.o _ (by decide)).mono ?_;rintro e I ⟨rfl,f⟩;have J:=vv (ha.below f rfl);have P:I.cell? ⟨g,off,none⟩=some (.int .u32 (b:Int)):=(f.cell (p:=⟨g,off,none⟩) C).trans hx;go_wp2_with fail;refine(divSmall _ _ _ b _ _ J.o s q).mono ?_;rintro e m ⟨K,L,c2,rfl,j,D,E⟩;rw[q04] at j;rw[q04];have M:a%b<4294967296:=k3h (k0i _ s) q;generalize hreq:a%b=r at *
  have v:Own (m.alloc (.cells #[.int .u32 (r:Int)] 54)) m.heap.size 54 [r]:=Own.lit _ (q0y.2 ⟨M,q0L⟩) (by simp [q0k]);have k:=vv (f.trans (E.mono f.size));have F:=vv (k.o.alloc k.o.size (.cells #[.int .u32 (r:Int)] 54));have G:=vv (j.below ((Below.refl _ m).alloc lr (.cells #[.int .u32 (r:Int)] 54)) rfl);have N:=vv v;clear hreq j v;go_wp2_with fail;refine(trim _ _ _ _ _ (N.o.rd (n:=1) (c:=1) rfl lr (by omega))).mono ?_;rintro e z ⟨O,rfl,rfl,x⟩;rw[q3O] at x;go_wp2;go_ret2;exact⟨K,L,c2,_,O,1,rfl,G.o,x,D.mono f.size,Fr.at_ k.o.size,F.o⟩
theorem div_main{fq:FuncId}(A B:Option Addr)(n m c d a b:Nat)(w:World)(ha:Rd w A n c (toL a))(hb:Rd w B m d (toL b))(h:b<=a)(hm:2<=m)(hs:n<17592186044416)(hq:fq=332\/fq=283:=by decide):Calls Tryz.prog fq #[.slice A n c,.slice B m d] w (q4z (a/b) (a%b) w):=by
 have t0:qa (q14 a b<0)=false:=by simp only[k1i];have:=q1F.2 h;omega
 have hc:∀fq,(fq=280\/fq=206)->Calls Tryz.prog fq #[.slice A n c,.slice B m d] w fun e S=>e=.returned (.int .i64 (q14 a b))/\Below w.heap.size w S:=by intro fq hq;have:=cmpWords (hq:=hq) A B n m c d (toL a) (toL b) w ha hb (by rw[q04]) (by rw[q04]);rw[q04,q04] at this;exact this
 have HC:=vv hc;have v:words b=m:=hb.words;have J:words a=n:=ha.words;have X:0<b:=by
  rcases k01 b with h0|h0
  ·subst h0;rw[q0h] at v;omega
  ·exact h0
 have g3:m<=n:=by rw[<- v,<- J];exact q29 h
 obtain⟨g,off,rfl,g4,a0⟩:=hb.cell (by omega);have hx:=a0 (m-1) (by omega);have g5:=hb.nth_lt (m-1);obtain⟨n1,T,n3⟩:=q9h X;rw[v] at n1 T n3;have t1:((m:Int)==1)=false:=by simp;omega
 obtain⟨s,Y⟩:=yx (32-bl (nth (toL b) (m-1)));rw[<- Y] at n1 T n3;have a3:a*2^s<4294967296^(n+1):=by have H:=q0p a;rw[J] at H;have h2:a*2^s<4294967296^n*2^s:=k0L H (k0a _);have h3:2^s<=2^32:=k00 (by omega) (by omega);have h4:4294967296^n*2^s<=4294967296^n*2^32:=k0m _ h3;rw[k0d];omega
 have d3:=vv a3;have d4:=vv Y;have Z:=vv n1;have d8:=vv T;have g6:=vv (And.intro J v);clear hc v J a0 n1 T Y a3 h;have j1:(0:Int)<=(m:Int)-1:=by omega
 have j2:(m:Int)-1<(m:Int):=by omega
 rcases hq with rfl|rfl;go_enter func332,ntmps332;rotate_left;go_enter func283,ntmps283;rotate_left;all_goals as_aux_lemma =>
  go_wp2_with fail;refine(HC.o _ (by decide)).mono ?_;rintro e w1 ⟨rfl,y⟩;have g7:=vv (ha.below y rfl);have g8:=vv (hb.below y rfl);have g9:w1.cell? ⟨g,off+(m-1),none⟩=some (.int .u32 ((nth (toL b) (m-1):Nat):Int)):=(y.cell (p:=⟨g,off+(m-1),none⟩) g4).trans hx;have b7:=vv y;clear y hx;go_wp2_with fail;refine(lz32 _ _ g5).mono ?_;rintro e S ⟨rfl,rfl⟩;rw[<- d4.o];clear g9;go_wp2_with fail;refine(up _ _ _ _ s _ rfl _ g8.o (by omega)).mono ?_;rw[q04];rintro e l ⟨W,f,c2,rfl,K,i0,c5⟩;have i1:f=m:=by rw[<- K.words];exact Z.o
  subst i1;have a4:=K.block_lt (by omega);have i2:=vv K;have i3:=vv (g7.o.below c5 rfl);have L:=vn b7 c5;have a1:=vv a4;clear K i0 c5 a4;have i4:=mk1 n (by omega);have M:Below l.heap.size l (l.alloc (.cells (madeCells #[.int .u32 0] (n+1)) 54)):=(Below.refl _ _).alloc lr _;have d9:=vv (i3.o.below M rfl);have i5:=vv (i2.o.below M rfl);have e0:=vv (Own.made l (n+1) 54);have b8:=vn L M;clear M;have a5:(l.alloc (.cells (madeCells #[.int .u32 0] (n+1)) 54)).heap.size=l.heap.size+1:=World.size_alloc _ _;have a6:=vv a5;clear a5;go_wp2_with fail;refine(up _ _ _ _ s _ rfl _ d9.o (by omega)).mono ?_;rw[q04];rintro e w4 ⟨A4,r,c4,rfl,t,i6,C⟩;have i7:r<=n+1:=t.bound d3.o;have e1:=vv (e0.o.below C (by rw[a6.o];omega));have a7:=vv (i5.o.below C rfl);have b9:=vn b8 C;have d5:Hid (l.heap.size+1<=w4.heap.size):=vv (by have:=C.size;rw[a6.o] at this;exact this);have H1:=vv e1.o.heap;have e2:=vv t;have a8:Hid ((q0k (toL (a*2^s))).length=Nat.min r (n+1)):=vv (by
   have:=t.len;have e:(q0k (toL (a*2^s))).length=r:=by simpa [q0k] using this
   rw[e];exact(k0Y i7).symm)
  have a9:Hid (0+(q0k (toL (a*2^s))).length<=(q0k (List.replicate (n+1) 0)).length):=vv (by have:=t.len;simp only[q0k,k1U,k0H];omega);have Hs:Hid ((Tryz.prog.info? 54).map (·.size)=some 1):=vv (by kernel_rfl);have e3:=vv t.len;clear t i6 C i4;go_wp2_with ((with_reducible refine wpList_copy_splice (o:=⟨some 53,_,_,_,_,_⟩) rfl _ _ 35 35 rfl 54 underlying35 Hs.o _ _ (n+1) (n+1) r c4 rfl rfl l.heap.size 0 _ 54 H1.o (q0k (toL (a*2^s))) a8.o (e2.o.copyPos rfl) a9.o (q1B _) l.heap.size w4 (Below.refl _ _) lr ?_));intro q hh N;have e4:Hid (Own q l.heap.size 54 (toL (a*2^s)++List.replicate (n+1-r) 0)):=vv (by
   refine Own.of_heap ?_ (q0R.2 ⟨q1H _,q12 _⟩);have:=hh.o;have e:splice (q0k (List.replicate (n+1) 0)) 0 (q0k (toL (a*2^s)))=q0k (toL (a*2^s)++List.replicate (n+1-r) 0):=by unfold splice q0k;rw[k2Z,k25,k2O,k10,k1U,e3.o,<- List.map_drop,List.drop_replicate]
   rw[e] at this;exact this)
  have i8:=vv (a7.o.below' N a1.o);have c0:=vv (b9.o.trans (N.mono L.o.size));have O:Hid (l.heap.size+1<=q.heap.size):=vv (k07 d5.o N.size);have e5:Hid (val (toL (a*2^s)++List.replicate (n+1-r) 0)=a*2^s):=vv (by rw[q31,q04]);have i9:Hid ((toL (a*2^s)++List.replicate (n+1-r) 0).length=n+1):=vv (by rw[k16,e3.o,k0H];omega);clear hh N a7 d9 e1 e0 H1 e2 a8 a9;generalize toL (a*2^s)++List.replicate (n+1-r) 0=U0 at *
  have b0:=mk1 (n-f) (by omega);have ec:((n-f:Nat):Int)=(n:Int)-(f:Int):=by omega
  rw[ec] at b0;clear ec;have j0:=vv (e4.o.alloc (.cells (madeCells #[.int .u32 0] (n-f+1)) 54));have j3:=vv (Own.made q (n-f+1) 54);have a2:Below q.heap.size q (q.alloc (.cells (madeCells #[.int .u32 0] (n-f+1)) 54)):=(Below.refl _ _).alloc lr _;have j4:=vv (i8.o.below a2 rfl);have c1:=vn c0 a2;clear a2;have j5:Hid (val (U0.drop (n-f+1))<b*2^s):=vv (q8g e4.o.2 e5.o (by have:=q0p a;rw[g6.o.1] at this;exact this) n3 g3 (by omega) d8.o);have e6:Hid (∀a,W=some a->a.block≠l.heap.size):=vv fun a e=>by have:=a1.o a e;omega
  have j6:Hid (∀a,W=some a->a.block≠q.heap.size):=vv fun a e=>by have:=a1.o a e;have:=O.o;omega
  have e7:l.heap.size≠q.heap.size:=by have:=O.o;omega
  have c6:=vv e7;have b1:Hid (w.heap.size<=l.heap.size):=vv L.o.size;clear e7;go_wp2;go_loopw [13] (fun z wx=>∃(k:Nat) (i:Int) (U Q:List Nat),z=.int .i64 i/\i+1=k/\k<=n-f+1/\U.length=n+1/\Q.length=n-f+1/\Own wx l.heap.size 54 U/\Own wx q.heap.size 54 Q /\Rd wx W f c2 (toL (b*2^s))/\val (U.drop k)<b*2^s/\a*2^s=val U+b*2^s*(4294967296^k*val (Q.drop k))/\Below w.heap.size w wx) (fun z _=>(intOf z+1).toNat)
  case atStart =>refine⟨n-f+1,_,U0,List.replicate (n-f+1) 0,rfl,by omega,lr,i9.o,by simp,j0.o,j3.o,j4.o,j5.o,?_,c1.o⟩;rw[e5.o,k0V (by rw[k0H];exact lr),q5c,k1m,k1m,k1u]
  case round =>
   clear b0;obtain⟨k,i,U,Q,rfl,hi,hk,e8,e9,f0,u,f1,f2,b2,b3⟩:=hrel;have D:=vv f0;have P:=vv u;have f3:=vv f1;have f4:=vv f2;have b4:=vv b2;have E:=vv e8;have F:=vv e9;have G:=vv b3;clear f0 f1 f2 b2 e8 e9 b3;rcases k01 k with rfl|l2
   ·obtain rfl:i = -1:=by omega
    clear hi;have c8:=b4.o;rw[k0B,k0S,k0w] at c8;have R:=f4.o;rw[k0w] at R;obtain⟨hq,hr⟩:=qbg X c8 R;have f5:val (U.take f)=val U:=by have H:=q0p (b*2^s);rw[Z.o] at H;rw[<- q3c D.o.2,k0E (k3h R H)]
    have j7:=vv hq;have j8:=vv hr;have j9:=vv f5;have k0:=vv (u.rd (n:=n-f+1) (c:=n-f+1) F.o.symm lr (by omega)).drew;have k3:=vv ((D.o.rd (n:=n+1) (c:=n+1) E.o.symm lr (by omega)).take (k:=f) (by omega)).drew;clear c8 R hq hr f5 u;have k1:(f:Int)<=(n:Int)+1:=by omega
    have k2:(0:Int)<=(f:Int):=by omega
    go_wp2_with fail;go_region_held3 (fun _=>True) (trivial) (first
     | ((first|go_at_call 259|go_at_call 189);(with_reducible refine(trim _ _ _ _ _ k0.o).mono ?_);rintro e S ⟨mq,rfl,rfl,f6⟩)
     | ((first|go_at_call 259|go_at_call 189);(with_reducible refine(trim _ _ _ _ _ k3.o).mono ?_);rintro e S ⟨mr,rfl,rfl,k4⟩)
     | ((first|go_at_call 359|go_at_call 329);(with_reducible refine(down _ _ _ _ s _ rfl _ k4 (by omega)).mono ?_);rintro e w7 ⟨A7,n7,c7,rfl,f7,k5,f8⟩))
    go_wp2;go_ret2;rw[j7.o] at f6;rw[j9.o,q04,j8.o] at f7;refine⟨_,mq,_,A7,n7,c7,rfl,f6.below f8 rfl,f7,Fr.at_ ?_,k5.mono ?_,G.o.drew.trans (f8.mono ?_)⟩
    ·exact k07 b1.o (Nat.le_of_succ_le O.o)
    ·exact G.o.size
    ·exact G.o.size
   ·obtain⟨j,rfl⟩:∃j,k=j+1:=⟨k-1,by omega⟩;obtain rfl:i=(j:Int):=by omega
    clear hi;have f9:=u.cell (i:=j) (by rw[F.o];omega);have k6:=u.frozen j;clear u;have c9:=vv (qbE (n:=f) D.o.2 (by have:=q0p (b*2^s);rw[Z.o] at this;exact k1l this) f4.o);have g0:=vv fun fq hq=>figure (fq:=fq) (hq:=hq) l.heap.size j f (n+1-j) U W c2 (toL (b*2^s)) wr hm f3.o d8.o D.o (by rw[E.o];omega) (by omega) (by rw[E.o];omega) e6.o (by rw[q04];exact c9.o.2)
    go_wp2_with fail;rw[show j+f+1-j=f+1 by omega];refine(g0.o _ (by decide)).mono ?_;rintro e w6 ⟨rfl,⟨V,d0,d1,g1,d2⟩,I⟩;rw[q04] at d2;have b5:val ((U.drop j).take (f+1))/val (toL (b*2^s))<4294967296:=by rw[q04];exact k0s (by rw[k0g];exact c9.o.2)
    have g2:=vv (q9F D.o.2 d0.2 d1 (by rw[E.o];omega) (fun p hp=>g1 p hp) c9.o.1 d2);have k7:=vv d0;have k8:=vv (d1.trans E.o);have l3:w6.cell? ⟨q.heap.size,j,none⟩=some (.int .u32 ((nth Q j:Nat):Int)):=(q1o I (p:=⟨q.heap.size,j,none⟩) P.o.lt (fun e=>c6.o e.symm)).trans f9;have b6:Hid (Own w6 q.heap.size 54 Q):=vv ⟨P.o.1.of_block (I.block _ P.o.lt (fun e=>c6.o (by injection e with e;exact e.symm))),P.o.2⟩;have l4:=b6.o.frozen j;have d6:=vv (f3.o.only I e6.o);have c3:=vv (q0a G.o I G.o.size b1.o);have d7:=vv b5;have k9:=vv (qbf (Q:=Q) (by rw[F.o];omega) b4.o g2.o.1);have l0:Hid (0<b*2^s):=vv (k0N X (k0a _));have l1:Hid (val ((U.drop j).take (f+1))/val (toL (b*2^s))=val ((U.drop j).take (f+1))/(b*2^s)):=vv (by rw[q04]);clear d2 b5 d0 d1 g1 I f9 k6 g0;generalize val ((U.drop j).take (f+1))/val (toL (b*2^s))=x at *
    go_wp2;go_roundw
    case rel =>
     refine⟨j,_,V,Q.set j x,rfl,by omega,by omega,k8.o,by rw[k0c];exact F.o,k7.o.setOther c6.o _,b6.o.set (by rw[F.o];omega) d7.o rfl,?_,?_,?_,c3.o.setCell (show w.heap.size<=q.heap.size from k07 L.o.size (Nat.le_of_succ_le O.o)) _⟩
     ·exact d6.o.only (g:=q.heap.size) (only_setCell (World.grownBy.refl _ _) (.inl rfl) _) j6.o
     ·rw[g2.o.2];exact k0i _ l0.o
     ·rw[l1.o];exact k9.o
    case measure=>simp [intOf]
end AB
namespace A
open AB
open Go Go.RowKit
def div_less:=@AB.div_less 332
def div_one:=@AB.div_one 332
def div_main:=@AB.div_main 332
end A
namespace B
open AB
open Go Go.RowKit
def div_less:=@AB.div_less 283
def div_one:=@AB.div_one 283
def div_main:=@AB.div_main 283
end B
end Go.Proofs.YtabcgemembkkcaaGreatDoor
