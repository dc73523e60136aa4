/- Lemmas. -/
import Derived.Test.YtabcgemembkkcaaGreatDoorMirrAP
import Derived.Deep.RegionHeld3
set_option linter.all false
set_option maxHeartbeats 1000000
set_option maxRecDepth 100000
open Go.Proofs.Tryz
open Decidable renaming decide->qa
namespace Go.Proofs.YtabcgemembkkcaaGreatDoor
namespace AB
open Go Go.RowKit
def q4g(q r:Nat)(w:World)(e:Ending)(w':World):Prop:=
 ∃A m c A' m' c',e=.returned (.tuple #[.slice A m c,.slice A' m' c'])/\Rd w' A m c (toL q)/\Rd w' A' m' c' (toL r)/\Fr w.heap.size A/\Fr w.heap.size A'/\Below w.heap.size w w'
theorem div_less{fq:FuncId}(A B:Option Addr)(n m c d a b:Nat)(w:World)(ha:Rd w A n c (toL a))(hb:Rd w B m d (toL b))(h:a<b)(hq:fq=332\/fq=283:=by decide):Calls Tryz.prog fq #[.slice A n c,.slice B m d] w (q4g (a/b) (a%b) w):=by
 have r:qa (q0F a b<0)=true:=by rw[q1y h];rfl
 have i:a/b=0:=k0N h;have j:a%b=a:=k0u h;rw[i,j];have k:∀fq,(fq=280\/fq=206)->Calls Tryz.prog fq #[.slice A n c,.slice B m d] w fun e w'=>e=.returned (.int .i64 (q0F a b))/\Below w.heap.size w w':=by intro fq hq;have:=cmpWords (hq:=hq) A B n m c d (toL a) (toL b) w ha hb (by rw[q04]) (by rw[q04]);rw[q04,q04] at this;exact this
 have p:=vv k;clear k i j;rcases hq with rfl|rfl;go_enter func332,ntmps332;rotate_left;go_enter func283,ntmps283;rotate_left;all_goals
  go_wp2_with fail;refine(p.o _ (by decide)).mono ?_;rintro e s ⟨rfl,f⟩;have g:=vv (ha.below f rfl);go_wp2_with fail;refine(copied _ _ _ _ _ g.o).mono ?_;rintro e t ⟨rfl,q,l⟩;go_wp2;go_ret2;exact⟨none,0,0,_,_,_,rfl,Rd.nil _,q.rd g.o.len.symm lr g.o.sm,Fr.none_ _,Fr.at_ f.size,f.trans (l.mono f.size)⟩
theorem div_one{fq:FuncId}(A B:Option Addr)(n c d a b:Nat)(w:World)(ha:Rd w A n c (toL a))(hb:Rd w B 1 d (toL b))(h:b<=a)(hq:fq=332\/fq=283:=by decide):Calls Tryz.prog fq #[.slice A n c,.slice B 1 d] w (q4g (a/b) (a%b) w):=by
 have R:qa (q0F a b<0)=false:=by simp only[k17];have:=q1v.2 h;omega
 have y:∀fq,(fq=280\/fq=206)->Calls Tryz.prog fq #[.slice A n c,.slice B 1 d] w fun e z=>e=.returned (.int .i64 (q0F a b))/\Below w.heap.size w z:=by intro fq hq;have:=cmpWords (hq:=hq) A B n 1 c d (toL a) (toL b) w ha hb (by rw[q04]) (by rw[q04]);rw[q04,q04] at this;exact this
 have H:=vv y;have i:words b=1:=hb.words;have q:b<4294967296:=by have:=q0f b;rw[i] at this;simpa using this
 have s:0<b:=by
  rcases k01 b with l|l
  ·subst l;rw[q0s] at i;omega
  ·exact l
 have t:nth (toL b) 0=b:=by rw[q0Z];simp;omega
 obtain⟨g,off,rfl,C,u⟩:=hb.cell (by omega);have hx:=u 0 (by omega);rw[k14,t] at hx;clear y i t u;rcases hq with rfl|rfl;go_enter func332,ntmps332;rotate_left;go_enter func283,ntmps283;rotate_left;all_goals
  go_wp2_with fail;refine(H.o _ (by decide)).mono ?_;rintro e I ⟨rfl,f⟩;have J:=vv (ha.below f rfl);have Q:I.cell? ⟨g,off,none⟩=some (.int .u32 (b:Int)):=(f.cell (p:=⟨g,off,none⟩) C).trans hx;go_wp2_with fail;refine(divSmall _ _ _ b _ _ J.o s q).mono ?_;rintro e m ⟨K,L,M,rfl,j,D,E⟩;rw[q04] at j;rw[q04];have N:a%b<4294967296:=k2U (k0j _ s) q;generalize hreq:a%b=r at *
  have v:Own (m.alloc (.cells #[.int .u32 (r:Int)] 54)) m.heap.size 54 [r]:=Own.lit _ (q0y.2 ⟨N,q0N⟩) (by simp [q0q]);have k:=vv (f.trans (E.mono f.size));have F:=vv (k.o.alloc k.o.size (.cells #[.int .u32 (r:Int)] 54));have G:=vv (j.below ((Below.refl _ m).alloc lr (.cells #[.int .u32 (r:Int)] 54)) rfl);have O:=vv v;clear hreq j v;go_wp2_with fail;refine(trim _ _ _ _ _ (O.o.rd (n:=1) (c:=1) rfl lr (by omega))).mono ?_;rintro e z ⟨P,rfl,rfl,x⟩;rw[q3B] at x;go_wp2;go_ret2;exact⟨K,L,M,_,P,1,rfl,G.o,x,D.mono f.size,Fr.at_ k.o.size,F.o⟩
theorem div_main{fq:FuncId}(A B:Option Addr)(n m c d a b:Nat)(w:World)(ha:Rd w A n c (toL a))(hb:Rd w B m d (toL b))(h:b<=a)(hm:2<=m)(hs:n<17592186044416)(hq:fq=332\/fq=283:=by decide):Calls Tryz.prog fq #[.slice A n c,.slice B m d] w (q4g (a/b) (a%b) w):=by
 have t0:qa (q0F a b<0)=false:=by simp only[k17];have:=q1v.2 h;omega
 have hc:∀fq,(fq=280\/fq=206)->Calls Tryz.prog fq #[.slice A n c,.slice B m d] w fun e S=>e=.returned (.int .i64 (q0F a b))/\Below w.heap.size w S:=by intro fq hq;have:=cmpWords (hq:=hq) A B n m c d (toL a) (toL b) w ha hb (by rw[q04]) (by rw[q04]);rw[q04,q04] at this;exact this
 have HC:=vv hc;have v:words b=m:=hb.words;have J:words a=n:=ha.words;have Y:0<b:=by
  rcases k01 b with h0|h0
  ·subst h0;rw[q0s] at v;omega
  ·exact h0
 have g5:m<=n:=by rw[<- v,<- J];exact q27 h
 obtain⟨g,off,rfl,g6,a0⟩:=hb.cell (by omega);have hx:=a0 (m-1) (by omega);have g7:=hb.nth_lt (m-1);obtain⟨T,W,n3⟩:=q8G Y;rw[v] at T W n3;have t1:((m:Int)==1)=false:=by simp;omega
 obtain⟨s,Z⟩:=yx (32-bl (nth (toL b) (m-1)));rw[<- Z] at T W n3;have a4:a*2^s<4294967296^(n+1):=by have H:=q0f a;rw[J] at H;have h2:a*2^s<4294967296^n*2^s:=k0E H (k0c _);have h3:2^s<=2^32:=k04 (by omega) (by omega);have h4:4294967296^n*2^s<=4294967296^n*2^32:=k0g _ h3;rw[k0a];omega
 have d4:=vv a4;have d5:=vv Z;have c5:=vv T;have d9:=vv W;have g8:=vv (And.intro J v);have HH:=vv h;clear hc v J a0 T W Z a4 h;have j1:(0:Int)<=(m:Int)-1:=by omega
 have j2:(m:Int)-1<(m:Int):=by omega
 rcases hq with rfl|rfl;go_enter func332,ntmps332;rotate_left;go_enter func283,ntmps283;rotate_left;all_goals as_aux_lemma =>
  go_wp2_with fail;refine(HC.o _ (by decide)).mono ?_;rintro e w1 ⟨rfl,y⟩;have g9:=vv (ha.below y rfl);have i0:=vv (hb.below y rfl);have i1:w1.cell? ⟨g,off+(m-1),none⟩=some (.int .u32 ((nth (toL b) (m-1):Nat):Int)):=(y.cell (p:=⟨g,off+(m-1),none⟩) g6).trans hx;have a1:=vv y;clear y hx;go_wp2_with fail;refine(lz32 _ _ g7).mono ?_;rintro e S ⟨rfl,rfl⟩;rw[<- d5.o];clear i1;go_wp2_with fail;refine(up _ _ _ _ s _ rfl _ i0.o (by omega)).mono ?_;rw[q04];rintro e l ⟨X,f,c2,rfl,K,e0,c6⟩;have i2:f=m:=by rw[<- K.words];exact c5.o
  subst i2;have a5:=K.block_lt (by omega);have i3:=vv K;have l6:=vv (e0.mono a1.o.size);have i4:=vv (g9.o.below c6 rfl);have L:=vn a1 c6;have a2:=vv a5;clear K e0 c6 a5;have i5:=mk1 n (by omega);have M:Below l.heap.size l (l.alloc (.cells (madeCells #[.int .u32 0] (n+1)) 54)):=(Below.refl _ _).alloc lr _;have e1:=vv (i4.o.below M rfl);have i6:=vv (i3.o.below M rfl);have e2:=vv (Own.made l (n+1) 54);have b8:=vn L M;clear M;have a6:(l.alloc (.cells (madeCells #[.int .u32 0] (n+1)) 54)).heap.size=l.heap.size+1:=World.size_alloc _ _;have a7:=vv a6;clear a6;go_wp2_with fail;refine(up _ _ _ _ s _ rfl _ e1.o (by omega)).mono ?_;rw[q04];rintro e w4 ⟨A4,r,c4,rfl,t,i7,C⟩;have i8:r<=n+1:=t.bound d4.o;have e3:=vv (e2.o.below C (by rw[a7.o];omega));have a8:=vv (i6.o.below C rfl);have b9:=vn b8 C;have d6:Hid (l.heap.size+1<=w4.heap.size):=vv (by have:=C.size;rw[a7.o] at this;exact this);have H1:=vv e3.o.heap;have e4:=vv t;have a9:Hid ((q0q (toL (a*2^s))).length=Nat.min r (n+1)):=vv (by
   have:=t.len;have e:(q0q (toL (a*2^s))).length=r:=by simpa [q0q] using this
   rw[e];exact(k12 i8).symm)
  have b0:Hid (0+(q0q (toL (a*2^s))).length<=(q0q (List.replicate (n+1) 0)).length):=vv (by have:=t.len;simp only[q0q,k1T,k0I];omega);have Hs:Hid ((Tryz.prog.info? 54).map (·.size)=some 1):=vv (by kernel_rfl);have e5:=vv t.len;clear t i7 C i5;go_wp2_with ((with_reducible refine wpList_copy_splice (o:=⟨some 53,_,_,_,_,_⟩) rfl _ _ 35 35 rfl 54 underlying35 Hs.o _ _ (n+1) (n+1) r c4 rfl rfl l.heap.size 0 _ 54 H1.o (q0q (toL (a*2^s))) a9.o (e4.o.copyPos rfl) b0.o (q1M _) l.heap.size w4 (Below.refl _ _) lr ?_));intro q hh N;have e6:Hid (Own q l.heap.size 54 (toL (a*2^s)++List.replicate (n+1-r) 0)):=vv (by
   refine Own.of_heap ?_ (q1L.2 ⟨q1U _,q16 _⟩);have:=hh.o;have e:splice (q0q (List.replicate (n+1) 0)) 0 (q0q (toL (a*2^s)))=q0q (toL (a*2^s)++List.replicate (n+1-r) 0):=by unfold splice q0q;rw[k2I,k24,List.map_append,k0U,k1T,e5.o,<- List.map_drop,List.drop_replicate]
   rw[e] at this;exact this)
  have i9:=vv (a8.o.below' N a2.o);have c0:=vv (b9.o.trans (N.mono L.o.size));have O:Hid (l.heap.size+1<=q.heap.size):=vv (k06 d6.o N.size);have e7:Hid (val (toL (a*2^s)++List.replicate (n+1-r) 0)=a*2^s):=vv (by rw[q2S,q04]);have j0:Hid ((toL (a*2^s)++List.replicate (n+1-r) 0).length=n+1):=vv (by rw[k1q,e5.o,k0I];omega);clear hh N a8 e1 e3 e2 H1 e4 a9 b0;generalize toL (a*2^s)++List.replicate (n+1-r) 0=U0 at *
  have b1:=mk1 (n-f) (by omega);have ec:((n-f:Nat):Int)=(n:Int)-(f:Int):=by omega
  rw[ec] at b1;clear ec;have j3:=vv (e6.o.alloc (.cells (madeCells #[.int .u32 0] (n-f+1)) 54));have j4:=vv (Own.made q (n-f+1) 54);have a3:Below q.heap.size q (q.alloc (.cells (madeCells #[.int .u32 0] (n-f+1)) 54)):=(Below.refl _ _).alloc lr _;have j5:=vv (i9.o.below a3 rfl);have c1:=vn c0 a3;have l7:Hid ((q.alloc (.cells (madeCells #[.int .u32 0] (n-f+1)) 54)).heap.size=q.heap.size+1):=vv (World.size_alloc _ _);clear a3;have j6:Hid (val (U0.drop (n-f+1))<b*2^s):=vv (q7H e6.o.2 e7.o (by have:=q0f a;rw[g8.o.1] at this;exact this) n3 g5 (by omega) d9.o);have e8:Hid (∀a,X=some a->a.block≠l.heap.size):=vv fun a e=>by have:=a2.o a e;omega
  have j7:Hid (∀a,X=some a->a.block≠q.heap.size):=vv fun a e=>by have:=a2.o a e;have:=O.o;omega
  have e9:l.heap.size≠q.heap.size:=by have:=O.o;omega
  have c8:=vv e9;have b2:Hid (w.heap.size<=l.heap.size):=vv L.o.size;clear e9;go_wp2;go_loopw [13] (fun z wx=>∃(k:Nat) (i:Int) (U Q:List Nat),z=.int .i64 i/\i+1=k/\k<=n-f+1/\U.length=n+1/\Q.length=n-f+1/\Own wx l.heap.size 54 U/\Own wx q.heap.size 54 Q /\Rd wx X f c2 (toL (b*2^s))/\val (U.drop k)<b*2^s/\a*2^s=val U+b*2^s*(4294967296^k*val (Q.drop k))/\Below w.heap.size w wx) (fun z _=>(intOf z+1).toNat)
  case atStart =>refine⟨n-f+1,_,U0,List.replicate (n-f+1) 0,rfl,by omega,lr,j0.o,by simp,j3.o,j4.o,j5.o,j6.o,?_,c1.o⟩;rw[e7.o,k0R (by rw[k0I];exact lr),q4P,k1n,k1n,k14]
  case round =>
   clear b1;obtain⟨k,i,U,Q,rfl,hi,hk,f0,f1,f2,u,f3,f4,b3,b4⟩:=hrel;have D:=vv f2;have P:=vv u;have f5:=vv f3;have f6:=vv f4;have b5:=vv b3;have E:=vv f0;have F:=vv f1;have G:=vv b4;clear f2 f3 f4 b3 f0 f1 b4;rcases k01 k with rfl|l3
   ·obtain rfl:i = -1:=by omega
    clear hi;have c9:=b5.o;rw[k0J,k0Q,k0M] at c9;have R:=f6.o;rw[k0M] at R;obtain⟨hq,hr⟩:=qat Y c9 R;have f7:val (U.take f)=val U:=by have H:=q0f (b*2^s);rw[c5.o] at H;rw[<- q35 D.o.2,k0u (k2U R H)]
    have j8:=vv hq;have j9:=vv hr;have k0:=vv f7;have k3:=vv (u.rd (n:=n-f+1) (c:=n-f+1) F.o.symm lr (by omega)).drew;have k4:=vv ((D.o.rd (n:=n+1) (c:=n+1) E.o.symm lr (by omega)).take (k:=f) (by omega)).drew;clear c9 R hq hr f7 u;have k1:(f:Int)<=(n:Int)+1:=by omega
    have k2:(0:Int)<=(f:Int):=by omega
    go_wp2_with fail;go_region_held3 (fun _=>True) (trivial) (first
     | ((first|go_at_call 259|go_at_call 189);(with_reducible refine(trim _ _ _ _ _ k3.o).mono ?_);rintro e S ⟨mq,rfl,rfl,f8⟩)
     | ((first|go_at_call 259|go_at_call 189);(with_reducible refine(trim _ _ _ _ _ k4.o).mono ?_);rintro e S ⟨mr,rfl,rfl,k5⟩)
     | ((first|go_at_call 359|go_at_call 329);(with_reducible refine(down _ _ _ _ s _ rfl _ k5 (by omega)).mono ?_);rintro e w7 ⟨A7,n7,c7,rfl,f9,k6,g0⟩))
    go_wp2;go_ret2;rw[j8.o] at f8;rw[k0.o,q04,j9.o] at f9;refine⟨_,mq,_,A7,n7,c7,rfl,f8.below g0 rfl,f9,Fr.at_ ?_,k6.mono ?_,G.o.drew.trans (g0.mono ?_)⟩
    ·exact k06 b2.o (Nat.le_of_succ_le O.o)
    ·exact G.o.size
    ·exact G.o.size
   ·obtain⟨j,rfl⟩:∃j,k=j+1:=⟨k-1,by omega⟩;obtain rfl:i=(j:Int):=by omega
    clear hi;have g1:=u.cell (i:=j) (by rw[F.o];omega);have k7:=u.frozen j;clear u;have d0:=vv (qaP (n:=f) D.o.2 (by have:=q0f (b*2^s);rw[c5.o] at this;exact k16 this) f6.o);have g2:=vv fun fq hq=>figure (fq:=fq) (hq:=hq) l.heap.size j f (n+1-j) U X c2 (toL (b*2^s)) wr hm f5.o d9.o D.o (by rw[E.o];omega) (by omega) (by rw[E.o];omega) e8.o (by rw[q04];exact d0.o.2)
    go_wp2_with fail;rw[show j+f+1-j=f+1 by omega];refine(g2.o _ (by decide)).mono ?_;rintro e w6 ⟨rfl,⟨V,d1,d2,g3,d3⟩,I⟩;rw[q04] at d3;have b6:val ((U.drop j).take (f+1))/val (toL (b*2^s))<4294967296:=by rw[q04];exact k0s (by rw[k0b];exact d0.o.2)
    have g4:=vv (q91 D.o.2 d1.2 d2 (by rw[E.o];omega) (fun p hp=>g3 p hp) d0.o.1 d3);have k8:=vv d1;have k9:=vv (d2.trans E.o);have l4:w6.cell? ⟨q.heap.size,j,none⟩=some (.int .u32 ((nth Q j:Nat):Int)):=(q1m I (p:=⟨q.heap.size,j,none⟩) P.o.lt (fun e=>c8.o e.symm)).trans g1;have b7:Hid (Own w6 q.heap.size 54 Q):=vv ⟨P.o.1.of_block (I.block _ P.o.lt (fun e=>c8.o (by injection e with e;exact e.symm))),P.o.2⟩;have l5:=b7.o.frozen j;have d7:=vv (f5.o.only I e8.o);have c3:=vv (q0a G.o I G.o.size b2.o);have d8:=vv b6;have l0:=vv (qas (Q:=Q) (by rw[F.o];omega) b5.o g4.o.1);have l1:Hid (0<b*2^s):=vv (k0l Y (k0c _));have l2:Hid (val ((U.drop j).take (f+1))/val (toL (b*2^s))=val ((U.drop j).take (f+1))/(b*2^s)):=vv (by rw[q04]);clear d3 b6 d1 d2 g3 I g1 k7 g2;generalize val ((U.drop j).take (f+1))/val (toL (b*2^s))=x at *
    go_wp2;go_roundw
    case rel =>
     refine⟨j,_,V,Q.set j x,rfl,by omega,by omega,k9.o,by rw[k07];exact F.o,k8.o.setOther c8.o _,b7.o.set (by rw[F.o];omega) d8.o rfl,?_,?_,?_,c3.o.setCell (show w.heap.size<=q.heap.size from k06 L.o.size (Nat.le_of_succ_le O.o)) _⟩
     ·exact d7.o.only (g:=q.heap.size) (only_setCell (World.grownBy.refl _ _) (.inl rfl) _) j7.o
     ·rw[g4.o.2];exact k0j _ l1.o
     ·rw[l2.o];exact l0.o
    case measure=>simp [intOf]
end AB
namespace B
open AB
open Go Go.RowKit
def div_less:=@AB.div_less 283
def div_one:=@AB.div_one 283
def div_main:=@AB.div_main 283
end B
namespace A
open AB
open Go Go.RowKit
def div_less:=@AB.div_less 332
def div_one:=@AB.div_one 332
def div_main:=@AB.div_main 332
end A
end Go.Proofs.YtabcgemembkkcaaGreatDoor
