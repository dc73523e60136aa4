/- Lemmas. -/
import Derived.Test.YtcdimmblnbkjjaaGreatDoorPartAU
import Derived.Test.YtcdimmblnbkjjaaGreatDoorPartAL
import Derived.Test.YtcdimmblnbkjjaaGreatDoorPartAJ
import Derived.Test.YtcdimmblnbkjjaaGreatDoorPartAK
import Derived.Test.YtcdimmblnbkjjaaGreatDoorPartAC
import Derived.Test.YtcdimmblnbkjjaaGreatDoorPartAR
import Derived.Test.YtcdimmblnbkjjaaGreatDoorPartAB
import Derived.Test.YtcdimmblnbkjjaaGreatDoorPartAH
set_option linter.all false
set_option maxHeartbeats 2000000
set_option maxRecDepth 100000
namespace Go.Proofs.YtcdimmblnbkjjaaGreatDoor.B
open Go Go.RowKit
def q9c(g o gr or:Nat)(q r:Int)(w:World)(e:Ending)(w':World):Prop:=
 e=.returned (.tuple #[.pointer (some ⟨g,o,none⟩),.pointer (some ⟨gr,or,none⟩)])/\IntAt w' g o q/\IntAt w' gr or r/\Fs [(gr,or,2),(g,o,2)] w w'
def q4I(d:Nat)(w:World)(e:Ending)(w':World):Prop:=∃A n c,e=.returned (.slice A n c)/\Rd w' A n c (toL d)/\(∀a,A=some a->a.off=0)/\Below w.heap.size w w'
end Go.Proofs.YtcdimmblnbkjjaaGreatDoor.B
namespace Go.Proofs.YtcdimmblnbkjjaaGreatDoor.R5
open Go Go.RowKit
abbrev fm(E F:Int):Value:=.agg #[.int .i64 E,.int .i64 F]
theorem q9a(k:Nat):bl (2^k)=k+1:=qb8 (by rw[Nat.pow_succ];have:=Nat.two_pow_pos k;omega) (by rw[Nat.add_sub_cancel];exact lr) (by omega)
abbrev qcq:Obj:=.cells #[.bool false,.slice none 0 0,.slice none 0 0] 119
abbrev qcu:Obj:=.cells #[.bool false,.slice none 0 0] 117
def qcd(neg:Bool)(mode N D:Nat):Bool:=q3B neg mode (decide (N/D%2=1)) (q1G (2*(N%D)) D)
structure FmAt(w:World)(g:Nat)(E F:Int):Prop where
 c0:w.cell? ⟨g,0,none⟩=some (.int .i64 E)
 c1:w.cell? ⟨g,1,none⟩=some (.int .i64 F)
 lt:g<w.heap.size
theorem FmAt.made(w:World)(E F:Int)(t:TypeId):FmAt (w.alloc (.cells #[.int .i64 E,.int .i64 F] t)) w.heap.size E F:=
 ⟨by simp only[World.cell?];rw[heap_alloc_new];rfl,by simp only[World.cell?];rw[heap_alloc_new];rfl,by simp⟩
theorem FmAt.below{w w':World}{g:Nat}{E F:Int}(h:FmAt w g E F)(hb:Below w.heap.size w w'):FmAt w' g E F:=
 ⟨(hb.cell (p:=⟨g,0,none⟩) h.lt).trans h.c0,(hb.cell (p:=⟨g,1,none⟩) h.lt).trans h.c1,Nat.lt_of_lt_of_le h.lt hb.size⟩
def qbe(S:Nat)(o:Nat × Nat)(w:World)(e:Ending)(w':World):Prop:=e=.returned (.tuple #[.int .u64 ((S+o.1:Nat):Int),.int .u8 (o.2:Int)])/\Below w.heap.size w w'
theorem q4U{k l:IntKind}{a b c d:Int}(h:a=b)(h':c=d):Ending.returned (.tuple #[.int k a,.int l c])=.returned (.tuple #[.int k b,.int l d]):=by rw[h,h']
def sgb(E F:Nat)(b:Bool):Nat:=if b then 2^(E+F) else 0
abbrev q4b(A:Option Addr)(n c:Nat):Value:=.agg #[.slice A n c]
abbrev q2F(neg:Bool)(A:Option Addr)(n c:Nat)(B:Option Addr)(m d:Nat):Value:=.agg #[.bool neg,.slice A n c,.slice B m d]
abbrev q7l(neg:Bool)(A:Option Addr)(n c:Nat)(e:Int):Value:=.agg #[.bool neg,.slice A n c,.int .i64 e]
def q2a(n:Nat)(xs:List Nat):Bool:=decide (n<=16384) && (decide (n=0) || decide (nth xs (n-1)≠0))
end Go.Proofs.YtcdimmblnbkjjaaGreatDoor.R5
namespace Go.Proofs.YtcdimmblnbkjjaaGreatDoor.B
open Go Go.RowKit
end Go.Proofs.YtcdimmblnbkjjaaGreatDoor.B
namespace Go.Proofs.YtcdimmblnbkjjaaGreatDoor.R5
open Go Go.RowKit
theorem q2l{w:World}{A:Option Addr}{n c N:Nat}(h:Rd w A n c (toL N))(hn:n<=16384):q2a n (toL N)=true:=by
 unfold q2a;rw[decide_eq_true hn,Bool.true_and];rcases Nat.eq_zero_or_pos n with h0|h0
 ·rw[h0];rfl
 ·have hN:0<N:=by
   rcases Nat.eq_zero_or_pos N with e|e
   ·have:=h.words;rw[e,q1r] at this;omega
   ·exact e
  obtain⟨-,e⟩:=bl_words hN;rw[h.words] at e;rw[decide_eq_false (p:=n=0) (by omega),Bool.false_or,decide_eq_true (by omega)]
structure RatioBox(w:World)(g:Nat)(neg:Bool)(A:Option Addr)(n c:Nat)(B:Option Addr)(m d:Nat):Prop where
 c0:w.cell? ⟨g,0,none⟩=some (.bool neg)
 c1:w.cell? ⟨g,1,none⟩=some (.slice A n c)
 c2:w.cell? ⟨g,2,none⟩=some (.slice B m d)
 lt:g<w.heap.size
theorem RatioBox.made(w:World)(neg:Bool)(A:Option Addr)(n c:Nat)(B:Option Addr)(m d:Nat)(t:TypeId):RatioBox (w.alloc (.cells #[.bool neg,.slice A n c,.slice B m d] t)) w.heap.size neg A n c B m d:=
 ⟨by simp only[World.cell?];rw[heap_alloc_new];rfl,by simp only[World.cell?];rw[heap_alloc_new];rfl,by simp only[World.cell?];rw[heap_alloc_new];rfl,by simp⟩
theorem RatioBox.below{w w':World}{g:Nat}{neg:Bool}{A:Option Addr}{n c:Nat}{B:Option Addr}{m d:Nat}(h:RatioBox w g neg A n c B m d)(hb:Below w.heap.size w w'):RatioBox w' g neg A n c B m d:=
 ⟨(hb.cell (p:=⟨g,0,none⟩) h.lt).trans h.c0,(hb.cell (p:=⟨g,1,none⟩) h.lt).trans h.c1,(hb.cell (p:=⟨g,2,none⟩) h.lt).trans h.c2,Nat.lt_of_lt_of_le h.lt hb.size⟩
theorem q8V(k:Nat):bl (10^k)<=4*k+1:=q1F (by
 have h1:(10:Nat)^k<=16^k:=Nat.pow_le_pow_left (by omega) k;have h2:(16:Nat)^k=2^(4*k):=by rw[Nat.pow_mul]
 rw[Nat.pow_succ];have:=Nat.two_pow_pos (4*k);omega)
def q2e(o:Nat × Nat)(w:World)(e:Ending)(w':World):Prop:=e=.returned (.tuple #[.int .u64 (o.1:Int),.int .u8 (o.2:Int),.int .i64 0])/\Below w.heap.size w w'
def q0k(E F:Nat)(below neg:Bool)(mode a b:Nat):Nat × Nat:=
 if a=0 then(sgb E F neg,0) else(sgb E F below+(out E F below mode a b).1,(out E F below mode a b).2)
theorem q4R{E F N:Nat}{below neg:Bool}{mode:Nat}(c n:Int)(h1:2<=E)(h2:E<=11)(h3:1<=F)(h4:F<=52)(hc:1200<=c):
  q0k E F below neg mode (N*t10 (q3c n (bl N+1+c))) (t10 (-q3c n (bl N+1+c)))=q0k E F below neg mode (N*t10 n) (t10 (-n)):=by
 rcases Nat.eq_zero_or_pos N with h0|h0
 ·subst h0;simp [q0k]
 ·have k:=q6U (E:=E) (F:=F) (neg:=below) (mode:=mode) (a:=N) (b:=1) c n h1 h2 h3 h4 h0 (by omega) hc;rw[Nat.one_mul,Nat.one_mul,show bl 1=1 from rfl] at k;have p1:=Nat.mul_pos h0 (q33 (q3c n (bl N+1+c)));have p2:=Nat.mul_pos h0 (q33 n);unfold q0k;rw[if_neg (by omega),if_neg (by omega)];have k':out E F below mode (N*t10 (q3c n (bl N+1+c))) (t10 (-q3c n (bl N+1+c)))=out E F below mode (N*t10 n) (t10 (-n)):=k;rw[k']
theorem q4k{E F N:Nat}{below neg:Bool}{mode:Nat}(c n:Int)(h1:2<=E)(h2:E<=11)(h3:1<=F)(h4:F<=52)(hc:1200<=c):
  q0k E F below neg mode (N*p2 (q3c n (bl N+c))) (p2 (-q3c n (bl N+c)))=q0k E F below neg mode (N*p2 n) (p2 (-n)):=by
 rcases Nat.eq_zero_or_pos N with h0|h0
 ·subst h0;simp [q0k]
 ·have k:=q6T (E:=E) (F:=F) (neg:=below) (mode:=mode) (a:=N) c n h1 h2 h3 h4 h0 hc;have q1:=Nat.mul_pos h0 (q0I (q3c n (bl N+c)));have q2:=Nat.mul_pos h0 (q0I n);unfold q0k;rw[if_neg (by omega),if_neg (by omega),k]
def twoOk(neg:Bool)(n:Nat)(xs:List Nat)(e:Int):Bool:=
 q2a n xs && decide (e<=1073741824) && decide (-1073741824<=e) && (if n=0 then decide (e=0) && !neg else decide (nth xs 0%2=1))
structure DyadBox(w:World)(g:Nat)(neg:Bool)(A:Option Addr)(n c:Nat)(e:Int):Prop where
 c0:w.cell? ⟨g,0,none⟩=some (.bool neg)
 c1:w.cell? ⟨g,1,none⟩=some (.slice A n c)
 c2:w.cell? ⟨g,2,none⟩=some (.int .i64 e)
 lt:g<w.heap.size
theorem DyadBox.made(w:World)(neg:Bool)(A:Option Addr)(n c:Nat)(e:Int)(t:TypeId):DyadBox (w.alloc (.cells #[.bool neg,.slice A n c,.int .i64 e] t)) w.heap.size neg A n c e:=
 ⟨by simp only[World.cell?];rw[heap_alloc_new];rfl,by simp only[World.cell?];rw[heap_alloc_new];rfl,by simp only[World.cell?];rw[heap_alloc_new];rfl,by simp⟩
theorem DyadBox.below{w w':World}{g:Nat}{neg:Bool}{A:Option Addr}{n c:Nat}{e:Int}(h:DyadBox w g neg A n c e)(hb:Below w.heap.size w w'):DyadBox w' g neg A n c e:=
 ⟨(hb.cell (p:=⟨g,0,none⟩) h.lt).trans h.c0,(hb.cell (p:=⟨g,1,none⟩) h.lt).trans h.c1,(hb.cell (p:=⟨g,2,none⟩) h.lt).trans h.c2,Nat.lt_of_lt_of_le h.lt hb.size⟩
end Go.Proofs.YtcdimmblnbkjjaaGreatDoor.R5
namespace Go.Proofs.YtcdimmblnbkjjaaGreatDoor.A
open Go Go.RowKit
theorem SetBytes(g o:Nat)(v:Int)(A:Option Addr)(m c N:Nat)(w:World)(h:IntAt w g o v)(hb:Bd w A m c N)(hm:m<=4294967296):
  Calls Tryz.prog 238 #[.pointer (some ⟨g,o,none⟩),.slice A m c] w (q0v g o (N:Int) w):=by
 obtain⟨L,hL⟩:=yx ((m+3)/4);have a6:L<=35184372088832:=by omega
 have c7:(L:Int)<=35184372088832:=by omega
 have b5:((m:Int)+3)/4=(L:Int):=by omega
 have c8:(m:Int)<=4294967296:=by omega
 have c9:=mk L a6;have HI:=vv h;have a7:=vv hb;have HL:=vv hL;have H1:Hid (Own (w.alloc (.cells (madeCells #[.int .u32 0] L) 34)) w.heap.size 34 (List.replicate L 0)):=vv (Own.made w L 34);have H3:Hid (Below w.heap.size w (w.alloc (.cells (madeCells #[.int .u32 0] L) 34))):=vv ((Below.refl _ w).alloc lr _);clear h hb hL;go_enter Tryz.func238,Tryz.ntmps238
 go_wp2;clear b5;go_loopw [16] (fun t wr=>∃(i:Nat) (W:List Nat),t=.int .i64 i/\i<=m/\Own wr w.heap.size 34 W/\W.length=L/\val W=hi N (m-i)/\Below w.heap.size w wr) (fun t _=>m-(intOf t).toNat)
 case atStart=>exact⟨0,List.replicate L 0,rfl,Nat.zero_le _,H1.o,List.length_replicate,by rw[q0h,Nat.sub_zero,q79 a7.o.lt],H3.o⟩
 case round =>
  obtain⟨i,W,rfl,b6,a0,a2,a1,hB⟩:=hrel;have a3:=vv a0;have a8:=vv a2;have HB:=vv hB;by_cases him:i<m
  ·obtain⟨k,hk⟩:=yx (m-1-i);have a9:val W=hi N (k+1):=by rw[a1];congr 1;omega
   have d0:(m:Int)-1-(i:Int)=(k:Int):=by omega
   obtain⟨b,off,e,b0,b1⟩:=a7.o.cell (by omega);subst e;have b2:=(hB.cell (p:=⟨b,off+i,none⟩) b0).trans (b1 i him);rw[<- hk] at b2;obtain⟨q,hq⟩:=yx (k/4);have d1:q<L:=by have:=HL.o;omega
   have a4:q<W.length:=by omega
   have d2:(k:Int)/4=(q:Int):=by omega
   have b7:(k:Int)<=4294967296:=by omega
   have b8:(q:Int)<(L:Int):=by omega
   obtain⟨r,hr⟩:=yx (k%4);have d3:(k:Int).tmod 4=(r:Int):=by rw[Int.tmod_eq_emod_of_nonneg (by omega)];omega
   have d4:IntKind.i64.wrap (q:Int)=(q:Int):=by rw[IntKind.wrap_i64];omega
   have d5:(0:Int)<=(q:Int):=by omega
   obtain⟨s1,s2,s3,s4⟩:=q3o a0.2 a4 (show k=4*q+r by omega) (by omega) a9;have b3:=a0.cell a4;have d6:=a0.frozen q;have d7:=a0.lt;have HS:=vv (a0.set (x:=nth W q+bt N k*256^r) a4 s2 rfl);have b9:=q8I N k;obtain⟨C,hC⟩:=yx (bt N k);obtain⟨x,hx⟩:=yx (nth W q);rw[<- hC,<- hx] at s1 s2 s4 HS;rw[<- hC] at s3 b9 b2;rw[<- hx] at b3;have d8:IntKind.u32.wrap (C:Int)=(C:Int):=by rw[IntKind.wrap_u32];omega
   obtain⟨D,hD⟩:=yx (C*256^r);rw[<- hD] at s1 s2 s3 s4 HS;obtain⟨s,hs⟩:=yx (8*r);have d9:IntKind.i64.wrap (8*(r:Int))=(s:Int):=by rw[IntKind.wrap_i64];omega
   have e0:(0:Int)<=(s:Int):=by omega
   have c0:(s:Int)<=32:=by omega
   have e1:IntKind.u32.wrap ((C:Int)*2^s)=(D:Int):=by
    have e:(C:Int)*2^s=(D:Int):=by
     have e2:(2:Int)^s=((256^r:Nat):Int):=by rw[hs,Int.natCast_pow,Int.pow_mul];rfl
     rw[e2,hD,Int.natCast_mul]
    rw[e,IntKind.wrap_u32];omega
   have c1:Hid (hi N k=hi N (m-(i+1))):=vv (by rw[hk];congr 1;omega);have c2:=vv s4;clear b0 b1 hB a0 a9 a1 a2 hr hq hk hC hx hD hs s2 s3 s4;go_wp2;refine q01 (fun w'=>w'.cell? ⟨w.heap.size,q,none⟩=some (.int .u32 (x:Int))) 13
    (.still 0 (.still 1 (.still 2 (.still 3 (.still 4 (.still 5 (.still 6 (.still 7 (.still 8 (.still 9 (.still 10 (.still 11 (.still 12 .done))))))))))))) (by kernel_rfl) (by kernel_rfl) (fun _ _ d _ _ h=>by cases d<;>exact h) b3 (fun hS0=>?_)
   iterate 13
    refine q00 (v:=?_) rfl (by rfl) ?_ ?_;rotate_left
    ·intro w e3;go_simp;with_reducible rfl
    simp only[Act.put,sa,sb,sc]
   refine q0d ?_;go_wp2;go_roundw
   case rel =>
    exact⟨i+1,W.set q (x+D),by go_num,by omega,HS.o,by rw[List.length_set];exact a8.o,c2.o.trans c1.o,(HB.o.drew).setCell lr _⟩
   case measure=>simp [intOf];omega
  ·obtain rfl:i=m:=by omega
   rw[Nat.sub_self,q54] at a1;have c3:=vv a1;have c4:=vv (HI.o.below (hB.mono lr));have a5:(i:Int)<=(i:Int):=Int.le_refl _;clear a0 a1 a2 hB him b6 a5;go_wp2_with fail
   refine(q1T (some ⟨w.heap.size,0,none⟩) L L W wr (a3.o.rd a8.o.symm lr a6)).mono ?_;rintro e w' ⟨m',rfl,rfl,hR⟩;rw[c3.o] at hR;have HR:=vv hR;have b4:=vv (q8N g o v _ _ _ (toL N) wr c4.o HR.o);rw[q03] at b4;clear hR;go_wp2_with fail
   refine b4.o.mono ?_;rintro e w3 ⟨rfl,hI,hF⟩;have c5:=vv hI;have c6:=vv (Fm.trans (Fm.of_below HB.o HI.o.lt) hF);clear hI hF;go_wp2;go_ret
   exact⟨rfl,c5.o,c6.o⟩
theorem qcg:(Tryz.prog.info? 5).map (fun i=>(i.zero,i.size,i.bytes))=some (some (.int .u8 0),1,1):=by kernel_rfl
theorem mk8(n:Nat)(h:n<=35184372088832)(w:World):(Instr.makeSlice 85 (.int .i64 (n:Int)) (.int .i64 (n:Int))).run Tryz.prog w=.ok (.slice (some ⟨w.heap.size,0,none⟩) n n) (w.alloc (.cells (madeCells #[.int .u8 0] n) 5)):=
 run_make_row' (P:=Tryz.prog) 85 5 (.int .u8 0) 1 Tryz.underlying85 qcg rfl .i64 .i64 n (by omega) (by omega) w
theorem lt_bytes(N:Nat):N<256^((bl N+7)/8):=by
 have h:(256:Nat)^((bl N+7)/8)=2^(8*((bl N+7)/8)):=by rw[Nat.pow_mul]
 rw[h];exact Nat.lt_of_lt_of_le (q20 N) (Nat.pow_le_pow_right (by decide) (by omega))
theorem bl_words(N:Nat):bl N<=32*words N:=q1F (by have h:=q0o N;rwa [show(4294967296:Nat)^words N=2^(32*words N) by rw[Nat.pow_mul]] at h)
theorem Bytes(g o:Nat)(u:Int)(w:World)(h:IntAt w g o u)(sN:bl u.natAbs<=4294967296):
  Calls Tryz.prog 268 #[.pointer (some ⟨g,o,none⟩)] w fun e w'=>∃A m,e=.returned (.slice A m m)/\m=(bl u.natAbs+7)/8/\Bd w' A m m u.natAbs/\Below w.heap.size w w':=by
 have a2:=vv fun w' (h:IntAt w' g o u)=>BitLen g o u w' h
 obtain⟨N,hN⟩:=yx (u.natAbs);have a7:=h.lt;obtain⟨A,n,c,h0,h1,hr,hz⟩:=h.ex;rw[<- hN] at a2 sN hr ⊢;obtain⟨m,hm⟩:=yx ((bl N+7)/8);have b9:bl N<=32*n:=by have:=bl_words N;rwa [hr.words] at this
 have a3:=lt_bytes N;rw[<- hm] at a3 ⊢;have a8:m<=35184372088832:=by omega
 have d2:=mk8 m a8;have a9:((bl N:Int)+7)/8=(m:Int):=by omega
 obtain⟨b0,b1⟩:=yx (bl N);rw[<- b1] at a2 a9 sN;have d3:(b0:Int)<=4294967296:=by omega
 have d4:(m:Int)<=1000000000:=by omega
 have b2:m<=4*n:=by omega
 have HI:=vv h;have HR:=vv hr;have HZ:=vv hz;have c0:=vv a3;have c1:=vv b2;have d5:=vv hr.sm;have H1:Hid (q3r (w.alloc (.cells (madeCells #[.int .u8 0] m) 5)) w.heap.size 5 (List.replicate m 0)):=vv (q3r.made w m 5);have H3:Hid (Below w.heap.size w (w.alloc (.cells (madeCells #[.int .u8 0] m) 5))):=vv ((Below.refl _ w).alloc lr _);clear h hr hz hm b9 a3 b2 hN b1;go_enter Tryz.func268,Tryz.ntmps268
 go_wp2_with fail
 refine(a2.o _ HI.o).mono ?_;rintro e w' ⟨rfl,rfl⟩;go_wp2;clear a9;go_loopw [13] (fun t wr=>∃(i:Nat) (U:List Nat),t=.int .i64 i/\i<=m/\q3r wr w.heap.size 5 U/\U.length=m/\(∀j,j<i->nth U j=bt N (m-1-j))/\Below w.heap.size w wr) (fun t _=>m-(intOf t).toNat)
 case atStart=>exact⟨0,List.replicate m 0,rfl,Nat.zero_le _,H1.o,List.length_replicate,fun j hj=>absurd hj (by omega),H3.o⟩
 case round =>
  obtain⟨i,U,rfl,b3,a0,a4,a5,hB⟩:=hrel;have a6:=vv a0;have b4:=vv a4;have b5:=vv a5;have HB:=vv hB;by_cases him:i<m
  ·obtain⟨k,hk⟩:=yx (m-1-i);have d6:(m:Int)-1-(i:Int)=(k:Int):=by omega
   obtain⟨q,hq⟩:=yx (k/4);have c2:q<n:=by have:=c1.o;omega
   obtain⟨b,off,e,b6,b7⟩:=HR.o.cell (by omega);subst e;have c3:=(hB.cell (p:=⟨b,off+q,none⟩) b6).trans (b7 q c2);have j1:=(hB.cell (p:=⟨g,o+1,none⟩) a7).trans h1;have c4:g<wr.heap.size:=Nat.lt_of_lt_of_le a7 hB.size;have d7:(k:Int)/4=(q:Int):=by omega
   obtain⟨r,hr⟩:=yx (k%4);have c5:(k:Int)%4=(r:Int):=by omega
   have c6:(k:Int).tmod 4=(r:Int):=by rw[Int.tmod_eq_emod_of_nonneg (by omega)];exact c5
   have d8:(r:Int)<=3:=by omega
   have c7:(q:Int)<(n:Int):=by omega
   have b8:nth (toL N) q<4294967296:=HR.o.nth_lt q;have a1:=q1I (q1B N) q r (by omega);rw[q03,show 4*q+r=k by omega] at a1;obtain⟨x,hx⟩:=yx (nth (toL N) q);obtain⟨C,hC⟩:=yx (bt N k);rw[<- hx] at c3 b8 a1;rw[<- hC] at a1;obtain⟨s,hs⟩:=yx (8*r);have d9:8*(r:Int)=(s:Int):=by omega
   have c8:(s:Int)<=24:=by omega
   have e0:(x:Int)/2^s%256=(C:Int):=by
    have e2:(2:Int)^s=((256^r:Nat):Int):=by rw[hs,Int.natCast_pow,Int.pow_mul];rfl
    rw[e2,<- a1,Int.natCast_emod,Int.natCast_ediv];rfl
   have e1:=a0.cell (i:=i) (by omega);have e3:=a0.frozen i;have e4:=a0.lt;have HS:=vv (a0.set (i:=i) (x:=C) (by omega) rfl);have c9:Hid (∀j,j<i+1->nth (U.set i C) j=bt N (m-1-j)):=vv (fun j hj=>by
    rw[q0M U i C j (by omega)];split
    ·rename_i e;rw[e,hC,hk]
    ·exact b5.o j (by omega))
   have e5:(x:Int)<=4294967295:=by omega
   have d0:(k:Int)<=1000000000:=by omega
   have d1:(i:Int)<(m:Int):=by omega
   clear b6 b7 hB a0 a5 a4 hr hq hk hC hx hs a1 b8 b3 him;go_wp2;go_roundw
   case rel=>exact⟨i+1,U.set i C,by go_num,by omega,HS.o,by rw[List.length_set];exact b4.o,c9.o,(HB.o).setCell lr _⟩
   case measure=>simp [intOf];omega
  ·obtain rfl:i=m:=by omega
   clear a0 a4 a5 hB him b3;go_wp2;go_ret
   exact⟨_,_,rfl,rfl,a6.o.bd b4.o.symm lr a8 c0.o b5.o,HB.o⟩
theorem Mul(g o gx ox gy oy:Nat)(v u1 u2:Int)(w:World)(h:IntAt w g o v)(hx:IntAt w gx ox u1)(hy:IntAt w gy oy u2)(hn:Sz u1.natAbs)(hm:Sz u2.natAbs):
  Calls Tryz.prog 91 #[.pointer (some ⟨g,o,none⟩),.pointer (some ⟨gx,ox,none⟩),.pointer (some ⟨gy,oy,none⟩)] w (q0v g o (u1*u2) w):=by
 have HI:=vv h;have a0:=hx.lt;have a1:=hy.lt;obtain⟨A,n,c,h0,h1,hr,hz⟩:=hx.ex;obtain⟨B,m,d,k0,k1,hs,hy⟩:=hy.ex;have HM:=vv (q2S A B n m c d _ _ _ hr.drew hs.drew (by have:=hr.sz hn;have:=hs.sz hm;omega));clear hr hz hs hy h hx hn hm;go_enter Tryz.func91,Tryz.ntmps91
 go_wp2_with fail
 refine q01 (fun w'=>w'.cell? ⟨gx,ox,none⟩=some (.bool (decide (u1<0)))/\w'.cell? ⟨gx,ox+1,none⟩=some (.slice A n c)/\w'.cell? ⟨gy,oy,none⟩=some (.bool (decide (u2<0)))/\w'.cell? ⟨gy,oy+1,none⟩=some (.slice B m d)) 19
  (.still 0 (.still 1 (.still 2 (.still 3 (.still 4 (.still 5 (.still 6 (.still 7 (.still 8 (.still 9 (.still 10 (.still 11 (.still 12 (.still 13 (.still 14 (.still 15 (.still 16 (.still 17 (.one 18 .done))))))))))))))))))) (by kernel_rfl) (by kernel_rfl) (fun _ _ d _ _ h=>by cases d<;>exact h) ⟨h0,h1,k0,k1⟩ (fun hS0=>?_)
 iterate 18
  refine q00 (v:=?_) rfl (by rfl) ?_ ?_;rotate_left
  ·intro w a4;go_simp;with_reducible rfl
  simp only[Act.put,sa,sb,sc]
 refine q06 rfl (by rfl) (fun K hK=>?_);go_simp;refine HM.o.mono ?_;rintro e w1 ⟨A',m',c',rfl,hR,a3,hB⟩;go_wp2_with fail
 refine hK.out _ _ ⟨(hB.cell (p:=⟨gx,ox,none⟩) a0).trans h0,(hB.cell (p:=⟨gx,ox+1,none⟩) a0).trans h1,(hB.cell (p:=⟨gy,oy,none⟩) a1).trans k0,(hB.cell (p:=⟨gy,oy+1,none⟩) a1).trans k1⟩ (fun a2=>?_);clear hK;refine q0d ?_;go_wp2_with fail
 refine(q0X g o v (u1*u2) _ A' m' c' (u1.natAbs*u2.natAbs) _ (HI.o.drew.below hB) (by rw[q03,q03] at hR;exact hR) (fun a e=>(a3 a e).2) (Int.natAbs_mul u1 u2) ?_).mono ?_
 ·rw[qaz];rfl
 rintro e w2 ⟨rfl,hI,hF⟩;go_wp2;go_ret
 exact⟨rfl,hI,((Fm.of_below hB HI.o.lt).trans hF).undrew⟩
theorem q6f(g o:Nat)(v u:Int)(b:Bool)(N M:Nat)(A B:Option Addr)(n m c d:Nat)(w:World)(h:IntAt w g o v)(ha:Rd w A n c (toL N))(hb:Rd w B m d (toL M))(hn:Sz N)(hm:Sz M)(hu:u=sg b (N+M)):
  Calls Tryz.prog 253 #[.pointer (some ⟨g,o,none⟩),.slice A n c,.bool b,.slice B m d,.bool b] w (q0v g o u w):=by
 have HI:=vv h;have HM:=vv (q1Y A B n m c d _ _ w ha hb (by have:=ha.sz hn;omega) (by have:=hb.sz hm;omega));have HU:=vv hu;clear ha hb hn hm h hu;have a1:(b==b)=true:=by cases b<;>rfl
 go_enter Tryz.func253,Tryz.ntmps253
 go_wp2_with fail
 refine HM.o.mono ?_;rintro e w1 ⟨A',m',c',rfl,hR,a0,hB⟩;rw[q03,q03] at hR;have HR:=vv hR;clear hR;go_wp2_with fail
 refine(q0X g o v u b A' m' c' (N+M) _ (HI.o.below hB) HR.o (fun a e=>(a0 a e).2) (by rw[HU.o,q2D]) (by rw[HU.o,q2w])).mono ?_;rintro e w2 ⟨rfl,hI,hF⟩;go_wp2;go_ret
 exact⟨rfl,hI,(Fm.of_below hB HI.o.lt).trans hF⟩
theorem q5H(g o:Nat)(v u:Int)(b:Bool)(N M:Nat)(t:Int)(A B:Option Addr)(n m c d:Nat)(w:World)(h:IntAt w g o v)(ha:Rd w A n c (toL N))(hb:Rd w B m d (toL M))(ht:q1G N M=t)(h0:t=0\/t=1)(hle:M<=N)(hu:u=sg b (N-M)):
  Calls Tryz.prog 253 #[.pointer (some ⟨g,o,none⟩),.slice A n c,.bool b,.slice B m d,.bool (!b)] w (q0v g o u w):=by
 have HI:=vv h;have HC:=vv (q1l A B n m c d _ _ w ha hb (by rw[q03]) (by rw[q03]));have HA:=vv ha;have HB:=vv hb;have HU:=vv hu;have HL:=vv hle;have HT:=vv ht;have a3:(b==!b)=false:=by cases b<;>rfl
 clear ha hb h hu hle ht;rcases h0 with rfl|rfl;all_goals
  go_enter Tryz.func253,Tryz.ntmps253
  go_wp2_with fail
  refine HC.o.mono ?_;rintro e w1 ⟨rfl,hB⟩;rw[q03,q03,HT.o];go_wp2_with fail
  refine(q1U A B n m c d _ _ _ (HA.o.below hB rfl) (HB.o.below hB rfl) (by rw[q03,q03];exact HL.o) (HB.o.le_of HA.o HL.o)).mono ?_;rintro e w2 ⟨A',m',c',rfl,hR,a2,a0⟩;rw[q03,q03] at hR;have HR:=vv hR;have a1:=vv (hB.trans (a0.mono hB.size));clear hR a0;go_wp2_with fail
  refine(q0X g o v u b A' m' c' (N-M) _ (HI.o.below a1.o) HR.o (fun a e=>(a2 a e).2) (by rw[HU.o,q2D]) (by rw[HU.o,q2w])).mono ?_;rintro e w3 ⟨rfl,hI,hF⟩;go_wp2;go_ret
  exact⟨rfl,hI,(Fm.of_below a1.o HI.o.lt).trans hF⟩
theorem q8M(g o:Nat)(v u:Int)(b:Bool)(N M:Nat)(A B:Option Addr)(n m c d:Nat)(w:World)(h:IntAt w g o v)(ha:Rd w A n c (toL N))(hb:Rd w B m d (toL M))(ht:q1G N M = -1)(hle:N<=M)(hu:u=sg (!b) (M-N)):
  Calls Tryz.prog 253 #[.pointer (some ⟨g,o,none⟩),.slice A n c,.bool b,.slice B m d,.bool (!b)] w (q0v g o u w):=by
 have HI:=vv h;have HC:=vv (q1l A B n m c d _ _ w ha hb (by rw[q03]) (by rw[q03]));have HA:=vv ha;have HB:=vv hb;have HU:=vv hu;have HL:=vv hle;have HT:=vv ht;have a3:(b==!b)=false:=by cases b<;>rfl
 clear ha hb h hu hle ht;go_enter Tryz.func253,Tryz.ntmps253
 go_wp2_with fail
 refine HC.o.mono ?_;rintro e w1 ⟨rfl,hB⟩;rw[q03,q03,HT.o];go_wp2_with fail
 refine(q1U B A m n d c _ _ _ (HB.o.below hB rfl) (HA.o.below hB rfl) (by rw[q03,q03];exact HL.o) (HA.o.le_of HB.o HL.o)).mono ?_;rintro e w2 ⟨A',m',c',rfl,hR,a2,a0⟩;rw[q03,q03] at hR;have HR:=vv hR;have a1:=vv (hB.trans (a0.mono hB.size));clear hR a0;go_wp2_with fail
 refine(q0X g o v u (!b) A' m' c' (M-N) _ (HI.o.below a1.o) HR.o (fun a e=>(a2 a e).2) (by rw[HU.o,q2D]) (by rw[HU.o,q2w])).mono ?_;rintro e w3 ⟨rfl,hI,hF⟩;go_wp2;go_ret
 exact⟨rfl,hI,(Fm.of_below a1.o HI.o.lt).trans hF⟩
theorem qbz(g o:Nat)(v:Int)(a b:Bool)(N M:Nat)(A B:Option Addr)(n m c d:Nat)(w:World)(h:IntAt w g o v)(ha:Rd w A n c (toL N))(hb:Rd w B m d (toL M))(hn:Sz N)(hm:Sz M):
  Calls Tryz.prog 253 #[.pointer (some ⟨g,o,none⟩),.slice A n c,.bool a,.slice B m d,.bool b] w (q0v g o (sg a N+sg b M) w):=by
 by_cases e:b=a
 ·subst e;exact q6f g o v _ b N M A B n m c d w h ha hb hn hm (by cases b<;>simp [sg]<;>omega)
 ·obtain rfl:b=!a:=by cases a<;>cases b<;>simp_all
  rcases Nat.lt_trichotomy N M with k|k|k
  ·exact q8M g o v _ a N M A B n m c d w h ha hb (by unfold q1G;simp [k]) (by omega) (by cases a<;>simp [sg]<;>omega)
  ·exact q5H g o v _ a N M 0 A B n m c d w h ha hb (by unfold q1G;simp [k]) (.inl rfl) (by omega) (by cases a<;>simp [sg]<;>omega)
  ·exact q5H g o v _ a N M 1 A B n m c d w h ha hb (by unfold q1G;simp [k];omega) (.inr rfl) (by omega) (by cases a<;>simp [sg]<;>omega)
theorem Add(g o gx ox gy oy:Nat)(v u1 u2:Int)(w:World)(h:IntAt w g o v)(hx:IntAt w gx ox u1)(hy:IntAt w gy oy u2)(hn:Sz u1.natAbs)(hm:Sz u2.natAbs):
  Calls Tryz.prog 199 #[.pointer (some ⟨g,o,none⟩),.pointer (some ⟨gx,ox,none⟩),.pointer (some ⟨gy,oy,none⟩)] w (q0v g o (u1+u2) w):=by
 obtain⟨A,n,c,h0,h1,hr,hz⟩:=hx.ex;obtain⟨B,m,d,k0,k1,hs,hy⟩:=hy.ex;have HM:=vv (qbz g o v (decide (u1<0)) (decide (u2<0)) _ _ A B n m c d w.drew h.drew hr.drew hs.drew hn hm);clear hr hz hs hy h hx hn hm;go_enter Tryz.func199,Tryz.ntmps199
 go_wp2_with fail
 refine q01 (fun w'=>w'.cell? ⟨gx,ox,none⟩=some (.bool (decide (u1<0)))/\w'.cell? ⟨gx,ox+1,none⟩=some (.slice A n c)/\w'.cell? ⟨gy,oy,none⟩=some (.bool (decide (u2<0)))/\w'.cell? ⟨gy,oy+1,none⟩=some (.slice B m d)) 17
  (.still 0 (.still 1 (.still 2 (.still 3 (.still 4 (.still 5 (.still 6 (.still 7 (.still 8 (.still 9 (.still 10 (.still 11 (.still 12 (.still 13 (.still 14 (.still 15 (.still 16 .done))))))))))))))))) (by kernel_rfl) (by kernel_rfl) (fun _ _ d _ _ h=>by cases d<;>exact h) ⟨h0,h1,k0,k1⟩ (fun hS0=>?_)
 iterate 17
  refine q00 (v:=?_) rfl (by rfl) ?_ ?_;rotate_left
  ·intro w a0;go_simp;with_reducible rfl
  simp only[Act.put,sa,sb,sc]
 refine q0d ?_;go_wp2_with fail
 refine HM.o.mono ?_;rintro e w1 ⟨rfl,hI,hF⟩;rw[q9y,q9y] at hI;go_wp2;go_ret
 exact⟨rfl,hI,hF.undrew⟩
theorem Lsh(g o gx ox k:Nat)(v u:Int)(w:World)(h:IntAt w g o v)(hx:IntAt w gx ox u)(hn:Sz u.natAbs)(hk:k<30000000000000):
  Calls Tryz.prog 92 #[.pointer (some ⟨g,o,none⟩),.pointer (some ⟨gx,ox,none⟩),.int .u64 (k:Int)] w (q0v g o (u*2^k) w):=by
 have HI:=vv h;have a0:=hx.lt;obtain⟨A,n,c,h0,h1,hr,hz⟩:=hx.ex;have HM:=vv (up A n c _ k _ rfl _ hr.drew (by have:=hr.sz hn;omega));have a3:IntKind.i64.wrap (k:Int)=(k:Int):=by rw[IntKind.wrap_i64];omega
 clear hr hz h hx hn;go_enter Tryz.func92,Tryz.ntmps92
 go_wp2_with fail
 refine q01 (fun w'=>w'.cell? ⟨gx,ox,none⟩=some (.bool (decide (u<0)))/\w'.cell? ⟨gx,ox+1,none⟩=some (.slice A n c)) 12
  (.still 0 (.still 1 (.still 2 (.still 3 (.still 4 (.still 5 (.still 6 (.still 7 (.still 8 (.still 9 (.still 10 (.one 11 .done)))))))))))) (by kernel_rfl) (by kernel_rfl) (fun _ _ d _ _ h=>by cases d<;>exact h) ⟨h0,h1⟩ (fun hS0=>?_)
 iterate 11
  refine q00 (v:=?_) rfl (by rfl) ?_ ?_;rotate_left
  ·intro w a4;go_simp;with_reducible rfl
  simp only[Act.put,sa,sb,sc]
 refine q06 rfl (by rfl) (fun K hK=>?_);go_simp;refine HM.o.mono ?_;rintro e w1 ⟨A',m',c',rfl,hR,a2,hB⟩;go_wp2_with fail
 refine hK.out _ _ ⟨(hB.cell (p:=⟨gx,ox,none⟩) a0).trans h0,(hB.cell (p:=⟨gx,ox+1,none⟩) a0).trans h1⟩ (fun a1=>?_);clear hK;refine q0d ?_;go_wp2_with fail
 refine(q0X g o v (u*2^k) _ A' m' c' (u.natAbs*2^k) _ (HI.o.drew.below hB) (by rw[q03] at hR;exact hR) (fun a e=>(a2 a e).2) (by rw[Int.natAbs_mul,Int.natAbs_pow];rfl) ?_).mono ?_
 ·exact q80 u k
 rintro e w2 ⟨rfl,hI,hF⟩;go_wp2;go_ret
 exact⟨rfl,hI,((Fm.of_below hB HI.o.lt).trans hF).undrew⟩
theorem Uint64(g o:Nat)(u:Int)(w:World)(h:IntAt w g o u)(hu:u.natAbs<18446744073709551616):
  Calls Tryz.prog 149 #[.pointer (some ⟨g,o,none⟩)] w fun e w'=>e=.returned (.int .u64 ((u.natAbs:Nat):Int))/\w=w':=by
 obtain⟨A,n,c,h0,h1,hr,hz⟩:=h.ex;have HM:=vv (q6w A n c _ w hr);have HV:=vv (two_words hu);clear hr hz h;go_enter Tryz.func149,Tryz.ntmps149
 go_wp2_with fail
 refine HM.o.mono ?_;rintro e w1 ⟨rfl,rfl⟩;rw[HV.o];go_wp2;go_ret
 exact⟨rfl,rfl⟩
theorem NewInt(x:Int)(w:World)(h1:-9223372036854775808<=x)(h2:x<=9223372036854775807):
  Calls Tryz.prog 51 #[.int .i64 x] w (q3s x w):=by
 go_enter Tryz.func51,Tryz.ntmps51
 go_wp2_with fail
 refine(q8O _ _ 0 x _ (IntAt.zero w 143) h1 h2).mono ?_;rintro e w1 ⟨rfl,hI,hF⟩;go_wp2;go_ret
 exact⟨_,rfl,lr,hI,hF.below ((Below.refl _ w).alloc lr _) (by simp) lr⟩
theorem qbd(g o gx ox N M n c m d:Nat)(A B:Option Addr)(w:World)(h0:w.cell? ⟨g,o,none⟩=some (.bool false))(h1:w.cell? ⟨g,o+1,none⟩=some (.slice A n c))(k0:w.cell? ⟨gx,ox,none⟩=some (.bool false))(k1:w.cell? ⟨gx,ox+1,none⟩=some (.slice B m d))
  (ha:Rd w A n c (toL N)) (hb:Rd w B m d (toL M)) :
  Calls Tryz.prog 190 #[.pointer (some ⟨g,o,none⟩),.pointer (some ⟨gx,ox,none⟩)] w fun e w'=>e=.returned (.int .i64 (q1G N M))/\Below w.heap.size w w':=by
 have HC:=vv (q1l A B n m c d _ _ w.drew.drew (ha.like rfl) (hb.like rfl) (by rw[q03]) (by rw[q03]));clear ha hb;go_enter Tryz.func190,Tryz.ntmps190
 go_wp2_with fail
 refine q01 (fun w'=>w'.cell? ⟨g,o,none⟩=some (.bool false)/\w'.cell? ⟨gx,ox,none⟩=some (.bool false)) 9
  (.still 0 (.still 1 (.still 2 (.still 3 (.still 4 (.still 5 (.still 6 (.still 7 (.still 8 .done))))))))) (by kernel_rfl) (by kernel_rfl) (fun _ _ d _ _ h=>by cases d<;>exact h) ⟨h0,k0⟩ (fun hS0=>?_)
 iterate 9
  refine q00 (v:=?_) rfl (by rfl) ?_ ?_;rotate_left
  ·intro w a0;go_simp;with_reducible rfl
  simp only[Act.put,sa,sb,sc]
 refine q0L rfl ?_;go_wp2_with fail
 refine q01 (fun w'=>w'.cell? ⟨g,o+1,none⟩=some (.slice A n c)/\w'.cell? ⟨gx,ox+1,none⟩=some (.slice B m d)) 8
  (.still 0 (.still 1 (.still 2 (.still 3 (.still 4 (.still 5 (.still 6 (.still 7 .done)))))))) (by kernel_rfl) (by kernel_rfl) (fun _ _ d _ _ h=>by cases d<;>exact h) ⟨h1,k1⟩ (fun hS0=>?_)
 iterate 8
  refine q00 (v:=?_) rfl (by rfl) ?_ ?_;rotate_left
  ·intro w a0;go_simp;with_reducible rfl
  simp only[Act.put,sa,sb,sc]
 refine q0d ?_;go_wp2_with fail
 refine HC.o.mono ?_;rintro e w1 ⟨rfl,hB⟩;rw[q03,q03];go_wp2;go_ret
 exact⟨rfl,⟨hB.os,hB.tape,hB.output,hB.size,hB.block⟩⟩
theorem qbc(g o gx ox N M n c m d:Nat)(A B:Option Addr)(w:World)(h0:w.cell? ⟨g,o,none⟩=some (.bool true))(h1:w.cell? ⟨g,o+1,none⟩=some (.slice A n c))(k0:w.cell? ⟨gx,ox,none⟩=some (.bool true))(k1:w.cell? ⟨gx,ox+1,none⟩=some (.slice B m d))
  (ha:Rd w A n c (toL N)) (hb:Rd w B m d (toL M)) :
  Calls Tryz.prog 190 #[.pointer (some ⟨g,o,none⟩),.pointer (some ⟨gx,ox,none⟩)] w fun e w'=>e=.returned (.int .i64 (-q1G N M))/\Below w.heap.size w w':=by
 have HC:=vv (q1l A B n m c d _ _ w.drew.drew (ha.like rfl) (hb.like rfl) (by rw[q03]) (by rw[q03]));have HW:IntKind.i64.wrap (-q1G N M) = -q1G N M:=by have:=qa9 N M;rw[IntKind.wrap_i64];omega
 clear ha hb;go_enter Tryz.func190,Tryz.ntmps190
 go_wp2_with fail
 refine q01 (fun w'=>w'.cell? ⟨g,o,none⟩=some (.bool true)/\w'.cell? ⟨gx,ox,none⟩=some (.bool true)) 9
  (.still 0 (.still 1 (.still 2 (.still 3 (.still 4 (.still 5 (.still 6 (.still 7 (.still 8 .done))))))))) (by kernel_rfl) (by kernel_rfl) (fun _ _ d _ _ h=>by cases d<;>exact h) ⟨h0,k0⟩ (fun hS0=>?_)
 iterate 9
  refine q00 (v:=?_) rfl (by rfl) ?_ ?_;rotate_left
  ·intro w a0;go_simp;with_reducible rfl
  simp only[Act.put,sa,sb,sc]
 refine q0L rfl ?_;go_wp2_with fail
 refine q01 (fun w'=>w'.cell? ⟨g,o+1,none⟩=some (.slice A n c)/\w'.cell? ⟨gx,ox+1,none⟩=some (.slice B m d)) 8
  (.still 0 (.still 1 (.still 2 (.still 3 (.still 4 (.still 5 (.still 6 (.still 7 .done)))))))) (by kernel_rfl) (by kernel_rfl) (fun _ _ d _ _ h=>by cases d<;>exact h) ⟨h1,k1⟩ (fun hS0=>?_)
 iterate 8
  refine q00 (v:=?_) rfl (by rfl) ?_ ?_;rotate_left
  ·intro w a0;go_simp;with_reducible rfl
  simp only[Act.put,sa,sb,sc]
 refine q0d ?_;go_wp2_with fail
 refine HC.o.mono ?_;rintro e w1 ⟨rfl,hB⟩;rw[q03,q03];go_wp2;go_ret
 exact⟨rfl,⟨hB.os,hB.tape,hB.output,hB.size,hB.block⟩⟩
theorem q9f(g o gx ox:Nat)(a:Bool)(w:World)(h0:w.cell? ⟨g,o,none⟩=some (.bool a))(k0:w.cell? ⟨gx,ox,none⟩=some (.bool !a)):
  Calls Tryz.prog 190 #[.pointer (some ⟨g,o,none⟩),.pointer (some ⟨gx,ox,none⟩)] w fun e w'=>e=.returned (.int .i64 (if a then -1 else 1))/\Below w.heap.size w w':=by
 cases a
 all_goals
  go_enter Tryz.func190,Tryz.ntmps190
  go_wp2_with fail
 ·refine q01 (fun w'=>w'.cell? ⟨g,o,none⟩=some (.bool false)/\w'.cell? ⟨gx,ox,none⟩=some (.bool true)) 9
   (.still 0 (.still 1 (.still 2 (.still 3 (.still 4 (.still 5 (.still 6 (.still 7 (.still 8 .done))))))))) (by kernel_rfl) (by kernel_rfl) (fun _ _ d _ _ h=>by cases d<;>exact h) ⟨h0,k0⟩ (fun hS0=>?_)
  iterate 9
   refine q00 (v:=?_) rfl (by rfl) ?_ ?_;rotate_left
   ·intro w a0;go_simp;with_reducible rfl
   simp only[Act.put,sa,sb,sc]
  refine q0L rfl ?_;go_wp2;go_ret
  exact⟨rfl,q04 (Below.refl _ _)⟩
 ·refine q01 (fun w'=>w'.cell? ⟨g,o,none⟩=some (.bool true)/\w'.cell? ⟨gx,ox,none⟩=some (.bool false)) 9
   (.still 0 (.still 1 (.still 2 (.still 3 (.still 4 (.still 5 (.still 6 (.still 7 (.still 8 .done))))))))) (by kernel_rfl) (by kernel_rfl) (fun _ _ d _ _ h=>by cases d<;>exact h) ⟨h0,k0⟩ (fun hS0=>?_)
  iterate 9
   refine q00 (v:=?_) rfl (by rfl) ?_ ?_;rotate_left
   ·intro w a0;go_simp;with_reducible rfl
   simp only[Act.put,sa,sb,sc]
  refine q0L rfl ?_;go_wp2;go_ret
  exact⟨rfl,q04 (Below.refl _ _)⟩
theorem Cmp(g o gx ox:Nat)(u1 u2:Int)(w:World)(h:IntAt w g o u1)(hx:IntAt w gx ox u2):
  Calls Tryz.prog 190 #[.pointer (some ⟨g,o,none⟩),.pointer (some ⟨gx,ox,none⟩)] w fun e w'=>e=.returned (.int .i64 (q7v u1 u2))/\Below w.heap.size w w':=by
 obtain⟨A,n,c,h0,h1,hr,hz⟩:=h.ex;obtain⟨B,m,d,k0,k1,hs,hy⟩:=hx.ex;by_cases e1:u1<0<;>by_cases e2:u2<0
 ·rw[decide_eq_true e1] at h0;rw[decide_eq_true e2] at k0;rw[qa8 e1 e2];exact qbc g o gx ox _ _ n c m d A B w h0 h1 k0 k1 hr hs
 ·rw[decide_eq_true e1] at h0;rw[decide_eq_false e2] at k0;rw[q46 (by omega)];exact q9f g o gx ox true w h0 k0
 ·rw[decide_eq_false e1] at h0;rw[decide_eq_true e2] at k0;rw[q47 (by omega)];exact q9f g o gx ox false w h0 k0
 ·rw[decide_eq_false e1] at h0;rw[decide_eq_false e2] at k0;rw[q7u e1 e2];exact qbd g o gx ox _ _ n c m d A B w h0 h1 k0 k1 hr hs
theorem Bit0(g o:Nat)(u:Int)(w:World)(h:IntAt w g o u):
  Calls Tryz.prog 197 #[.pointer (some ⟨g,o,none⟩),.int .i64 0] w fun e w'=>e=.returned (.int .u64 ((u.natAbs%2:Nat):Int))/\w=w':=by
 obtain⟨A,n,c,h0,h1,hr,hz⟩:=h.ex;have a1:=hr.sm;have hw:=hr.words;clear hz h h0;rcases Nat.eq_zero_or_pos n with rfl|hn
 ·have hu:=q0c.1 hw;rw[hu];clear hw hr;go_enter Tryz.func197,Tryz.ntmps197
  go_wp2;go_ret
  exact⟨rfl,rfl⟩
 ·obtain⟨b,off,rfl,hb,hc⟩:=hr.cell hn;have a0:=hc 0 hn;rw[Nat.add_zero] at a0;have hl:=hr.nth_lt 0;have HB:=vv (q7A (nth (toL u.natAbs) 0) hl);have HE:=vv (q4q u.natAbs);clear hc hw hr;go_enter Tryz.func197,Tryz.ntmps197
  go_wp2;go_ret
  refine⟨q0A ?_,rfl⟩;rw[HB.o,HE.o,IntKind.wrap_u64];omega
def q9c(g o gr or:Nat)(q r:Int)(w:World)(e:Ending)(w':World):Prop:=
 e=.returned (.tuple #[.pointer (some ⟨g,o,none⟩),.pointer (some ⟨gr,or,none⟩)])/\IntAt w' g o q/\IntAt w' gr or r/\Fs [(gr,or,2),(g,o,2)] w w'
theorem QuoRem(g o gx ox gy oy gr or:Nat)(v u1 u2 ur:Int)(w:World)(h:IntAt w g o v)(hx:IntAt w gx ox u1)(hy:IntAt w gy oy u2)(hr:IntAt w gr or ur)(hne:g≠gr)(h0:u2≠0)(hn:Sz u1.natAbs):
  Calls Tryz.prog 196 #[.pointer (some ⟨g,o,none⟩),.pointer (some ⟨gx,ox,none⟩),.pointer (some ⟨gy,oy,none⟩),.pointer (some ⟨gr,or,none⟩)] w
   (q9c g o gr or (sg (decide (u1<0) != decide (u2<0)) (u1.natAbs/u2.natAbs)) (sg (decide (u1<0)) (u1.natAbs%u2.natAbs)) w):=by
 have HI:=vv h;have HR:=vv hr;have a8:=hx.lt;have a9:=hy.lt;obtain⟨A,n,c,h0,h1,ha,hz⟩:=hx.ex;obtain⟨B,m,d,k0,k1,hb,hy⟩:=hy.ex;have HM:=vv (q2U A B n m c d _ _ w.drew.drew (ha.like rfl) (hb.like rfl) (by omega) (by have:=ha.sz hn;omega));clear ha hz hb hy h hx hn hr;go_enter Tryz.func196,Tryz.ntmps196
 go_wp2_with fail
 refine q01 (fun w'=>w'.cell? ⟨gx,ox,none⟩=some (.bool (decide (u1<0)))/\w'.cell? ⟨gy,oy,none⟩=some (.bool (decide (u2<0)))) 9
  (.still 0 (.still 1 (.still 2 (.still 3 (.still 4 (.still 5 (.still 6 (.still 7 (.still 8 .done))))))))) (by kernel_rfl) (by kernel_rfl) (fun _ _ d _ _ h=>by cases d<;>exact h) ⟨h0,k0⟩ (fun hS0=>?_)
 iterate 9
  refine q00 (v:=?_) rfl (by rfl) ?_ ?_;rotate_left
  ·intro w a0;go_simp;with_reducible rfl
  simp only[Act.put,sa,sb,sc]
 refine q0d ?_;go_wp2_with fail
 refine q01 (fun w'=>w'.cell? ⟨gx,ox+1,none⟩=some (.slice A n c)/\w'.cell? ⟨gy,oy+1,none⟩=some (.slice B m d)) 14
  (.still 0 (.still 1 (.still 2 (.still 3 (.still 4 (.still 5 (.still 6 (.still 7 (.one 8 (.still 9 (.still 10 (.still 11 (.still 12 (.still 13 .done)))))))))))))) (by kernel_rfl) (by kernel_rfl) (fun _ _ d _ _ h=>by cases d<;>exact h) ⟨h1,k1⟩ (fun hS0=>?_)
 iterate 8
  refine q00 (v:=?_) rfl (by rfl) ?_ ?_;rotate_left
  ·intro w a0;go_simp;with_reducible rfl
  simp only[Act.put,sa,sb,sc]
 refine q06 rfl (by rfl) (fun K hK=>?_);go_simp;refine HM.o.mono ?_;rintro e w1 ⟨A1,m1,c1,A2,m2,c2,rfl,a1,a2,a3,b0,hB⟩;have HB:Hid (Below w.heap.size w w1):=vv ⟨hB.os,hB.tape,hB.output,hB.size,hB.block⟩;have b1:=vv a1;have b2:=vv a2;clear a1 a2 hB;go_wp2_with fail
 refine hK.out _ _ ⟨(HB.o.cell (p:=⟨gx,ox+1,none⟩) a8).trans h1,(HB.o.cell (p:=⟨gy,oy+1,none⟩) a9).trans k1⟩ (fun a4=>?_);clear hK
 iterate 5
  refine q00 (v:=?_) rfl (by rfl) ?_ ?_;rotate_left
  ·intro w a0;go_simp;with_reducible rfl
  simp only[Act.put,sa,sb,sc]
 refine q0L rfl ?_;go_wp2_with fail
 refine(q0X gr or ur (sg (decide (u1<0)) (u1.natAbs%u2.natAbs)) _ A2 m2 c2 _ _ (HR.o.below HB.o) b2.o (fun a e=>(b0 a e).2) (q2D _ _) (q2w _ _)).mono ?_;rintro e w2 hP;have HF:=vv (hP.fs (HR.o.below HB.o));obtain⟨rfl,a5,hF⟩:=hP;have b3:=vv a5;clear a5;go_wp2_with fail
 refine(q0X g o v (sg (decide (u1<0) != decide (u2<0)) (u1.natAbs/u2.natAbs)) _ A1 m1 c1 _ _ ((HI.o.below HB.o).fs1 HF.o (Ne.symm hne)) (b1.o.fs (fun a e=>(a3 a e).2) HF.o) (fun a e=>(a3 a e).2) (q2D _ _) (q2w _ _)).mono ?_;rintro e w3 hP;have a6:=vv (hP.fs ((HI.o.below HB.o).fs1 HF.o (Ne.symm hne)));obtain⟨rfl,a7,b5⟩:=hP;have b4:=vv a7;clear a7;go_wp2;go_ret2
 exact⟨rfl,b4.o,b3.o.fs1 a6.o hne,((Fs.of_below [] HB.o (fun _ hp=>by cases hp)).trans HF.o).trans a6.o⟩
theorem Exp(g o gx ox gy oy:Nat)(v:Int)(x y:Nat)(w:World)(h:IntAt w g o v)(hx:IntAt w gx ox (x:Int))(hy:IntAt w gy oy (y:Int))(hx0:0<x)(hy0:0<y)(hs:Sz (x^y))(hsy:Sz y):
  Calls Tryz.prog 90 #[.pointer (some ⟨g,o,none⟩),.pointer (some ⟨gx,ox,none⟩),.pointer (some ⟨gy,oy,none⟩),.pointer none] w (q8P g o ((x^y:Nat):Int) w):=by
 have HI:=vv h;have HX:=vv hx;have HY:=vv hy;have b9:=hy.lt;have HP:Hid (∀q,q<=y->Sz (x^q)):=vv fun q hq=>hs.mono (Nat.pow_le_pow_right hx0 hq)
 have c0:Hid ((y:Int).sign=1):=vv (Int.sign_eq_one_of_pos (by omega));have c1:=vv hsy;have d7:=vv hx0;have c2:=vv hy0;have HB:Hid (∀(w:World) t,Below w.heap.size w (w.alloc (.cells #[.bool false,.slice none 0 0] t))):=vv fun w t=>(Below.refl _ w).alloc lr _
 have HZ:=vv (IntAt.zero w 143);clear h hx hy hs hsy hx0 hy0;go_enter Tryz.func90,Tryz.ntmps90
 go_wp2_with fail
 refine(NewInt 1 _ (by omega) (by omega)).mono ?_;rintro e w1 ⟨g1,rfl,b3,a4,a5⟩;have c3:=vv a4;have a6:=vv ((HB.o w 143).trans (a5.mono (Below.size (HB.o w 143))));have c4:=vv (HZ.o.below a5);have c6:=a4.lt;have c7:w.heap.size<g1:=by simp at b3;omega
 have a7:=a6.o.size;clear a4 a5 b3;go_wp2_with fail
 have a8:=vv (a6.o.trans ((HB.o w1 143).mono a6.o.size));have b4:=vv (IntAt.zero w1 143);refine(Set _ 0 gx ox 0 _ _ b4.o (HX.o.below a8.o)).mono ?_;rintro e w2 hP;have hP:=hP.f b4.o;have a9:=vv (hP.below a8.o (a8.o.size) a7);have c8:=vv ((c3.o.below (HB.o w1 143)).fs1 hP.2.2 (by omega));have c9:=vv ((c4.o.below (HB.o w1 143)).fs1 hP.2.2 (by omega));have d0:=vv hP.2.1;obtain⟨rfl,-,-⟩:=hP;have b0:=vv (HY.o.below a9.o);go_wp2_with fail
 refine(Sign gy oy _ _ b0.o).mono ?_;rintro e w3 ⟨rfl,rfl⟩;rw[c0.o];obtain⟨B,m,d,k0,k1,hr,hz⟩:=b0.o.ex;have HR:=vv hr;have hm:=hr.words;have HM:=vv hm;have d8:=hr.sz c1.o;have b5:=b0.o.lt;clear hr hz k0 hm;go_wp2_with fail
 refine(q1P _ _ _ _ _ HR.o).mono ?_;rintro e w3 ⟨rfl,hO,hB⟩;have d1:Hid (ExpInv w w.heap.size g1 w1.heap.size (some ⟨w2.heap.size,0,none⟩) m x y 0 w3):=vv
  ⟨c9.o.below hB,by simpa using c8.o.below hB,d0.o.below hB,hO.rd HR.o.len.symm lr HR.o.sm,fun a e=>by cases e;rfl,a9.o.trans (hB.mono a9.o.size)⟩
 clear hO hB;go_wp2;go_loopw [13] (fun i wr=>∃(z:Int) (j:Nat),i=.int .i64 z/\z+1=j/\j<=32*m/\ExpInv w w.heap.size g1 w1.heap.size (some ⟨w2.heap.size,0,none⟩) m x y (y/2^j) wr) (fun i _=>(intOf i+1).toNat)
 case atStart =>
  refine⟨_,32*m,rfl,by omega,lr,?_⟩;have b6:=q0o y;have d2:words y=m:=HM.o;rw[d2,q38] at b6;rw[Nat.div_eq_of_lt b6];exact d1.o
 case round =>
  obtain⟨z,j,rfl,hz,hj,hE⟩:=hrel;have HE:=vv hE;clear hE;rcases Nat.eq_zero_or_pos j with rfl|d3
  ·obtain rfl:z = -1:=by omega
   clear hz;go_wp2_with fail
   have b7:=HE.o.o;rw[Nat.pow_zero,Nat.div_one] at b7;refine(Set g o g1 0 _ _ _ (HI.o.below HE.o.bel) b7).mono ?_;rintro e w5 hP;have hF:=vv ((hP.f (HI.o.below HE.o.bel)).after HE.o.bel);obtain⟨rfl,d4,-⟩:=hP;go_wp2;go_ret
   exact⟨rfl,d4,hF.o⟩
  ·obtain⟨i,rfl⟩:∃i,j=i+1:=⟨j-1,by omega⟩;obtain rfl:z=(i:Int):=by omega
   clear hz;have i1:(0:Int)<=(i:Int):=by omega
   have i2:(i:Int)<32*(m:Int):=by omega
   go_wp2_with fail
   refine(Mul g1 0 g1 0 g1 0 _ _ _ _ HE.o.o HE.o.o HE.o.o (by simpa using HP.o _ (Nat.div_le_self _ _)) (by simpa using HP.o _ (Nat.div_le_self _ _))).mono ?_;rintro e w4 hP;have a1:=vv (HE.o.step hP (q':=2*(y/2^(i+1))) (by rw[<- Int.natCast_mul,<- Nat.pow_add];congr 2;omega) (by omega) (by omega) (by omega));obtain⟨rfl,-,-⟩:=hP;obtain⟨b,off,d5,d9,hc⟩:=a1.o.words.cell (by omega);cases d5
   have b8:=hc (i/32) (by omega);rw[Nat.zero_add] at b8;clear hc;have a0:=q6e (nth (toL y) (i/32)) (i%32) (a1.o.words.nth_lt _);rw[q9I] at a0;have HQ:=vv (q2I y i);by_cases hb:y/2^i%2=1
   ·rw[decide_eq_true hb] at a0;have a3:Hid (y/2^i=2*(y/2^(i+1))+1):=vv (by have:=HQ.o;omega);clear hb;go_wp2_with fail
    refine(Mul g1 0 g1 0 w1.heap.size 0 _ _ _ _ a1.o.o a1.o.o a1.o.base (by simpa using HP.o _ (by have:=Nat.div_le_self y (2^i);have:=a3.o;omega)) (by simpa using HP.o 1 c2.o)).mono ?_;rintro e w5 hP;have a2:=vv (a1.o.step hP (q':=y/2^i) (by rw[a3.o,Nat.pow_add x _ 1,Nat.pow_one,Int.natCast_mul]) (by omega) (by omega) (by omega));obtain⟨rfl,-,-⟩:=hP;obtain⟨A5,c5,d6⟩:=a2.o.by_.nil;have b1:=a2.o.by_.lt;clear b8 a0;go_wp2;go_roundw
    case rel=>exact⟨_,i,rfl,by omega,by omega,a2.o⟩
    case measure=>simp [intOf]
   ·rw[decide_eq_false hb] at a0;have a3:Hid (y/2^i=2*(y/2^(i+1))):=vv (by have:=HQ.o;omega);clear hb;have b2:=a1.o;rw[<- a3.o] at b2;have a2:=vv b2;obtain⟨A5,c5,d6⟩:=a2.o.by_.nil;have b1:=a2.o.by_.lt;clear b2;go_wp2;go_roundw
    case rel=>exact⟨_,i,rfl,by omega,by omega,a2.o⟩
    case measure=>simp [intOf]
theorem Exp0(g o gx ox gy oy:Nat)(v x:Int)(w:World)(h:IntAt w g o v)(hx:IntAt w gx ox x)(hy:IntAt w gy oy 0):
  Calls Tryz.prog 90 #[.pointer (some ⟨g,o,none⟩),.pointer (some ⟨gx,ox,none⟩),.pointer (some ⟨gy,oy,none⟩),.pointer none] w (q8P g o 1 w):=by
 have HI:=vv h;have HX:=vv hx;have HY:=vv hy;have a9:=hy.lt;have HB:Hid (∀(w:World) t,Below w.heap.size w (w.alloc (.cells #[.bool false,.slice none 0 0] t))):=vv fun w t=>(Below.refl _ w).alloc lr _
 have HZ:=vv (IntAt.zero w 143);clear h hx hy;go_enter Tryz.func90,Tryz.ntmps90
 go_wp2_with fail
 refine(NewInt 1 _ (by omega) (by omega)).mono ?_;rintro e w1 ⟨g1,rfl,a6,a1,a2⟩;have b0:=vv a1;have a3:=vv ((HB.o w 143).trans (a2.mono (Below.size (HB.o w 143))));have b1:=vv (HZ.o.below a2);have b2:=a1.lt;have b3:w.heap.size<g1:=by simp at a6;omega
 have a4:=a3.o.size;clear a1 a2 a6;go_wp2_with fail
 have a5:=vv (a3.o.trans ((HB.o w1 143).mono a3.o.size));have a7:=vv (IntAt.zero w1 143);refine(Set _ 0 gx ox 0 _ _ a7.o (HX.o.below a5.o)).mono ?_;rintro e w2 hP;have hP:=hP.f a7.o;have a0:=vv (hP.below a5.o (a5.o.size) a4);have b4:=vv ((b0.o.below (HB.o w1 143)).fs1 hP.2.2 (by omega));have a8:=vv ((b1.o.below (HB.o w1 143)).fs1 hP.2.2 (by omega));obtain⟨rfl,-,-⟩:=hP;have b5:=vv (HY.o.below a0.o);go_wp2_with fail
 refine(Sign gy oy _ _ b5.o).mono ?_;rintro e w3 ⟨rfl,rfl⟩;rw[Int.sign_zero];obtain⟨A5,c5,b8⟩:=a8.o.nil;have b6:=a8.o.lt;go_wp2_with fail
 refine(Set g o g1 0 _ _ _ (HI.o.below a0.o) b4.o).mono ?_;rintro e w5 hP;have hF:=vv ((hP.f (HI.o.below a0.o)).after a0.o);obtain⟨rfl,b7,-⟩:=hP;go_wp2;go_ret
 exact⟨rfl,b7,hF.o⟩
def q4I(d:Nat)(w:World)(e:Ending)(w':World):Prop:=∃A n c,e=.returned (.slice A n c)/\Rd w' A n c (toL d)/\(∀a,A=some a->a.off=0)/\Below w.heap.size w w'
theorem below(g:Nat)(p:Int)(d:Nat)(w:World)(h:RatAt w g p d):
  Calls Tryz.prog 244 #[.pointer (some ⟨g,0,none⟩)] w (q4I (ld p d) w):=by
 have a0:=h.lt;have hp:=q91 (p:=p) h.pos;obtain⟨A,n,c,e,⟨hd,hz⟩⟩:=h.den;clear h;rcases hd with ⟨rfl,hd⟩|⟨hn,hr⟩
 ·rw[hd];clear hd hp;go_enter Tryz.func244,Tryz.ntmps244
  go_wp2;go_ret
  have hO:Own (w.alloc (.cells #[.int .u32 1] 34)) w.heap.size 34 [1]:=Own.lit _ (q0B.2 ⟨by omega,q11⟩) (by simp [q0w]);exact⟨_,1,1,rfl,hO.rd rfl lr (by omega),fun a e=>by cases e;rfl,(Below.refl _ _).alloc lr _⟩
 ·have a1:=hr.sm;have h0:((n:Int)==0)=false:=by simp;omega
  have HR:=vv hr;clear hr hp;go_enter Tryz.func244,Tryz.ntmps244
  go_wp2;go_ret
  exact⟨_,n,c,rfl,HR.o,hz,Below.refl _ _⟩
theorem Num(g:Nat)(p:Int)(d:Nat)(w:World)(h:RatAt w g p d):
  Calls Tryz.prog 241 #[.pointer (some ⟨g,0,none⟩)] w (q3s (lp p d) w):=by
 have a0:=h.lt;have HB:Hid (∀t,Below w.heap.size w (w.alloc (.cells #[.bool false,.slice none 0 0] t))):=vv fun t=>(Below.refl _ w).alloc lr _
 have HN:=vv h.num;clear h;go_enter Tryz.func241,Tryz.ntmps241
 go_wp2_with fail
 refine(Set _ 0 g 0 0 _ _ (IntAt.zero w 143) (HN.o.below (HB.o _))).mono ?_;rintro e w1 ⟨rfl,hI,hF⟩;go_wp2;go_ret
 exact⟨_,rfl,lr,hI,hF.below (HB.o _) (by simp) lr⟩
theorem Denom(g:Nat)(p:Int)(d:Nat)(w:World)(h:RatAt w g p d):
  Calls Tryz.prog 189 #[.pointer (some ⟨g,0,none⟩)] w (q3s (ld p d:Nat) w):=by
 have a5:=h.lt;have HB:Hid (∀t,Below w.heap.size w (w.alloc (.cells #[.bool false,.slice none 0 0] t))):=vv fun t=>(Below.refl _ w).alloc lr _
 have HN:=vv h;clear h;go_enter Tryz.func189,Tryz.ntmps189
 go_wp2_with fail
 refine(below g p d _ (HN.o.below (HB.o _))).mono ?_;rintro e w1 ⟨A,n,c,rfl,hR,hz,a0⟩;have HZ:=vv ((IntAt.zero w 143).below a0);have HR:=vv hR;have a3:=vv ((HB.o 143).trans (a0.mono (HB.o _).size));clear hR a0;go_wp2_with fail
 refine(q1P _ _ _ _ _ HR.o).mono ?_;rintro e w2 ⟨rfl,hO,a1⟩;have HO:=vv hO;have a4:=vv (HZ.o.below a1);have a2:=vn a3 a1;clear hO a1;go_wp2_with fail
 refine(q0X _ 0 0 (ld p d:Nat) _ _ n n (ld p d) _ a4.o (HO.o.rd HR.o.len.symm lr HR.o.sm) (fun a e=>by cases e;rfl) rfl (q4l (by omega))).mono ?_;rintro e w3 ⟨rfl,hI,hF⟩;go_wp2;go_ret
 exact⟨_,rfl,lr,hI,hF.below a2.o a2.o.size lr⟩
theorem RSign(g:Nat)(p:Int)(d:Nat)(w:World)(h:RatAt w g p d):
  Calls Tryz.prog 242 #[.pointer (some ⟨g,0,none⟩)] w fun e w'=>e=.returned (.int .i64 p.sign)/\w=w':=by
 have a0:=h.lt;have HN:=vv (Sign g 0 _ w h.num);have HS:=vv (q9M (p:=p) h.pos);clear h;go_enter Tryz.func242,Tryz.ntmps242
 go_wp2_with fail
 refine HN.o.mono ?_;rintro e w1 ⟨rfl,rfl⟩;rw[HS.o];go_wp2;go_ret
 exact⟨rfl,rfl⟩
theorem q7D(g:Nat)(b:Bool)(A B:Option Addr)(n c m d:Nat)(xs ys:List Nat)(w:World)(h:RatSh w g)(ha:Rd w A n c xs)(hb:Rd w B m d ys)(hD:0<val ys)(h0:val xs=0):
  Calls Tryz.prog 239 #[.pointer (some ⟨g,0,none⟩),.bool b,.slice A n c,.slice B m d] w (qaf g (sg b (val xs)) (val ys) w):=by
 have HH:=vv h;obtain⟨v,hv⟩:=h.int;have HV:=vv hv;have a2:=hv.lt;have HA:=vv (q1T A n c xs w ha);have HB:=vv (q1T B m d ys w hb);have HD:=vv hD;have H0:=vv h0;clear hv h ha hb hD h0;go_enter Tryz.func239,Tryz.ntmps239
 go_wp2_with fail
 refine HA.o.mono ?_;rintro e w' ⟨n1,rfl,rfl,hR⟩;obtain rfl:n1=0:=by rw[<- hR.words];exact q0c.2 H0.o
 clear hR;go_wp2_with fail
 refine HB.o.mono ?_;rintro e w' ⟨m1,rfl,rfl,hR⟩;clear hR;go_wp2_with fail
 refine(q0X g 0 v 0 _ none 0 0 0 _ HV.o (Rd.nil _) (fun a e=>by cases e) rfl rfl).mono ?_;rintro e w1 hP;have hP:=hP.f HV.o;obtain⟨hi,x,hx⟩:=HH.o.num hP;have a0:=hi.lt;have a3:=hi.fz 2;have HF:=vv hP.2.2;have HI:=vv hi;obtain⟨rfl,-,-⟩:=hP;have a1:=vv hx;clear hi;go_wp2;go_ret
 refine⟨rfl,RatAt.made HI.o ⟨x,a1.o⟩ (q2d.nil _) HD.o (by omega) (Nat.gcd_one_right _) ?_,fs3 ?_⟩
 ·rw[H0.o];cases b<;>simp [sg]
 ·exact HF.o.trans (Fs.set2 HI.o _)
theorem q8Q(g:Nat)(b:Bool)(A B:Option Addr)(n c m d:Nat)(xs ys:List Nat)(w:World)(h:RatSh w g)(ha:Rd w A n c xs)(hb:Rd w B m d ys)(hD:0<val ys)(h0:0<val xs)(hza:∀a,A=some a->a.off=0)(hzb:∀a,B=some a->a.off=0)
  (hst:Std w) (hn:n<549755813888) (hm:m<549755813888) :
  Calls Tryz.prog 239 #[.pointer (some ⟨g,0,none⟩),.bool b,.slice A n c,.slice B m d] w (qaf g (sg b (val xs)) (val ys) w):=by
 have HH:=vv h;obtain⟨v,hv⟩:=h.int;have HV:=vv hv;have e0:=hv.lt;have HA:=vv (q1T A n c xs w ha);have HB:=vv (q1T B m d ys w hb);have HD:=vv hD;have H0:=vv h0;have b8:=vv hst;have b9:=vv ha.lim;have c0:=vv hb.lim;have c3:=vv ha.len;have c5:=vv hb.len;have HG:=vv (q1X (n:=val xs) hD);have a0:=vv (qaA (b:=b) (N:=val xs) hD);have b0:Hid (0<val ys/Nat.gcd (val xs) (val ys)):=vv (Nat.div_pos (Nat.le_of_dvd hD (Nat.gcd_dvd_right _ _)) HG.o);clear hv h ha hb hD h0 hst;go_enter Tryz.func239,Tryz.ntmps239
 go_wp2_with fail
 refine HA.o.mono ?_;rintro e w' ⟨n1,rfl,rfl,hR⟩;have e1:n1<=n:=hR.trim_le b9.o (by rw[c3.o];exact lr);have e2:0<n1:=by
  rcases Nat.eq_zero_or_pos n1 with e|e
  ·have:=hR.words;rw[e] at this;have:=q0c.1 this;have:=H0.o;omega
  ·exact e
 have e3:=hR.sm;have HR:=vv hR;clear hR;go_wp2_with fail
 refine HB.o.mono ?_;rintro e w' ⟨m1,rfl,rfl,hR⟩;have e4:m1<=m:=hR.trim_le c0.o (by rw[c5.o];exact lr);have b1:=vv hR;clear hR;have e5:((n1:Int)==0)=false:=by simp;omega
 go_wp2_with fail
 refine(qb6 A B n1 m1 c d _ _ _ HR.o b1.o b8.o (by omega) (by omega)).mono ?_;rintro e w1 ⟨A1,k1,c1,rfl,hG,c6,a8⟩;have b2:=vv hG;have b3:=vv a8;have c7:=vv (HR.o.below a8 rfl);have a9:=vv (b1.o.below a8 rfl);clear hG;go_wp2_with fail
 refine q01 (fun _=>True) 7
  (.still 0 (.still 1 (.still 2 (.still 3 (.still 4 (.still 5 (.one 6 .done))))))) (by kernel_rfl) (by kernel_rfl) (fun _ _ d _ _ h=>by cases d<;>exact h) trivial (fun hS0=>?_)
 clear hS0
 iterate 6
  refine q00 (v:=?_) rfl (by rfl) ?_ ?_;rotate_left
  ·intro w e6;go_simp;with_reducible rfl
  simp only[Act.put,sa,sb,sc]
 refine q06 rfl (by rfl) (fun K hK=>?_);go_simp;refine(by_ A A1 n1 k1 c c1 _ _ _ c7.o.drew b2.o.drew HG.o (by omega)).mono ?_;rintro e w2 ⟨A2,k2,c2,rfl,hQ,a1,a4⟩;have a5:Hid (Below w.heap.size w w2):=vv ((q04 b3.o).trans (a4.mono (by simpa using b3.o.size)));have b4:∀a,A2=some a->a.off=0:=fun a e=>by
  rcases a1 with hf|hf
  ·exact(hf a e).2
  ·exact hza a (hf ▸ e)
 have HQ:=vv hQ;have c8:=vv b4;have c9:=vv (b2.o.drew.below a4 rfl);have a2:=vv (a9.o.drew.below a4 rfl);clear hQ b4 a1 a4;go_wp2_with fail
 refine hK.out _ _ trivial (fun b5=>?_);clear hK;refine q0d ?_;go_wp2_with fail
 refine(q0X g 0 v (sg b (val xs/Nat.gcd (val xs) (val ys))) _ A2 k2 c2 _ _ (HV.o.below a5.o) HQ.o c8.o (q2D _ _) (q2w _ _)).mono ?_;rintro e w3 hP;have hP:=hP.f (HV.o.below a5.o);have d0:=vv hP.2.2;have d1:=vv ((HH.o.below a5.o).num hP);have d2:=vv (c9.o.fs (fun a e=>(c6 a e).2) hP.2.2);have d3:=vv (a2.o.fs hzb hP.2.2);obtain⟨rfl,-,-⟩:=hP;go_wp2_with fail
 refine(by_ B A1 m1 k1 d c1 _ _ _ d3.o d2.o HG.o (by omega)).mono ?_;rintro e w4 ⟨A4,k4,c4,rfl,hQ,a3,a6⟩;have b6:∀a,A4=some a->a.off=0:=fun a e=>by
  rcases a3 with hf|hf
  ·exact(hf a e).2
  ·exact hzb a (hf ▸ e)
 have d4:=vv hQ;have d5:=vv b6;obtain⟨hi,x,hx⟩:=d1.o;have a7:=hi.below a6;have d6:=(a6.cell (p:=⟨g,2,none⟩) hi.lt).trans hx;have d7:=a7.lt;have e7:=a7.fz 2;have b7:=vv a7;have d8:=vv d6;have d9:Hid (Fs [(g,0,2)] w w4):=vv (((d0.o.after a5.o).trans (Fs.of_nil a6)).drop (fun p hp _=>by simpa using hp) (fun p hp=>by simpa using hp));clear hQ b6 a3 a6 hi a7 hx;go_wp2;go_ret
 refine⟨rfl,RatAt.made b7.o ⟨x,d8.o⟩ (d4.o.den b0.o d5.o) HD.o b0.o a0.o.1 a0.o.2,fs3 ?_⟩;exact d9.o.trans (Fs.set2 b7.o _)
theorem qcm(g:Nat)(b:Bool)(A B:Option Addr)(n c m d:Nat)(xs ys:List Nat)(w:World)(h:RatSh w g)(ha:Rd w A n c xs)(hb:Rd w B m d ys)(hD:0<val ys)(hza:∀a,A=some a->a.off=0)(hzb:∀a,B=some a->a.off=0)
  (hst:Std w) (hn:n<549755813888) (hm:m<549755813888) :
  Calls Tryz.prog 239 #[.pointer (some ⟨g,0,none⟩),.bool b,.slice A n c,.slice B m d] w (qaf g (sg b (val xs)) (val ys) w):=by
 rcases Nat.eq_zero_or_pos (val xs) with h0|h0
 ·exact q7D g b A B n c m d xs ys w h ha hb hD h0
 ·exact q8Q g b A B n c m d xs ys w h ha hb hD h0 hza hzb hst hn hm
theorem SetFrac(g gx gy:Nat)(u:Int)(D:Nat)(w:World)(h:RatSh w g)(hx:IntAt w gx 0 u)(hy:IntAt w gy 0 (D:Int))(hD:0<D)(hst:Std w)(hn:Sz u.natAbs)(hm:Sz D):
  Calls Tryz.prog 186 #[.pointer (some ⟨g,0,none⟩),.pointer (some ⟨gx,0,none⟩),.pointer (some ⟨gy,0,none⟩)] w (qaf g u D w):=by
 have a3:=hx.lt;have a4:=hy.lt;obtain⟨A,n,c,h0,h1,hr,hz⟩:=hx.ex;obtain⟨B,m,d,k0,k1,hs,hy⟩:=hy.ex;rw[decide_eq_false (by omega)] at k0;have a7:Rd w B m d (toL D):=hs;have HA:=vv hr;have HB:=vv a7;have HH:=vv h;have b1:=vv hst;have HD:=vv hD;have HN:=vv (hr.sz hn);have HM:=vv (a7.sz hm);clear hr hz hs a7 hy h hx hn hm hst hD;have fin:∀w1 w2 A' B',Below w.heap.size w w1->Below w1.heap.size w1 w2->Rd w2 A' n n (toL u.natAbs)->Rd w2 B' m m (toL D)->(∀a,A'=some a->a.off=0)->(∀a,B'=some a->a.off=0) ->
   Calls Tryz.prog 239 #[.pointer (some ⟨g,0,none⟩),.bool (decide (u<0)),.slice A' n n,.slice B' m m] w2 (qaf g u D w):=by
  intro w1 w2 A' B' a9 b2 ha hb b3 b4;have a8:=a9.trans (b2.mono a9.size);refine(qcm g _ A' B' n n m m _ _ w2 (HH.o.below a8) ha hb (by rw[q03];exact HD.o) b3 b4 (b1.o.fs (Fs.of_nil a8)) (by have:=HN.o;omega) (by have:=HM.o;omega)).mono ?_;rintro e w' ⟨he,hR,hF⟩;rw[q03,q03,q9y] at hR;exact⟨he,hR,hF.after a8⟩
 have Fin:=vv fin;clear fin;go_enter Tryz.func186,Tryz.ntmps186
 go_wp2_with fail
 refine q01 (fun w'=>w'.cell? ⟨gx,0,none⟩=some (.bool (decide (u<0)))/\w'.cell? ⟨gx,1,none⟩=some (.slice A n c)/\w'.cell? ⟨gy,0,none⟩=some (.bool false)/\w'.cell? ⟨gy,1,none⟩=some (.slice B m d)) 20
  (.still 0 (.still 1 (.still 2 (.still 3 (.still 4 (.still 5 (.still 6 (.still 7 (.still 8 (.still 9 (.still 10 (.still 11 (.still 12 (.still 13 (.still 15 (.still 16 (.still 17 (.still 18 (.one 14 (.one 19 .done)))))))))))))))))))) (by kernel_rfl) (by kernel_rfl) (fun _ _ d _ _ h=>by cases d<;>exact h) ⟨h0,h1,k0,k1⟩ (fun hS0=>?_)
 iterate 18
  refine q00 (v:=?_) rfl (by rfl) ?_ ?_;rotate_left
  ·intro w b8;go_simp;with_reducible rfl
  simp only[Act.put,sa,sb,sc]
 refine q06 rfl (by rfl) (fun K hK=>?_);go_simp;refine(q1P _ _ _ _ _ HA.o.drew).mono ?_;rintro e w1 ⟨rfl,hO,a1⟩;have HO:=vv (hO.rd HA.o.len.symm lr HA.o.sm);have a0:Hid (Below w.heap.size w w1):=vv ⟨a1.os,a1.tape,a1.output,a1.size,a1.block⟩;clear hO a1;go_wp2_with fail
 refine hK.out _ _ ⟨(a0.o.cell (p:=⟨gx,0,none⟩) a3).trans h0,(a0.o.cell (p:=⟨gx,1,none⟩) a3).trans h1,(a0.o.cell (p:=⟨gy,0,none⟩) a4).trans k0,(a0.o.cell (p:=⟨gy,1,none⟩) a4).trans k1⟩ (fun a2=>?_);clear hK;refine q06 rfl (by rfl) (fun K hK=>?_);go_simp;refine(q1P _ _ _ _ _ (HB.o.below a0.o rfl)).mono ?_;rintro e w2 ⟨rfl,b0,a5⟩;have b5:=vv (b0.rd HB.o.len.symm lr HB.o.sm);have b6:=vv (HO.o.below a5 rfl);have b7:=vv a5;have a6:=vn a0 a5;clear b0 a5;go_wp2_with fail
 refine hK.out _ _ ⟨(a6.o.cell (p:=⟨gx,0,none⟩) a3).trans h0,(a6.o.cell (p:=⟨gx,1,none⟩) a3).trans h1,(a6.o.cell (p:=⟨gy,0,none⟩) a4).trans k0,(a6.o.cell (p:=⟨gy,1,none⟩) a4).trans k1⟩ (fun a2=>?_);clear hK;refine q0d ?_;go_wp2_with fail
 refine(Fin.o w1 w2 _ _ a0.o b7.o b6.o b5.o (fun a e=>by cases e;rfl) (fun a e=>by cases e;rfl)).mono ?_;rintro e w3 ⟨rfl,hR,hF⟩;have HR:=vv hR;go_wp2;go_ret
 exact⟨rfl,HR.o,hF⟩
end Go.Proofs.YtcdimmblnbkjjaaGreatDoor.A
