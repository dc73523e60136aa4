/- Lemmas. -/
import Derived.Test.YtokgagenofjmgaaGreatDoorPartBU
import Derived.Test.YtokgagenofjmgaaGreatDoorPartBS
import Derived.Sort.QuietIn
set_option linter.all false
set_option maxRecDepth 100000
open Go.Proofs.Tryz
open Option renaming none->qa,some->qc
open Go renaming RowKit.Below.refl->qb,RowKit.Below.heap_setCell->qe,World.putObj_heap_other->qg,World->qh,run_takeDeferred->qi
open Decidable renaming decide->qd
open Go.RowKit renaming Below->qf
namespace Go.Proofs.YtokgagenofjmgaaGreatDoor
variable{w5 W:qh}{n g D:Nat}{t:TypeId}{cs:List Value}{ds:Option (List Deferred)}
namespace Str
open Go Go.RowKit R5 Scn Hx Rdx
def q3T(w5:qh)(pre:List Tk)(W:qh):Prop:=qf w5.heap.size w5 W/\Blk W w5.heap.size 3 [.int .i64 (pre.length:Int)]
theorem q2X{B:Nat}(hB:w5.heap.size<=B)(P:List Tk->Prop):OwnFrom B (fun pre W=>q3T w5 pre W/\P pre):=by
 rintro pre A C row ⟨⟨a,b⟩,i⟩ c d;have h:∀(k:Nat) (f:Array Value) (t:TypeId),A.heap[k]?=qc (.cells f t (0,0))->row≠qc k:=by rintro k f t j rfl;obtain⟨-,o,g,l⟩:=d k rfl;rw[j] at g;cases g;cases l
 exact⟨⟨a.grown c a.size (fun k e=>k07 hB (d k e).1),b.grown c (h _ _ _ b)⟩,i⟩
theorem q29(hn:w5.heap.size<=n)(P:List Tk->Prop)(pre:List Tk)(A C:qh)(h:q3T w5 pre A/\P pre)(hk:Kz n A C):q3T w5 pre C/\P pre:=by obtain⟨⟨a,b⟩,c⟩:=h;exact⟨⟨a.trans (hk.low hn a.size),hk.blk b (by unfold RT;decide)⟩,c⟩
def OnP(most:Int)(pre:List Tk):Prop:=most<1\/(pre.length:Int)<most
def qee(most:Int)(ts:List Tk)(c:Code)(id:Nat)(pre:List Tk):Prop:=c=.exit id/\(pre.length:Int)=most/\1<=most/\pre <+: ts
theorem q5L(E F:Int)(mode:Nat)(sep s:ByteArray):(q1n E F mode sep s).length<=s.size+1:=by
 unfold q1n;split
 ·have a:=q4b (q1Y++sep) (q0h s) 0 qa;rw[q1q] at a;simp only[Option.toList_none,k15] at a;omega
 ·simp
attribute [local go_sem] Oper.semAt_some q3x q1P q1O
theorem q90(most:Int):OnP most []:=by unfold OnP;simp only[k15];omega
theorem q77{α:Type}{pre ts:List α}{x:α}(h:(pre++[x]) <+: ts):∃hl:pre.length<ts.length,ts[pre.length]=x:=by obtain⟨r,rfl⟩:=h;exact⟨by simp,by simp⟩
theorem q5R{A B:Option Addr}{m c d:Nat}(h:Value.slice A n c=.slice B m d):A=B/\n=m/\c=d:=by injection h with a b c;exact⟨a,b,c⟩
theorem q7c{most:Int}{pre:List Tk}{x:Tk}(h:OnP most pre)(hm:¬(pre.length:Int)+1=most):OnP most (pre++[x]):=by unfold OnP at h ⊢;rw[k0n,k1M];omega
theorem q3B{B:qh}{base:Nat}{pre:List Tk}{x:Tk}(nq:Nat){v:Int}(h:q3T w5 pre B)(hb:base<=w5.heap.size)(hv:v=(pre.length:Int)+1):(∀n,KeepsFrom n B ((B.drewN nq).setCell ⟨w5.heap.size,0,qa⟩ (.int .i64 v)))/\Kb base B ((B.drewN nq).setCell ⟨w5.heap.size,0,qa⟩ (.int .i64 v))/\q3T w5 (pre++[x]) ((B.drewN nq).setCell ⟨w5.heap.size,0,qa⟩ (.int .i64 v)):=by
 obtain⟨g,d⟩:=h;have i:Blk (B.drewN nq) w5.heap.size 3 [.int .i64 (pre.length:Int)]:=d;have b:=i.set 0 (.int .i64 v);simp only[k2y] at b;have a:qf w5.heap.size B (B.drewN nq):=q0f (qb _ _) nq;have f:KeepsOthers B (B.drewN nq):=⟨lr,fun _ _ h _=>h⟩;refine⟨fun n=>(f.trans (KeepsOthers.setCell _ _ _)).from n,⟨(a.mono hb).setCell (by exact hb) _,(a.setCell lr _).size,fun k cs t hk ht=>?_⟩,⟨g.trans (a.setCell lr _),?_⟩⟩
 ·refine(qe (B.drewN nq) _ _ k (fun e=>?_));have j:k=w5.heap.size:=e;subst j;have c:=d;unfold Blk at c;rw[hk] at c;cases c;revert ht;unfold KT RT;decide
 ·rw[k0n,k1M];rw[hv] at b;rw[hv];exact b
theorem qeZ{P:Program}{c:Code}{id:Nat}{Q:Exit->Act->qh->Prop}{a:Act}{w:qh}(E:Nat->qh->Prop)(hend:∀D W,E D W->Q .normal {a with defers:={target:=.collected D,args:=#[]}::a.defers} W)
  (h:(∀D W,E D W->Q .normal {a with defers:={target:=.collected D,args:=#[]}::a.defers} W)->c.wpIn Fence.wide 0 P (Exit.inBlock id Q) a w):c.wpIn Fence.wide 0 P (Exit.inBlock id Q) a w:=h hend
theorem q7d(h:Blk W g t cs)(k:W.heap[D]?=qc (.deferred ds))(e:D=g):False:=by subst e;unfold Blk at h;rw[k] at h;cases h
theorem q6N{o:Obj}(h:Blk W g t cs)(k:W.heap[D]?=qc (.deferred ds)):Blk (W.putObj D o) g t cs:=(qg (fun e=>q7d h k e.symm)).trans h
theorem q1a{fn:Func}{p:Tmp}(h:fn.results=#[.cell p 4])(tmps:Array Value)(w:qh)(g:Nat)(b:Bool)
  (hp:tmps.getD p undef=.pointer (qc ⟨g,0,qa⟩)) (hg:Blk w g 4 [.bool b]):(results fn tmps).run Tryz.prog w=.ok (.bool b) w:=by
 have a:tmps[p]?.getD undef=.pointer (qc ⟨g,0,qa⟩):=by simpa using hp
 have c:=hg.cell 0;have d:=hg.lt;simp only[k04] at c;simp [results,h,a,asAddr];go_simp
set_option maxHeartbeats 16000000 in
theorem qeH(w:qh)(hg0:Bg w)(ht0:q2B w)(E F:Int)(mode:Nat)(sep s:ByteArray)(most:Int)(hsp:sep.size<=140737488351232)(hsz:s.size<=20000):Calls Tryz.prog 5 #[fm E F,.int .u8 (mode:Int),.string sep,.string s,.int .i64 most] w fun e w'=>e=.returned (.bool true)/\qf w.heap.size w w':=by
 obtain⟨w1,f4⟩:=yx (((w.alloc (.cells #[.int .i64 E,.int .i64 F] 23)).alloc (.cells #[.int .i64 most] 3)).alloc (.cells #[.bool false] 4));have c6:Ctx w [(w.heap.size+1+1,4,[.bool false]),(w.heap.size+1,3,[.int .i64 most]),(w.heap.size,23,[.int .i64 E,.int .i64 F])] w1:=by rw[f4];exact(((Ctx.nil w).new _ _ rfl).new _ _ (by simp)).new _ _ (by simp)
 have g4:(w.alloc (.cells #[.int .i64 E,.int .i64 F] 23)).heap.size=w.heap.size+1:=by simp
 have f0:=(c6.get 2 rfl).cell 0;have f1:=(c6.get 2 rfl).cell 1;have fl:=(c6.get 2 rfl).lt;simp only[k04,k08] at f0 f1;have HG:=vv fun W (h:qf w.heap.size w W)=>And.intro (hg0.below h) (ht0.below h)
 have g8:=vv fun W (h:qf w.heap.size w W)=>Dst.Items E F mode sep s W (hg0.below h) (by omega) hsp
 have f5:=vv c6;have i6:=vv f4;have e9:=vv (And.intro hsp hsz);obtain⟨p,f2⟩:=yx (q1n E F mode sep s);have g9:Hid (p.length<=20001):=vv (by rw[f2];have:=q5L E F mode sep s;omega);rw[<- f2] at g8;have i0:=vv f2;clear f4 c6 hg0 ht0 hsp hsz f2;refine(callsIn_wide (n:=0)).1 (callsIn_of_wp_marks func5 rfl trivial ?_ rfl);simp only[ntmps5,k1K,k0U,k15,Nat.reduceAdd,Nat.reduceSub,k2E,k2D,List.push_toArray,k2J,k1Q,k1Y];refine wpIn_wide.2 ?_;go_wp2_with fail;rw[<- i6.o];clear g4;go_wp2_with fail;refine(g8.o _ f5.o.low).mono ?_;rintro e w2 ⟨vw,rfl,i1,d⟩;have i7:=vv (f5.o.step d);have e5:=vv i1;clear d i1 f0 f1 fl;obtain⟨bw,f6⟩:=yx (w2.heap.size);obtain⟨w3,f3⟩:=yx (w2.alloc (.cells #[vw] 26));have i2:qf w2.heap.size w2 w3:=by rw[f3];exact(qb _ _).alloc lr _
 have c7:Ctx w [(bw,26,[vw]),(w.heap.size+1+1,4,[.bool false]),(w.heap.size+1,3,[.int .i64 most]),(w.heap.size,23,[.int .i64 E,.int .i64 F])] w3:=by rw[f3];exact i7.o.new _ _ f6
 have i8:=vv c7;have g5:=vv (q2U (q1j e5.o i2) f5.o.low.size);have i9:=vv f3;have j0:w2.heap.size=bw:=f6.symm;have f0:=(c7.get 3 rfl).cell 0;have f1:=(c7.get 3 rfl).cell 1;have fl:=(c7.get 3 rfl).lt;simp only[k04,k08] at f0 f1;obtain⟨Aw,cw,j1⟩:=q3o e5.o;subst j1;clear f3 c7 i2 f6;go_wp2_with (first|rw[<- i9.o]|fail);refine(Items E F mode sep s w3).mono ?_;rintro e a ⟨ca,cb,cc,cd,rfl,e6,f7,-⟩;have G:=vv (i8.o.step f7);have b5:=vv (q1j g5.o f7);have a8:=vv e6;have j9:=qc9 (.func 16) #[] #[.pointer (qc ⟨ca,0,qa⟩),.pointer (qc ⟨cb,0,qa⟩),.pointer (qc ⟨cc,0,qa⟩),.pointer (qc ⟨cd,0,qa⟩)] a;clear e6 f7 f0 f1 fl j0;go_wp2_with fail;refine wp_loop_rounds 3 ?_;rw[rounds_succ];obtain⟨y0,c8⟩:=yx (a.alloc (.cells #[.int .i64 0] 3));have J:qf a.heap.size a y0:=by rw[c8];exact(qb _ _).alloc lr _
 have s0:y0.heap.size=a.heap.size+1:=by rw[c8];simp
 have f8:Hid (q3T a [] y0):=vv ⟨J,by rw[c8];exact Blk.made a _ [.int .i64 0]⟩;have c9:=q7B w (HG.o w (qb _ _)).1 (HG.o w (qb _ _)).2 ca cb cc cd mode E F sep s (by have:=e9.o.2;omega) e9.o.1 y0 (G.o.low.trans (J.mono G.o.low.size)) (a8.o.below J);have e7:=vv c9;have j2:=vv c8;have c4:=vv s0;have k4:=vv J;rw[<- i0.o] at e7;have U:=(G.o.get 2 rfl).cell 0;have al:=(G.o.get 2 rfl).lt;simp only[k04] at U;clear c9 c8 s0 J;go_wp2_with fail;rw[<- j2.o];clear U al;refine(wpIn_wide (n:=0)).1 ?_;refine qeZ (fun D W=>y0.heap.size<=D/\W.heap[D]?=qc (.deferred (qc []))/\∃N:Nat,qf a.heap.size a W/\Blk W a.heap.size 3 [.int .i64 (N:Int)]/\((most<1/\N=p.length)\/(1<=most/\(N:Int)=min most (p.length:Int)))) ?_ (fun hend=>?_);rotate_left;refine q1r (gf:=16) (lb:=#[.pointer (qc ⟨ca,0,qa⟩),.pointer (qc ⟨cb,0,qa⟩),.pointer (qc ⟨cc,0,qa⟩),.pointer (qc ⟨cd,0,qa⟩)]) rfl (enters_of func16 (by kernel_rfl) rfl) e7.o
  (fun h k=>h.trans k) (fun W l o o' hl h ho=>Kb.put o' h ho (by have:=c4.o;have:=G.o.low.size;omega)) (fun X Y k o h hk ho _=>h.non hk ho)
  (fun xs W l o o' h hl hk ho=>h) (fun _=>rfl)
  (fun pre W=>q3T a pre W/\OnP most pre) (fun c pre W=>q3T a pre W/\qee most p c 2 pre)
  (q2X (by have:=c4.o;omega) _) (q29 (by have:=c4.o;omega) _) (fun c=>q2X (by have:=c4.o;omega) _) (fun c=>q29 (by have:=c4.o;omega) _) ⟨f8.o,q90 most⟩ ?_ ?_ ?_
 ·
  intro l pre x f i b7
  skip
  dsimp only;obtain⟨z0,z1,z2,R⟩:=q2k E F mode x.1 x.2;obtain⟨z3,d0⟩:∃y:Int,y=(x.2:Int):=⟨_,rfl⟩;obtain⟨z4,d3⟩:∃y:Int,y=(x.1.length:Int):=⟨_,rfl⟩;rw[<- d0,<- d3] at R;rw[R];obtain⟨S,d4⟩:=q77 b7;obtain⟨q,cap,e1,-,d5,c1,hq⟩:=q3p b5.o (by omega);obtain⟨e2,-,e3⟩:=q5R e1;clear e1;subst e2 e3;have r1:=hq pre.length S;rw[d4,R] at r1;have b8:=vv (And.intro r1 d5);have HI:=vv i;have d6:=vv (And.intro b7 S);have hz:Blk (f.alloc (.cells #[.int .u64 0,.int .u8 0,.int .i64 0,.int .i64 0,.int .i64 0] 34)) f.heap.size 34 [.int .u64 0,.int .u8 0,.int .i64 0,.int .i64 0,.int .i64 0]:=Blk.made f _ [.int .u64 0,.int .u8 0,.int .i64 0,.int .i64 0,.int .i64 0];have c2:[Value.int .u64 z0,.int .u8 z1,.int .i64 z2,.int .i64 z3,.int .i64 z4].all (·.oneCell')=true:=rfl;clear d0 d3 R d4 hq r1 i b7 S c1 d5
  gi_wp2_with (with_reducible refine q0D rfl 34 (.tmp 15) (.tmp 33) rfl f.heap.size [.int .u64 z0,.int .u8 z1,.int .i64 z2,.int .i64 z3,.int .i64 z4] rfl rfl 34 _ hz (by kernel_rfl) rfl c2 ?_)
  intro A2 d7 d8;have d9:qf f.heap.size f A2:=((qb _ f).alloc lr _).grown d8 (by simp) (fun k e=>by cases e;exact lr);have f9:=vv d7;have a7:=vv d9;clear d7 d8 d9 hz
  gi_wp2
  refine⟨q1l a7.o,q2r (k07 G.o.low.size HI.o.1.1.size) a7.o,q29 lr _ pre f A2 HI.o (Kz.kw (Kw.below (g:=a.heap.size) a7.o) lr),?_⟩;intro B g0 a5
  skip
  obtain⟨⟨t,H⟩,e0⟩:=g0;have m:=a5.blk f9.o;have I:=G.o.step t;have J:=m.cell 0;have K:=m.cell 1;have b2:=m.cell 2;have b3:=m.cell 3;have b4:=m.cell 4;have bl:=m.lt;have V:=H.cell 0;have nf:=H.fz 0;have nl:=H.lt;have L:=(I.get 0 rfl).cell 0;have vl:=(I.get 0 rfl).lt;have Z:=(I.get 2 rfl).cell 0;have ml:=(I.get 2 rfl).lt;simp only[k04,k08] at J K b2 b3 b4 V L Z;have u:=q1t t b8.o.2 b8.o.1;have U:B.cell? ⟨q,pre.length*5,qa⟩=qc (.int .u64 z0):=u 0 _ rfl;have a1:B.cell? ⟨q,pre.length*5+1,qa⟩=qc (.int .u8 z1):=u 1 _ rfl;have a2:B.cell? ⟨q,pre.length*5+2,qa⟩=qc (.int .i64 z2):=u 2 _ rfl;have a3:B.cell? ⟨q,pre.length*5+3,qa⟩=qc (.int .i64 z3):=u 3 _ rfl;have a4:B.cell? ⟨q,pre.length*5+4,qa⟩=qc (.int .i64 z4):=u 4 _ rfl;have al:q<B.heap.size:=k03 b8.o.2 t.size;have S:=d6.o.2;have d1:qd (p.length<=pre.length)=false:=k00 (by omega);have d2:qd ((p.length:Int)<=(pre.length:Int))=false:=k00 (by omega);have b9:Hid (qf a.heap.size a B/\q3T a pre B/\OnP most pre):=vv ⟨t,⟨t,H⟩,e0⟩;clear t H e0 I u m a5
  gi_wp2_with fail
  refine q0V (by kernel_rfl) (by kernel_rfl) (by kernel_rfl) ?_
  repeat (go_big_quiet_step (fail))
  refine wpQuiet_nil ?_;intro _ g1;obtain⟨r,c3⟩:=g1;subst c3;clear U a1 a2 a3 a4 al J K b2 b3 b4 bl L vl d1 d2;have g2:a.heap.size≠w.heap.size+1:=by have:=(G.o.get 2 rfl).lt;omega
  have j3:(pre.length:Int)<=20001:=by have:=g9.o;omega
  have j4:=g2.symm;by_cases hm:(pre.length:Int)+1=most
  ·have g3:1<=most:=by omega
   have M:=vv (And.intro hm g3)
   gi_wp2
   obtain⟨O,k2,k3⟩:=q3B (x:=x) r (v:=most) (base:=w.heap.size) b9.o.2.1 G.o.low.size (by have:=M.o.1;omega);have P:KeepsFrom y0.heap.size B ((B.drewN r).setCell ⟨a.heap.size,0,qa⟩ (.int .i64 most))/\q3T a (pre++[x]) ((B.drewN r).setCell ⟨a.heap.size,0,qa⟩ (.int .i64 most))/\qee most p (.exit 2) 2 (pre++[x]):=⟨O _,k3,rfl,by rw[k0n];have:=M.o.1;simpa using this,M.o.2,d6.o.1⟩;exact P
  ·have M:=vv hm
   gi_wp2
   obtain⟨O,k2,k3⟩:=q3B (x:=x) r (v:=(pre.length:Int)+1) (base:=w.heap.size) b9.o.2.1 G.o.low.size rfl;have P:KeepsFrom y0.heap.size B ((B.drewN r).setCell ⟨a.heap.size,0,qa⟩ (.int .i64 ((pre.length:Int)+1)))/\Kb w.heap.size B ((B.drewN r).setCell ⟨a.heap.size,0,qa⟩ (.int .i64 ((pre.length:Int)+1)))/\q3T a (pre++[x]) ((B.drewN r).setCell ⟨a.heap.size,0,qa⟩ (.int .i64 ((pre.length:Int)+1)))/\OnP most (pre++[x]):=⟨O _,k2,k3,q7c b9.o.2.2 M.o⟩;exact P
 ·
  intro D xs W z hS i C;obtain rfl:xs=p:=hS;exact hend D W ⟨z,C,xs.length,i.1.1,i.1.2,by have:=i.2;unfold OnP at this;omega⟩
 ·intro D c pre W z hp i C;obtain⟨⟨d,Q⟩,rfl,h1,h2,h3⟩:=i;refine Go.wpIn_exit ?_;exact hend D W ⟨z,C,pre.length,d,Q,by have:=h3.length_le;omega⟩
 intro D0 b P;obtain⟨z,C,N,d,Q,a6⟩:=P;have j:=vv (G.o.step d);have b6:=vv (q1j b5.o d);have a9:=vv (a8.o.below d);have c5:=vv C;have j5:=vv z;have V:=Q.cell 0;have nl:=Q.lt;have L:=(j.o.get 0 rfl).cell 0;have vl:=(j.o.get 0 rfl).lt;have Z:=(j.o.get 2 rfl).cell 0;have ml:=(j.o.get 2 rfl).lt;simp only[k04,k08] at V L Z;have j6:=vv a6;clear z C d Q;rcases a6 with ⟨h1,h2⟩|⟨h1,h2⟩;have d1:qd (1<=most)=false:=k00 (by omega);have d2:qd (most<1)=true:=k02 (by omega);clear h1;rotate_left;have d1:qd (1<=most)=true:=k02 (by omega);have d2:qd (most<1)=false:=k00 (by omega);clear h1;rotate_left;all_goals
  go_wp2;clear d1 d2 h2 V nl L vl Z ml;rw[rounds_succ];obtain⟨y1,e4⟩:=yx (b.alloc (.cells #[.int .i64 0] 3));have K:qf b.heap.size b y1:=by rw[e4];exact(qb _ _).alloc lr _
  have s1:y1.heap.size=b.heap.size+1:=by rw[e4];simp
  have f8:Hid (q3T b [] y1):=vv ⟨K,by rw[e4];exact Blk.made b _ [.int .i64 0]⟩;have c9:=q7B w (HG.o w (qb _ _)).1 (HG.o w (qb _ _)).2 ca cb cc cd mode E F sep s (by have:=e9.o.2;omega) e9.o.1 y1 (j.o.low.trans (K.mono j.o.low.size)) (a9.o.below K);have e8:=vv c9;have j7:=vv e4;have c0:=vv s1;have k5:=vv K;rw[<- i0.o] at e8;have U:=(j.o.get 2 rfl).cell 0;have al:=(j.o.get 2 rfl).lt;simp only[k04] at U;clear c9 e4 s1 K;go_wp2_with fail;rw[<- j7.o];clear U al;refine(wpIn_wide (n:=0)).1 ?_;refine qeZ (fun D W=>y1.heap.size<=D/\W.heap[D]?=qc (.deferred (qc []))/\∃N:Nat,qf b.heap.size b W/\Blk W b.heap.size 3 [.int .i64 (N:Int)]/\((most<1/\N=p.length)\/(1<=most/\(N:Int)=min most (p.length:Int)))) ?_ (fun hend=>?_);rotate_left;refine q1r (gf:=16) (lb:=#[.pointer (qc ⟨ca,0,qa⟩),.pointer (qc ⟨cb,0,qa⟩),.pointer (qc ⟨cc,0,qa⟩),.pointer (qc ⟨cd,0,qa⟩)]) rfl (enters_of func16 (by kernel_rfl) rfl) e8.o
   (fun h k=>h.trans k) (fun W l o o' hl h ho=>Kb.put o' h ho (by have:=c0.o;have:=j.o.low.size;omega)) (fun X Y k o h hk ho _=>h.non hk ho)
   (fun xs W l o o' h hl hk ho=>h) (fun _=>rfl)
   (fun pre W=>q3T b pre W/\OnP most pre) (fun c pre W=>q3T b pre W/\qee most p c 2 pre)
   (q2X (by have:=c0.o;omega) _) (q29 (by have:=c0.o;omega) _) (fun c=>q2X (by have:=c0.o;omega) _) (fun c=>q29 (by have:=c0.o;omega) _) ⟨f8.o,q90 most⟩ ?_ ?_ ?_
  ·
   intro l pre x f i b7
   skip
   dsimp only;obtain⟨z0,z1,z2,R⟩:=q2k E F mode x.1 x.2;obtain⟨z3,d0⟩:∃y:Int,y=(x.2:Int):=⟨_,rfl⟩;obtain⟨z4,d3⟩:∃y:Int,y=(x.1.length:Int):=⟨_,rfl⟩;rw[<- d0,<- d3] at R;rw[R];obtain⟨S,d4⟩:=q77 b7;obtain⟨q,cap,e1,-,d5,c1,hq⟩:=q3p b6.o (by omega);obtain⟨e2,-,e3⟩:=q5R e1;clear e1;subst e2 e3;have r1:=hq pre.length S;rw[d4,R] at r1;have b8:=vv (And.intro r1 d5);have HI:=vv i;have d6:=vv (And.intro b7 S);have hz:Blk (f.alloc (.cells #[.int .u64 0,.int .u8 0,.int .i64 0,.int .i64 0,.int .i64 0] 34)) f.heap.size 34 [.int .u64 0,.int .u8 0,.int .i64 0,.int .i64 0,.int .i64 0]:=Blk.made f _ [.int .u64 0,.int .u8 0,.int .i64 0,.int .i64 0,.int .i64 0];have c2:[Value.int .u64 z0,.int .u8 z1,.int .i64 z2,.int .i64 z3,.int .i64 z4].all (·.oneCell')=true:=rfl;clear d0 d3 R d4 hq r1 i b7 S c1 d5
   gi_wp2_with (with_reducible refine q0D rfl 34 (.tmp 15) (.tmp 33) rfl f.heap.size [.int .u64 z0,.int .u8 z1,.int .i64 z2,.int .i64 z3,.int .i64 z4] rfl rfl 34 _ hz (by kernel_rfl) rfl c2 ?_)
   intro A2 d7 d8;have d9:qf f.heap.size f A2:=((qb _ f).alloc lr _).grown d8 (by simp) (fun k e=>by cases e;exact lr);have f9:=vv d7;have a7:=vv d9;clear d7 d8 d9 hz
   gi_wp2
   refine⟨q1l a7.o,q2r (k07 j.o.low.size HI.o.1.1.size) a7.o,q29 lr _ pre f A2 HI.o (Kz.kw (Kw.below (g:=b.heap.size) a7.o) lr),?_⟩;intro B g0 a5
   skip
   obtain⟨⟨t,H⟩,e0⟩:=g0;have m:=a5.blk f9.o;have I:=j.o.step t;have J:=m.cell 0;have K:=m.cell 1;have b2:=m.cell 2;have b3:=m.cell 3;have b4:=m.cell 4;have bl:=m.lt;have V:=H.cell 0;have nf:=H.fz 0;have nl:=H.lt;have L:=(I.get 0 rfl).cell 0;have vl:=(I.get 0 rfl).lt;have Z:=(I.get 2 rfl).cell 0;have ml:=(I.get 2 rfl).lt;simp only[k04,k08] at J K b2 b3 b4 V L Z;have u:=q1t t b8.o.2 b8.o.1;have U:B.cell? ⟨q,pre.length*5,qa⟩=qc (.int .u64 z0):=u 0 _ rfl;have a1:B.cell? ⟨q,pre.length*5+1,qa⟩=qc (.int .u8 z1):=u 1 _ rfl;have a2:B.cell? ⟨q,pre.length*5+2,qa⟩=qc (.int .i64 z2):=u 2 _ rfl;have a3:B.cell? ⟨q,pre.length*5+3,qa⟩=qc (.int .i64 z3):=u 3 _ rfl;have a4:B.cell? ⟨q,pre.length*5+4,qa⟩=qc (.int .i64 z4):=u 4 _ rfl;have al:q<B.heap.size:=k03 b8.o.2 t.size;have S:=d6.o.2;have d1:qd (p.length<=pre.length)=false:=k00 (by omega);have d2:qd ((p.length:Int)<=(pre.length:Int))=false:=k00 (by omega);have b9:Hid (qf b.heap.size b B/\q3T b pre B/\OnP most pre):=vv ⟨t,⟨t,H⟩,e0⟩;clear t H e0 I u m a5
   gi_wp2_with fail
   refine q0V (by kernel_rfl) (by kernel_rfl) (by kernel_rfl) ?_
   repeat (go_big_quiet_step (fail))
   refine wpQuiet_nil ?_;intro _ g1;obtain⟨r,c3⟩:=g1;subst c3;clear U a1 a2 a3 a4 al J K b2 b3 b4 bl L vl d1 d2;have g2:b.heap.size≠w.heap.size+1:=by have:=(j.o.get 2 rfl).lt;omega
   have j3:(pre.length:Int)<=20001:=by have:=g9.o;omega
   have j4:=g2.symm;by_cases hm:(pre.length:Int)+1=most
   ·have g3:1<=most:=by omega
    have M:=vv (And.intro hm g3)
    gi_wp2
    obtain⟨O,k2,k3⟩:=q3B (x:=x) r (v:=most) (base:=w.heap.size) b9.o.2.1 j.o.low.size (by have:=M.o.1;omega);have P:KeepsFrom y1.heap.size B ((B.drewN r).setCell ⟨b.heap.size,0,qa⟩ (.int .i64 most))/\q3T b (pre++[x]) ((B.drewN r).setCell ⟨b.heap.size,0,qa⟩ (.int .i64 most))/\qee most p (.exit 2) 2 (pre++[x]):=⟨O _,k3,rfl,by rw[k0n];have:=M.o.1;simpa using this,M.o.2,d6.o.1⟩;exact P
   ·have M:=vv hm
    gi_wp2
    obtain⟨O,k2,k3⟩:=q3B (x:=x) r (v:=(pre.length:Int)+1) (base:=w.heap.size) b9.o.2.1 j.o.low.size rfl;have P:KeepsFrom y1.heap.size B ((B.drewN r).setCell ⟨b.heap.size,0,qa⟩ (.int .i64 ((pre.length:Int)+1)))/\Kb w.heap.size B ((B.drewN r).setCell ⟨b.heap.size,0,qa⟩ (.int .i64 ((pre.length:Int)+1)))/\q3T b (pre++[x]) ((B.drewN r).setCell ⟨b.heap.size,0,qa⟩ (.int .i64 ((pre.length:Int)+1)))/\OnP most (pre++[x]):=⟨O _,k2,k3,q7c b9.o.2.2 M.o⟩;exact P
  ·
   intro D xs W z hS i C;obtain rfl:xs=p:=hS;exact hend D W ⟨z,C,xs.length,i.1.1,i.1.2,by have:=i.2;unfold OnP at this;omega⟩
  ·intro D c pre W z hp i C;obtain⟨⟨d,Q⟩,rfl,h1,h2,h3⟩:=i;refine Go.wpIn_exit ?_;exact hend D W ⟨z,C,pre.length,d,Q,by have:=h3.length_le;omega⟩
  intro D1 W1 P;obtain⟨z,C,N,d,Q,a6⟩:=P;have T:=vv (j.o.step d);have i5:=vv (q1j b6.o d);have g7:=vv (a9.o.below d);have i3:=vv C;have i4:=vv z;have g6:=c5;have c5:=vv ((d.block D0 (k0a.1 c5.o).1).trans c5.o);have V:=Q.cell 0;have nl:=Q.lt;have L:=(T.o.get 0 rfl).cell 0;have vl:=(T.o.get 0 rfl).lt;have Z:=(T.o.get 2 rfl).cell 0;have ml:=(T.o.get 2 rfl).lt;simp only[k04,k08] at V L Z;have j6:=vv a6;clear z C d Q;rcases a6 with ⟨h1,h2⟩|⟨h1,h2⟩;have d1:qd (1<=most)=false:=k00 (by omega);have d2:qd (most<1)=true:=k02 (by omega);clear h1;rotate_left;have d1:qd (1<=most)=true:=k02 (by omega);have d2:qd (most<1)=false:=k00 (by omega);clear h1;rotate_left;all_goals
   go_wp2;clear d1 d2 h2 V nl L vl Z ml;rw[rounds_succ];have r0:=(T.o.get 1 rfl).cell 0;have rf:=(T.o.get 1 rfl).fz 0;have rl:=(T.o.get 1 rfl).lt;simp only[k04,k08] at r0;have rB:=T.o.get 1 rfl;go_wp2;have rS:=rB.set 0 (.bool true);simp only[k2y] at rS;have O:(W1.setCell ⟨w.heap.size+1+1,0,qa⟩ (.bool true)).heap[D1]?=qc (.deferred (qc [])):=(qe _ _ _ D1 (fun e=>q7d rB i3.o e)).trans i3.o;have k0:(W1.setCell ⟨w.heap.size+1+1,0,qa⟩ (.bool true)).heap[D0]?=qc (.deferred (qc [])):=(qe _ _ _ D0 (fun e=>q7d rB c5.o e)).trans c5.o;have j8:D0≠D1:=by have h1:=(k0a.1 g6.o).1;have h2:=i4.o;have h3:=c0.o;omega
   refine⟨by simp,.inl ⟨_,_,rfl,qi O,?_⟩⟩;have k2:=(qg (w:=(W1.setCell ⟨w.heap.size+1+1,0,qa⟩ (.bool true))) (o:=.deferred qa) j8).trans k0;refine⟨by simp,.inl ⟨_,_,rfl,qi k2,?_⟩⟩;refine⟨_,q1a rfl _ _ (w.heap.size+1+1) true rfl ?_,rfl,?_⟩
   ·exact q6N (q6N rS O) k2
   ·have z1:=i4.o;have z0:=j5.o;have z2:=c0.o;have z3:=c4.o;have z4:=G.o.low.size;have z5:=j.o.low.size;exact((T.o.low.setCell (by show w.heap.size<=w.heap.size+1+1;omega) _).trans (q1Z _ O (by omega))).trans (q1Z _ k2 (by omega))
end Str
end Go.Proofs.YtokgagenofjmgaaGreatDoor
