/- Lemmas. -/
import Derived.Test.YtokgagenofjmgaaGreatDoorPartBT
import Derived.RangeFuncBound
set_option linter.all false
set_option maxHeartbeats 8000000
set_option maxRecDepth 100000
open Go.Proofs.Tryz
open Option renaming none->qa,some->qe
open Go renaming World->qb,RowKit.Below.refl->qf,run_takeDeferred->qi,Calls->qk,World.ownsRow_nil->ql,results_none->qn,Value->qo,callsIn_wide->qp,callsIn_of_wp_marks->qq,World.grownBy.refl->qr,bodyPost_ret->qs,wpList_append_own->qt,World.size_alloc->qu
open Go.Proofs.Tryz renaming prog->qc
open Decidable renaming decide->qd
open Go.RowKit renaming Below->qg,Hid->qm
open Bool renaming false->qh,true->qj
namespace Go.Proofs.YtokgagenofjmgaaGreatDoor
variable{w w':qb}{g mode a b c n Y l i:Nat}{E F:Int}{seps:ByteArray}{v:qo}{bs:List Nat}
namespace Str
open Go Go.RowKit R5 Scn Hx Rdx
theorem run(g:Nat)(s:ByteArray)(w:qb):qk qc 17 #[.pointer (qe ⟨g,0,qa⟩),.string s] w fun e w' =>
  e=.returned (.func (.func 26) #[] #[.pointer (qe ⟨w.heap.size+1,0,qa⟩),.pointer (qe ⟨w.heap.size,0,qa⟩)]) /\w'=(w.alloc (.cells #[.pointer (qe ⟨g,0,qa⟩)] 35)).alloc (.cells #[.string s] 9):=by
 go_enter func17,ntmps17;go_wp2;go_ret;exact⟨rfl,rfl⟩
theorem q8K(w00:qb)(hg0:Bg w00)(ht0:q2B w00)(g S R mode a0:Nat)(E F:Int)(seps s:ByteArray)(tk0:Option Tk)
  (hsz:s.size<=140737488351232) (ha:a0+s.size<=140737488351232) (hge:w00.heap.size<=g) (w:qb) (hw:qg w00.heap.size w00 w)
  (hS:Blk w S 9 [.string s]) (hR:Blk w R 35 [.pointer (qe ⟨g,0,qa⟩)]) (hr:Rdr w g E F mode seps a0 tk0) :
  qe2 qc 26 #[.pointer (qe ⟨S,0,qa⟩),.pointer (qe ⟨R,0,qa⟩)] (fun t:Tk=>#[.agg (q1h E F mode t.1 t.2).toArray]) (fun _=>Kw g) (Kb w00.heap.size)
   (fun xs=>xs <+: (q1e seps a0 tk0 (q0h s)).2) (fun xs=>xs <+: (q1e seps a0 tk0 (q0h s)).2)
   (fun xs B=>xs=(q1e seps a0 tk0 (q0h s)).2/\Rdr B g E F mode seps (a0+s.size) (q1e seps a0 tk0 (q0h s)).1/\qg w00.heap.size w00 B) w:=by
 intro l J f W d h _ i j;refine(qfj w00 hg0 ht0 g S R l mode a0 E F seps s tk0 J f hsz ha hge h (fun pre t A hA hp=>(i pre t A hA hp).mono ?_) W (hw.trans (d.mono hw.size)) (hS.below d) (hR.below d) (hr.below d) j).mono ?_
 ·rintro e B (⟨b,a,c,-⟩|⟨b,a,-⟩)
  ·exact .inl ⟨b,a,c⟩
  ·exact .inr ⟨b,a⟩
 ·rintro e B ⟨b,⟨a,c,k⟩|⟨pre,a,c⟩⟩
  ·exact⟨b,.inl ⟨_,⟨rfl,c,k⟩,a⟩⟩
  ·exact⟨b,.inr ⟨pre,a,c⟩⟩
def q8k(w:qb)(g:Nat)(E F:Int)(mode:Nat)(pre:List Tk)(W:qb):Prop:=
 Kw g w W/\∃v,Blk W w.heap.size 26 [v]/\W.ownsRow w.heap.size 34 5 v pre.length (q0N E F mode pre)
theorem q9C{B:Nat}(hB:w.heap.size<=B):OwnFrom B (q8k w g E F mode):=by
 rintro pre A C row ⟨b,v,f,h⟩ a i;have d:∀(k:Nat) (j:Array qo) (t:TypeId),A.heap[k]?=qe (.cells j t (0,0))->row≠qe k:=by rintro k j t c rfl;obtain⟨-,o,l,m⟩:=i k rfl;rw[c] at l;cases l;cases m
 refine⟨⟨a.os.trans b.os,a.tape.trans b.tape,a.output.trans b.output,k07 b.size a.size,fun k c=>?_⟩,v,f.grown a (d _ _ _ f),h.kept a ?_⟩
 ·rw[a.block k (k03 c b.size) (fun e=>by have:=(i k e.symm).1;omega)];exact b.block k c
 ·rcases h.2 with ⟨rfl,-⟩|⟨q,cap,p,rfl,-,n,-⟩
  ·exact .inl rfl
  ·exact .inr (fun e=>d _ _ _ n e.symm)
theorem q7q(pre:List Tk)(A C:qb)(h:q8k w g E F mode pre A)(hk:Kw g A C):q8k w g E F mode pre C:=by obtain⟨a,v,b,c⟩:=h;exact⟨a.trans hk,v,hk.blk b (by unfold RT;decide),hk.row c (by unfold RT;decide)⟩
attribute [local go_sem] Oper.semAt_some q3x q1P q1O
theorem qfa(w00:qb)(hg0:Bg w00)(ht0:q2B w00)(g mode a0:Nat)(E F:Int)(seps s:ByteArray)(tk0:Option Tk)
  (hsz:s.size<=1099511627776) (ha:a0+s.size<=140737488351232) (hge:w00.heap.size<=g) (w:qb) (hw:qg w00.heap.size w00 w) (hr:Rdr w g E F mode seps a0 tk0) :
  qk qc 10 #[.pointer (qe ⟨g,0,qa⟩),.string s] w fun e w'=>∃v,e=.returned (.tuple #[v,.int .i64 0]) /\w'.ownsRow w.heap.size 34 5 v (q1e seps a0 tk0 (q0h s)).2.length (q0N E F mode (q1e seps a0 tk0 (q0h s)).2) /\Rdr w' g E F mode seps (a0+s.size) (q1e seps a0 tk0 (q0h s)).1/\Kw g w w':=by
 obtain⟨i0,hi,c3,c4,c5⟩:=info_parts q6C;obtain⟨T,a4,a7⟩:=hr.blk;have HT:=vv (qan g E F mode seps a0 T qh w a4);clear a4 a7 T;obtain⟨a,m⟩:=yx (w.alloc (.cells #[.slice qa 0 0] 26));obtain⟨d,i⟩:=yx ((a.alloc (.cells #[.pointer (qe ⟨g,0,qa⟩)] 35)).alloc (.cells #[.string s] 9));have p:a.heap.size=w.heap.size+1:=by rw[m];simp
 have b3:d.heap.size=w.heap.size+3:=by rw[i];simp [p]
 have O:qg a.heap.size a d:=by rw[i];exact((qf _ a).alloc lr _).alloc (by simp) _
 have C:qg w.heap.size w d:=((qf _ w).alloc lr _:qg w.heap.size w (w.alloc (.cells #[.slice qa 0 0] 26))).trans (by rw[<- m];exact O.mono (by omega));have b:Blk d w.heap.size 26 [.slice qa 0 0]:=(show Blk a w.heap.size _ _ by rw[m];exact Blk.made w _ [.slice qa 0 0]).below O;have u:Blk d (w.heap.size+1) 35 [.pointer (qe ⟨g,0,qa⟩)]:=by rw[i,<- p];exact(Blk.made a _ [.pointer (qe ⟨g,0,qa⟩)]).alloc _
 have H:Blk d (w.heap.size+1+1) 9 [.string s]:=by have e:=Blk.made (a.alloc (.cells #[.pointer (qe ⟨g,0,qa⟩)] 35)) 9 [.string s];rw[qu,p] at e;rw[i];exact e
 have P:=q8K w00 hg0 ht0 g (w.heap.size+1+1) (w.heap.size+1) mode a0 E F seps s tk0 (by omega) ha hge d (hw.trans (C.mono hw.size)) H u (hr.below C);have c6:qm (q8k w g E F mode [] d):=vv ⟨Kw.below C,_,b,ql _ _ _ _⟩;have a5:=vv (run g s a);rw[<- i] at a5;obtain⟨X,U⟩:=yx (q1e seps a0 tk0 (q0h s));have b4:X.2.length<=1099511627776:=by rw[U];exact k07 (q75 _ _ _ _) (by rw[q1q];exact hsz)
 rw[<- U] at P ⊢;have a8:=vv P;have y:=vv (And.intro p b3);have c7:=vv m;have G:=vv (And.intro hw.size hge);have HX:=vv b4;clear U b4 P m i p b3 O C b u H hr ha hsz hg0 ht0 hw hge;refine(qp (n:=0)).1 ?_;refine qq func10 rfl trivial ?_ rfl;simp only[ntmps10,k1K,k0U,k15,Nat.reduceAdd,Nat.reduceSub,k2E,k2D,List.push_toArray,k2J,k1Q,k1Y]
 gi_wp2_with fail
 refine(qp.2 HT.o).mono ?_;rintro e w' ⟨rfl,rfl⟩
 gi_wp2_with fail
 rw[<- c7.o];refine(qp.2 a5.o).mono ?_;rintro e w' ⟨rfl,rfl⟩
 gi_wp2_with fail
 rw[y.o.1];refine q1r (gf:=26) (lb:=#[.pointer (qe ⟨w.heap.size+1+1,0,qa⟩),.pointer (qe ⟨w.heap.size+1,0,qa⟩)]) rfl (enters_of func26 (by kernel_rfl) rfl) a8.o
  (fun h k=>h.trans k) (fun W l o o' hl h ho=>Kb.put o' h ho (by have:=y.o.2;have:=G.o.1;omega)) (fun A B k o h _ hk ho=>h.non hk ho)
  (fun xs W l o o' h hl hk ho=>⟨h.1,h.2.1.put o' hk ho,h.2.2.trans (q1Z o' hk (by have:=y.o.2;have:=G.o.1;omega))⟩) (fun _=>rfl)
  (q8k w g E F mode) (fun _ _ _=>False) (q9C (by have:=y.o.2;omega)) q7q (fun c s A B row h=>h.elim) (fun c s A B h=>h.elim) c6.o ?_ ?_ ?_
 ·
  intro l pre x A V b5;obtain⟨I,J,K,L,M,b6,Q⟩:=q1R E F mode x.1 x.2;dsimp only;rw[b6];obtain⟨f,v,b,q⟩:=V;have a6:pre.length+1<=1099511627776:=by
   have:=b5.length_le;rw[k0n] at this;have:=HX.o;simp at *
   omega
  have hz:Blk (A.alloc (.cells #[.int .u64 0,.int .u8 0,.int .i64 0,.int .i64 0,.int .i64 0] 34)) A.heap.size 34 [.int .u64 0,.int .u8 0,.int .i64 0,.int .i64 0,.int .i64 0]:=Blk.made A _ [.int .u64 0,.int .u8 0,.int .i64 0,.int .i64 0,.int .i64 0];have a9:[I,J,K,L,M].all (·.oneCell')=qj:=k1C.2 Q;have Y:=vv (And.intro f (And.intro b q));have b0:=vv Q;have b7:=vv a6;clear f b q Q a6 b5
  gi_wp2_with (with_reducible refine q0D rfl 34 (.tmp 8) (.tmp 17) rfl A.heap.size [I,J,K,L,M] rfl rfl 34 _ hz (by kernel_rfl) rfl a9 ?_)
  intro A2 b8 b9;have c0:qg A.heap.size A A2:=((qf _ A).alloc lr _).grown b9 (by simp) (fun k e=>by cases e;exact lr);have c8:=vv b8;have R:=vv c0;clear b8 b9 c0 hz
  gi_wp2
  refine⟨q1l R.o,q2r (k07 G.o.1 Y.o.1.size) R.o,q7q pre A A2 ⟨Y.o.1,v,Y.o.2⟩ (Kw.below R.o),?_⟩;intro B c9 a1;obtain⟨c1,v',r,a2⟩:=c9;have d0:=a1.blk c8.o;have z:=r.cell 0;have f0:=r.fz 0;have sl:=r.lt;simp only[k04] at z;have j:=vv (And.intro c1 (And.intro r a2));clear c1 r a2 a1
  gi_wp2_with (first
   | with_reducible refine q2c rfl 34 (.tmp 8) rfl A.heap.size rfl 34 _ _ d0 underlying34 rfl (by kernel_rfl) ?_
   | (gi_at_builtin;refine wpListIn_append_own _ rfl _ _ 26 rfl w.heap.size 34 i0 (.agg #[.int .u64 0,.int .u8 0,.int .i64 0,.int .i64 0,.int .i64 0]) 5 40 underlying26 hi c3 c4 c5 rfl (by decide) _ pre.length (q0N E F mode pre) rfl (j.o.2.2.alloc _) ⟨B.heap.size,0,qa⟩ 1 1 [I,J,K,L,M] rfl rfl (q3v B [I,J,K,L,M] _) b0.o (by have:=b7.o;unfold maxLen;omega) (by have:=b7.o;omega) (by have:=j.o.1.size;simp;omega) ?_))
  intro v2 B3 S a3 _;obtain⟨N,k2,k3,Z,k5,k6⟩:=qcf (lo:=w.heap.size) j.o.1.size lr j.o.2.1 j.o.2.2 (by decide) S a3;have HE:qm (ownPostG w'.heap.size (Kb w00.heap.size) (q8k w g E F mode) (fun _ _ _=>False) (pre++[x]) B .normal {tmps:=#[],defers:=[]} (B3.setCell ⟨w.heap.size,0,qa⟩ v2)):=vv (by refine⟨Z.from _,⟨k5.mono G.o.1,Z.size,fun k cs t hk ht=>k6 k cs t hk (fun e=>qbz.1 (e ▸ ht)) (fun e=>qbz.2 (e ▸ ht))⟩,j.o.1.far k5,v2,k2,?_⟩;rw[q3a,b6,k0n];exact k3);have z:=N.cell 0;have f0:=N.fz 0;have sl:=N.lt;simp only[k04] at z;obtain⟨q2,d2,rfl⟩:=ownsRow_succ S;clear N k2 k3 Z k5 k6 S a3
  gi_wp2
  exact HE.o
 ·
  intro D xs W hD H V f;obtain⟨rfl,u,b1⟩:=H;obtain⟨c2,v,b,q⟩:=V;have z:=b.cell 0;have sl:=b.lt;simp only[k04] at z;have HR:=vv u;have b2:=vv q;have d1:=vv c2;have HD:=vv hD;clear u b1 c2 b q hD
  gi_wp2
  refine⟨by simp,.inl ⟨_,_,rfl,qi f,?_⟩⟩;refine⟨_,results_tmp2 rfl _ _ _,v,rfl,qcc _ b2.o f rfl,HR.o.put _ f rfl,?_⟩;exact d1.o.far (q1Z _ f (by have:=HD.o;have:=y.o.2;omega))
 ·intro D c pre W hD hp h;exact h.elim
def qbn(w:qb)(g:Nat)(E F:Int)(mode:Nat)(seps:ByteArray)(a:Nat):Prop:=Blk w g 52 (q4E E F mode seps a qa qj qj)
theorem qfb(w00:qb)(hg0:Bg w00)(ht0:q2B w00)(g mode a:Nat)(E F:Int)(seps:ByteArray)(tk:Option Tk)(hge:w00.heap.size<=g)(w:qb)(hw:qg w00.heap.size w00 w)(hr:Rdr w g E F mode seps a tk):qk qc 12 #[.pointer (qe ⟨g,0,qa⟩)] w fun e w'=>∃v,e=.returned (.tuple #[v,.int .i64 0])/\w'.ownsRow w.heap.size 34 5 v tk.toList.length (q0N E F mode tk.toList) /\qbn w' g E F mode seps a/\Kw g w w':=by
 obtain⟨⟨T,c,d⟩,-⟩:=hr
 match tk,d with
 | none,d =>obtain rfl:T=qa:=d;refine(qbp g E F mode seps a w c).mono ?_;rintro e w' ⟨rfl,h,i⟩;exact⟨_,rfl,ql _ _ _ _,h,Kw.grown i lr c (.inl rfl)⟩
 | some (L,f),⟨b,v,h,i,h3,h4,h5,h6⟩ =>
  subst h;refine(qbo w00 hg0 ht0 g b g a f mode E F seps L v w hw hge c h3 h4 h6).mono ?_;rintro e w' ⟨j,rfl,k,l,m⟩;refine⟨j,rfl,?_,l,Kw.grown m lr c (.inl rfl)⟩
  simpa [q0N] using k
structure Caught(w:qb)(a b c d:Nat)(E F:Int)(mode:Nat)(sep s:ByteArray):Prop where
 form:Blk w a 23 [.int .i64 E,.int .i64 F]
 mode:Blk w b 5 [.int .u8 (mode:Int)]
 sep:Blk w c 9 [.string sep]
 body:Blk w d 9 [.string s]
theorem Caught.below{d:Nat}{sep s:ByteArray}(h:Caught w a b c d E F mode sep s)(hb:qg w.heap.size w w'):Caught w' a b c d E F mode sep s:=⟨h.form.below hb,h.mode.below hb,h.sep.below hb,h.body.below hb⟩
def q1n(E F:Int)(mode:Nat)(sep s:ByteArray):List Tk:=if q0Z E F mode sep=0 then q9W (q1Y++sep) 0 qa (q0h s) else[]
theorem Items(E F:Int)(mode:Nat)(sep s:ByteArray)(w:qb):qk qc 7 #[fm E F,.int .u8 (mode:Int),.string sep,.string s] w fun e w' =>
  ∃a b c d,e=.returned (.func (.func 16) #[] #[.pointer (qe ⟨a,0,qa⟩),.pointer (qe ⟨b,0,qa⟩),.pointer (qe ⟨c,0,qa⟩),.pointer (qe ⟨d,0,qa⟩)])/\Caught w' a b c d E F mode sep s/\qg w.heap.size w w'/\w.heap.size<=a:=by
 obtain⟨f,i⟩:=yx (w.alloc (.cells #[.int .i64 E,.int .i64 F] 23));obtain⟨g,j⟩:=yx (f.alloc (.cells #[.int .u8 (mode:Int)] 5));obtain⟨h,k⟩:=yx (g.alloc (.cells #[.string sep] 9));obtain⟨q,r⟩:=yx (h.alloc (.cells #[.string s] 9));have x:Blk f w.heap.size 23 [.int .i64 E,.int .i64 F]:=by rw[i];exact Blk.made w _ [.int .i64 E,.int .i64 F]
 have y:Blk g f.heap.size 5 [.int .u8 (mode:Int)]:=by rw[j];exact Blk.made f _ [.int .u8 (mode:Int)]
 have z:Blk h g.heap.size 9 [.string sep]:=by rw[k];exact Blk.made g _ [.string sep]
 have C:Blk q h.heap.size 9 [.string s]:=by rw[r];exact Blk.made h _ [.string s]
 have u:f.heap.size=w.heap.size+1:=by rw[i];simp
 have v:g.heap.size=w.heap.size+1+1:=by rw[j];simp [u]
 have D:h.heap.size=w.heap.size+1+1+1:=by rw[k];simp [v]
 have l:qg w.heap.size w f:=by rw[i];exact(qf _ w).alloc lr _
 have m:qg f.heap.size f g:=by rw[j];exact(qf _ f).alloc lr _
 have n:qg g.heap.size g h:=by rw[k];exact(qf _ g).alloc lr _
 have p:qg h.heap.size h q:=by rw[r];exact(qf _ h).alloc lr _
 have G:qm (Caught q w.heap.size (w.heap.size+1) (w.heap.size+1+1) (w.heap.size+1+1+1) E F mode sep s):=vv (by
  rw[<- u,<- v,<- D] at *
  exact⟨((x.below m).below n).below p,(y.below n).below p,z.below p,C⟩)
 have H:qm (qg w.heap.size w q):=vv (((l.trans (m.mono l.size)).trans (n.mono (k07 l.size m.size))).trans (p.mono (k07 (k07 l.size m.size) n.size)));have t:=vv (And.intro i (And.intro j (And.intro k r)));clear i j k r x y z C u v D l m n p;go_enter func7,ntmps7;go_wp2;go_ret;rw[<- t.o.1,<- t.o.2.1,<- t.o.2.2.1,<- t.o.2.2.2];exact⟨_,_,_,_,rfl,G.o,H.o,lr⟩
theorem q4Q(s:ByteArray)(a b:Nat):q0h (s.extract a b)=((q0h s).drop a).take (b-a):=by unfold q0h;rw[q7R,<- List.map_drop,<- List.map_take,List.drop_take]
structure Ints(w:qb)(A:Option Addr)(n:Nat)(C:Nat->Int):Prop where
 at_:0<n->∃b o,A=qe ⟨b,o,qa⟩/\b<w.heap.size/\∀i,i<n->w.cell? ⟨b,o+i,qa⟩=qe (.int .i64 (C i))
 lo:∀i,i<n->-9223372036854775808<=C i
 hi:∀i,i<n->C i<=9223372036854775807
theorem Rdr.says{tk:Option Tk}(h:Rdr w g E F mode seps a tk):qk qc 13 #[.pointer (qe ⟨g,0,qa⟩)] w (fun e w'=>e=.returned (.int .i64 (a:Int))/\w=w') /\∃h:Nat,h<=a/\qk qc 11 #[.pointer (qe ⟨g,0,qa⟩)] w fun e w'=>e=.returned (.int .i64 (h:Int))/\w=w':=by
 obtain⟨⟨T,b,d⟩,c⟩:=h;refine⟨At g E F mode seps a T qh w b,q9r tk,?_,qeF g g E F mode seps a T qh tk w b d⟩;cases tk with
 | none=>exact k0f _
 | some t =>have:=(c t rfl).2.1;show t.1.length<=a;omega
theorem qbn.says(h:qbn w g E F mode seps a):qk qc 13 #[.pointer (qe ⟨g,0,qa⟩)] w (fun e w'=>e=.returned (.int .i64 (a:Int))/\w=w') /\qk qc 11 #[.pointer (qe ⟨g,0,qa⟩)] w fun e w'=>e=.returned (.int .i64 0)/\w=w':=⟨At g E F mode seps a qa qj w h,qeF g g E F mode seps a qa qj qa w h rfl⟩
def qfU(w:qb)(g:Nat)(E F:Int)(mode:Nat)(seps s:ByteArray)(n:Nat)(all at_ i:qo)(wr:qb):Prop:=
 ∃k j:Nat,k<=s.size/\(j<=n\/(j=n+1/\k=s.size))/\at_=.int .i64 (k:Int)/\i=.int .i64 (j:Int) /\wr.ownsRow w.heap.size 34 5 all (q1e seps 0 qa ((q0h s).take k)).2.length (q0N E F mode (q1e seps 0 qa ((q0h s).take k)).2) /\Rdr wr g E F mode seps k (q1e seps 0 qa ((q0h s).take k)).1/\qg w.heap.size w wr
def qfT(E F:Int)(mode:Nat)(sep s:ByteArray)(w:qb)(e:Ending)(w':qb):Prop:=
 ∃v n,e=.returned (.tuple #[v,.bool (qd (q0Z E F mode sep=0))])/\w'.ownsRow w.heap.size 34 5 v n (q0N E F mode (q1n E F mode sep s))/\qg w.heap.size w w'
theorem q9S(s:ByteArray)(k:Nat)(hk:k<s.size):(q0h s)[k]'(by rw[q1q];exact hk)=s[k].toNat:=by unfold q0h;simp only[List.getElem_map];rfl
theorem q7F(s:ByteArray):txt (q0h s)=s:=by
 unfold txt q0h;rw[List.map_map];have:(UInt8.ofNat ∘ fun(x:UInt8)=>x.toNat)=id:=by funext x;simp
 rw[this,List.map_id]
theorem q2U{b' k:Nat}{e:TypeId}{xs:List qo}(h:w.ownsRow b e k v n xs)(hb:b'<=b):w.ownsRow b' e k v n xs:=by refine⟨h.1,h.2.imp id ?_⟩;rintro⟨q,cap,a,c,d,f⟩;exact⟨q,cap,a,c,k07 hb d,f⟩
theorem Ints.below{A:Option Addr}{C:Nat->Int}(h:Ints w A n C)(hb:qg w.heap.size w w'):Ints w' A n C:=⟨fun hn=>by obtain⟨b,o,h1,h2,h3⟩:=h.at_ hn;exact⟨b,o,h1,k03 h2 hb.size,fun i hi=>(hb.cell (p:=⟨b,o+i,qa⟩) h2).trans (h3 i hi)⟩,h.lo,h.hi⟩
theorem Ints.nil(w:qb):Ints w qa 0 (fun _=>0):=⟨fun h=>by omega,fun i h=>by omega,fun i h=>by omega⟩
theorem q8j(g:Nat)(E F:Int)(mode:Nat)(seps s:ByteArray)(at_:Nat)(tok:Option Addr)(w:qb)
  (h:Blk w g 52 (q4E E F mode seps at_ tok qj qj)) :
  qk qc 10 #[.pointer (qe ⟨g,0,qa⟩),.string s] w fun e w'=>e=.returned (.tuple #[.slice qa 0 0,.int .i64 240])/\w=w':=by
 have a:=vv (qan g E F mode seps at_ tok qj w h);clear h;go_enter func10,ntmps10;go_wp2_with fail;refine a.o.mono ?_;rintro e w' ⟨rfl,rfl⟩;go_wp2;go_ret2;exact⟨rfl,rfl⟩
theorem qbK(w:qb):qk qc 9 #[] w fun e w'=>e=.returned (fm 11 52)/\qg w.heap.size w w':=by go_enter func9,ntmps9;go_wp2;refine qs (v:=fm 11 52) (by simp [results,results9,go_sem,fm]) rfl ⟨rfl,(qf _ _).alloc lr _⟩
abbrev qaa:ByteArray:=⟨#[32,9,10,13,44]⟩
theorem q5D:q0S 11 52 (txt [49,46,53]) 0=(4609434218613702656,0,0,0)/\q0S 11 52 (txt [50,53]) 0=(4627730092099895296,0,0,0)/\(q0S 11 52 (txt [120]) 0).2.2.1≠0:=by decide +kernel
theorem q7w:q0Z 11 52 0 ⟨#[44]⟩=0/\q0Z 11 52 0 ⟨#[49]⟩=2/\q1Y++(⟨#[44]⟩:ByteArray)=qaa:=by decide +kernel
theorem qbN:q1e qaa 0 qa (q0h ⟨#[49,46,53,44,50]⟩)=(qe ([50],4),[([49,46,53],0)])/\q1e qaa 5 (qe ([50],4)) (q0h ⟨#[53,32,120]⟩)=(qe ([120],7),[([50,53],4)]):=by decide +kernel
theorem q5C:q1h 11 52 0 [49,46,53] 0=[.int .u64 4609434218613702656,.int .u8 0,.int .i64 0,.int .i64 0,.int .i64 3]/\q1h 11 52 0 [50,53] 4=[.int .u64 4627730092099895296,.int .u8 0,.int .i64 0,.int .i64 4,.int .i64 2] /\∃c:Int,c≠0/\q1h 11 52 0 [120] 7=[.int .u64 0,.int .u8 0,.int .i64 c,.int .i64 7,.int .i64 1]:=by
 refine⟨?_,?_,_,q5D.2.2,?_⟩
 ·unfold q1h;rw[q5D.1];rfl
 ·unfold q1h;rw[q5D.2.1];rfl
 ·unfold q1h;rw[if_neg q5D.2.2];rfl
theorem q2s(E F:Int)(mode:Nat)(t:Tk):q0N E F mode [t]=q1h E F mode t.1 t.2:=by simp [q0N]
theorem q6u{base:Nat}{x0 x1 x2 x3 x4:qo}(h:w.ownsRow base 34 5 v 1 [x0,x1,x2,x3,x4]):∃q cap,v=.slice (qe ⟨q,0,qa⟩) 1 cap/\base<=q/\q<w.heap.size/\1<=cap/\w.cell? ⟨q,0,qa⟩=qe x0/\w.cell? ⟨q,1,qa⟩=qe x1/\w.cell? ⟨q,2,qa⟩=qe x2/\w.cell? ⟨q,3,qa⟩=qe x3/\w.cell? ⟨q,4,qa⟩=qe x4:=by
 rcases h.2 with ⟨-,k⟩|⟨q,cap,i,d,e,c,f,l,m,g⟩
 ·omega
 have a:∀j u,[x0,x1,x2,x3,x4][j]?=qe u->w.cell? ⟨q,j,qa⟩=qe u:=by
  intro j u b;have n:j<5:=by
   have:=(k2l.1 b).1
   simpa using this
  rw[<- g,k18,if_pos (by omega)] at b;simp only[World.cell?,c]
  simpa using b
 exact⟨q,cap,d,e,(k0a.1 c).1,f,a 0 _ rfl,a 1 _ rfl,a 2 _ rfl,a 3 _ rfl,a 4 _ rfl⟩
theorem qex(w:qb)(hg0:Bg w)(ht0:q2B w):qk qc 4 #[] w fun e w'=>e=.returned (.bool qj)/\qg w.heap.size w w':=by
 have HN:=vv fun w'=>New 11 52 0 ⟨#[44]⟩ w' (by decide)
 have T:=vv fun w'=>New 11 52 0 ⟨#[49]⟩ w' (by decide)
 have d:=vv (And.intro hg0 ht0);clear hg0 ht0;go_enter func4,ntmps4;go_wp2_with fail;refine(qbK _).mono ?_;rintro e w1 ⟨rfl,C⟩;have D:=vv C;clear C;go_wp2_with fail;refine(HN.o _).mono ?_;rintro e N ⟨i,(⟨l,-⟩|⟨-,g,rfl,O,m⟩)⟩
 ·exact absurd q7w.1 l
 rw[q7w.2.2] at m;have n:=vn D i;have a:qm (w.heap.size<=g):=vv (k07 D.o.size O);have U:qm (Rdr N g 11 52 0 qaa 0 qa):=vv ⟨⟨qa,m,rfl⟩,fun t h=>by cases h⟩;have E:=vv (qfa w d.o.1 d.o.2 g 0 0 11 52 qaa ⟨#[49,46,53,44,50]⟩ qa (by decide) (by decide) a.o N n.o U.o);rw[qbN.1] at E;clear i O m;go_wp2_with fail;refine E.o.mono ?_;rintro e P ⟨v1,rfl,p,j,F⟩;rw[q2s,q5C.1] at p;have a6:=vv j;have q:=vv (n.o.trans (F.low2 a.o n.o.size));have f:=vv p;have G:=vv j.blk;have H:=vv (qfa w d.o.1 d.o.2 g 0 5 11 52 qaa ⟨#[53,32,120]⟩ (qe ([50],4)) (by decide) (by decide) a.o P q.o j);rw[qbN.2] at H;clear p j F;obtain⟨T3,I,J⟩:=G.o;have Q:=vv (qeF g g 11 52 0 qaa 5 T3 qh (qe ([50],4)) P I J);rw[show((q9r (qe ([50],4)):Nat):Int)=1 from rfl] at Q;clear I J G;go_wp2_with fail;refine Q.o.mono ?_;rintro e R ⟨rfl,rfl⟩;go_wp2_with fail;refine H.o.mono ?_;rintro e R ⟨v2,rfl,r,s,u⟩;rw[q2s,q5C.2.1] at r;have f:=vv (u.row f.o (by unfold RT;decide));have v:=vv r;have a7:=vv s;have x:=vv (q.o.trans (u.low2 a.o q.o.size));have HE:=vv (qfb w d.o.1 d.o.2 g 0 8 11 52 qaa (qe ([120],7)) a.o R x.o s);clear r s u;go_wp2_with fail;refine HE.o.mono ?_;rintro e w5 ⟨v3,rfl,y,z,k⟩;obtain⟨c,S,K⟩:=q5C.2.2;rw[Option.toList_some,q2s,K] at y;have f:=vv (k.row f.o (by unfold RT;decide));have v:=vv (k.row v.o (by unfold RT;decide));have V:=vv y;have W:=vv z;have X:=vv (x.o.trans (k.low2 a.o x.o.size));have Y:=vv (q8j g 11 52 0 qaa ⟨#[49]⟩ 8 qa w5 z);clear y z k K;go_wp2_with fail;refine Y.o.mono ?_;rintro e w6 ⟨rfl,rfl⟩;go_wp2_with fail;refine(qbK _).mono ?_;rintro e w6 ⟨rfl,L⟩;have M:=vv L;clear L;go_wp2_with fail;refine(T.o _).mono ?_;rintro e w7 ⟨i,(⟨-,rfl⟩|⟨l,-⟩)⟩;rotate_left
 ·rw[q7w.2.1] at l;cases l
 rw[q7w.2.1];have b:=M.o.trans (i.mono M.o.size);have Z:=vn X b;have a5:=vv (show qbn w7 g 11 52 0 qaa 8 from Blk.below W.o b).says;obtain⟨q1,k1,rfl,-,l1,c1,a0,a1,a2,a3,a4⟩:=q6u (q1j f.o b);obtain⟨q2,k2,rfl,-,l2,c2,b0,b1,b2,b3,b4⟩:=q6u (q1j v.o b);obtain⟨q3,k3,rfl,-,l3,c3,d0,d1,d2,d3,d4⟩:=q6u (q1j V.o b);have a8:(c != 0)=qj:=by simpa using S
 clear b i S;go_wp2_with fail;refine a5.o.1.mono ?_;rintro e w8 ⟨rfl,rfl⟩;go_wp2;go_ret;exact⟨rfl,Z.o⟩
attribute [local go_sem] Oper.semAt_some q3x q1P q1O
def ItI(J:List Tk->qb->Prop)(Y l:Nat)(pre:List Tk)(X:qb):Prop:=J pre X/\Blk X Y 46 [.func (.yield l) #[] #[]]
theorem qcv{J:List Tk->qb->Prop}{B:Nat}(hJ:∀s A B,J s A->Kz n A B->J s B)(hB:n<=B):OwnFrom B (ItI J Y l):=by rintro pre A C row ⟨f,b⟩ c a;refine⟨hJ _ _ _ f (Kz.far c fun r e=>⟨k07 hB (a r e).1,(a r e).2⟩),b.grown c ?_⟩;rintro rfl;obtain⟨-,o,d,g⟩:=a _ rfl;rw[show A.heap[Y]?=_ from b] at d;cases d;cases g
theorem q7l{J:List Tk->qb->Prop}(hJ:∀s A B,J s A->Kz n A B->J s B)(hn:n<=g)(pre:List Tk)(A C:qb)(h:ItI J Y l pre A)(hk:Kw g A C):ItI J Y l pre C:=⟨hJ _ _ _ h.1 (Kz.kw hk hn),hk.blk h.2 (by unfold RT;decide)⟩
theorem q9X{J:List Tk->qb->Prop}{B:Nat}(hJ:∀s A B,J s A->Kz n A B->J s B)(hB:n<=B):OwnFrom B J:=fun pre A C row h hg hr=>hJ _ _ _ h (Kz.far hg fun r e=>⟨k07 hB (hr r e).1,(hr r e).2⟩)
theorem q7B(w00:qb)(hg0:Bg w00)(ht0:q2B w00)(a b c d mode:Nat)(E F:Int)(sep s:ByteArray)(hsz:s.size<=1099511627776)(hsp:sep.size<=140737488351232)
  (w:qb) (hw:qg w00.heap.size w00 w) (hc:Caught w a b c d E F mode sep s) :
  qe2 qc 16 #[.pointer (qe ⟨a,0,qa⟩),.pointer (qe ⟨b,0,qa⟩),.pointer (qe ⟨c,0,qa⟩),.pointer (qe ⟨d,0,qa⟩)] (fun t:Tk=>#[.agg (q1h E F mode t.1 t.2).toArray])
   Kz (Kb w00.heap.size) (fun xs=>xs <+: q1n E F mode sep s) (fun _=>True) (fun xs _=>xs=q1n E F mode sep s) w:=by
 intro l J Jx W hW hJ d5 hY h0;obtain⟨N,U⟩:=yx (W.alloc (.cells #[.func (.yield l) #[] #[]] 46));have b1:qg W.heap.size W N:=by rw[U];exact(qf _ W).alloc lr _
 have d6:Blk N W.heap.size 46 [.func (.yield l) #[] #[]]:=by rw[U];exact Blk.made W _ [.func (.yield l) #[] #[]]
 have m:=(hc.below hW).below b1;have d7:qg w00.heap.size w00 N:=(hw.trans (hW.mono hw.size)).trans (b1.mono (k07 hw.size hW.size));have HN:=vv (New E F mode sep N hsp);have f6:=vv (k07 hw.size hW.size);have u:=vv hJ;have c5:=vv d5;have HY:=vv hY;have H0:=vv h0;have f7:=vv U;have Y:=vv b1;have f8:=vv d6;have f9:=vv m;have c6:=vv d7;have HS:=vv hsz;have HG:=vv (And.intro hg0 ht0);have a0:=m.form.cell 0;have a1:=m.form.cell 1;have al:=m.form.lt;have m0:=m.mode.cell 0;have ml:=m.mode.lt;have p0:=m.sep.cell 0;have pl:=m.sep.lt;simp only[k04,k08] at a0 a1 m0 p0;rw[U] at a0 a1 al m0 ml p0 pl;clear hJ d5 hY h0 U b1 d6 m d7 hsz hg0 ht0 hw hc hW;refine(qp (n:=0)).1 (qq func16 rfl trivial ?_ rfl);simp only[ntmps16,k1K,k0U,k15,Nat.reduceAdd,Nat.reduceSub,k2E,k2D,List.push_toArray,k2J,k1Q,k1Y];refine wpIn_wide.2 ?_;go_wp2_with fail;rw[<- f7.o];refine HN.o.mono ?_;rintro e f ⟨z,(⟨j,rfl⟩|⟨j,g,rfl,hg,c1⟩)⟩
 ·have HB:qm (qg W.heap.size W f):=vn Y z;have HZ:qm (q1n E F mode sep s=[]):=vv (by unfold q1n;rw[if_neg j]);have i0:¬((q0Z E F mode sep:Nat):Int)=0:=by omega
  clear j z a0 a1 al m0 ml p0 pl;go_wp2;exact⟨_,qn rfl _ _ _,⟨_,rfl⟩,.inl ⟨[],HZ.o.symm,u.o _ _ _ H0.o (Kz.kw (Kw.below (g:=W.heap.size) HB.o) lr)⟩⟩
 have HZ:qm (q1n E F mode sep s=q9W (q1Y++sep) 0 qa (q0h s)):=vv (by unfold q1n;rw[if_pos j]);have C:qm (W.heap.size<=g/\w00.heap.size<=g):=vv (by have h1:=Y.o.size;have h2:=c6.o.size;omega);have G:qm (qg N.heap.size N f):=vv z;have d8:qm (Rdr f g E F mode (q1Y++sep) 0 qa):=vv ⟨⟨qa,c1,rfl⟩,fun t h=>by cases h⟩;obtain⟨seps,a5⟩:=yx (q1Y++sep);rw[<- a5] at d8 HZ;clear a5 j z hg c1 a0 a1 al m0 ml p0 pl;have c9:=f9.o.below G.o;have t0:=c9.body.cell 0;have tl:=c9.body.lt;simp only[k04] at t0;clear c9;obtain⟨I,M⟩:=yx ((f.alloc (.cells #[.pointer (qe ⟨g,0,qa⟩)] 35)).alloc (.cells #[.string s] 9));have a7:=run g s f;rw[<- M] at a7;have d3:=vv a7;have g0:I.heap.size=f.heap.size+2:=by rw[M];simp
 have O:qg f.heap.size f I:=by rw[M];exact((qf _ f).alloc lr _).alloc (by simp) _
 have d9:Blk I f.heap.size 35 [.pointer (qe ⟨g,0,qa⟩)]:=by rw[M];exact(Blk.made f _ [.pointer (qe ⟨g,0,qa⟩)]).alloc _
 have e0:Blk I (f.heap.size+1) 9 [.string s]:=by have e:=Blk.made (f.alloc (.cells #[.pointer (qe ⟨g,0,qa⟩)] 35)) 9 [.string s];rw[qu] at e;rw[M];exact e
 have a8:qg W.heap.size W I:=(Y.o.trans (G.o.mono Y.o.size)).trans (O.mono (k07 Y.o.size G.o.size));have e4:=vv (q8K w00 HG.o.1 HG.o.2 g (f.heap.size+1) f.heap.size mode 0 E F seps s qa (by have:=HS.o;omega) (by have:=HS.o;omega) C.o.2 I
  (c6.o.trans ((G.o.trans (O.mono G.o.size)).mono c6.o.size)) e0 d9 (d8.o.below O))
 have g1:qm (ItI J W.heap.size l [] I):=vv ⟨u.o _ _ _ H0.o (Kz.kw (Kw.below (g:=W.heap.size) a8) lr),((f8.o.below G.o).below O)⟩;have y:=vv (And.intro a8.size (k07 c6.o.size (k07 G.o.size O.size)));obtain⟨X,hX⟩:=yx (q1e seps 0 qa (q0h s));have Z:qm (q1n E F mode sep s=X.2++X.1.toList):=vv (by rw[HZ.o,hX];rfl);rw[<- hX] at e4;clear hX M a7 g0 O d9 e0 a8;go_wp2_with fail;refine d3.o.mono ?_;rintro e w' ⟨rfl,rfl⟩;clear t0 tl;go_wp2_with fail;refine(wpIn_wide (n:=0)).1 ?_;refine q1r (gf:=26) (lb:=#[.pointer (qe ⟨f.heap.size+1,0,qa⟩),.pointer (qe ⟨f.heap.size,0,qa⟩)]) rfl (enters_of func26 (by kernel_rfl) rfl) e4.o
  (fun h k=>h.trans k) (fun W l o o' hl h ho=>Kb.put o' h ho (k07 y.o.2 hl)) (fun A B k o h _ hk ho=>h.non hk ho)
  (fun xs W l o o' h hl hk ho=>⟨h.1,h.2.1.put o' hk ho,h.2.2.trans (q1Z o' hk (k07 y.o.2 hl))⟩) (fun _=>rfl)
  (ItI J W.heap.size l) (fun c pre X=>c=.ret/\Jx pre X) (qcv u.o y.o.1) (q7l u.o C.o.1) (fun c s A B row h hg hr=>⟨h.1,q9X c5.o y.o.1 _ _ _ _ h.2 hg hr⟩)
  (fun c s A B h hk=>⟨h.1,c5.o _ _ _ h.2 (Kz.kw hk C.o.1)⟩) g1.o ?_ ?_ ?_
 ·
  intro l' pre x A hI e5;obtain⟨P,Q,R,S,T,b7,a2⟩:=q1R E F mode x.1 x.2;dsimp only;rw[b7];have j:Blk (A.alloc (.cells #[.int .u64 0,.int .u8 0,.int .i64 0,.int .i64 0,.int .i64 0] 34)) A.heap.size 34 [.int .u64 0,.int .u8 0,.int .i64 0,.int .i64 0,.int .i64 0]:=Blk.made A _ [.int .u64 0,.int .u8 0,.int .i64 0,.int .i64 0,.int .i64 0];have a9:[P,Q,R,S,T].all (·.oneCell')=qj:=k1C.2 a2;have HI:=vv hI;have g2:=vv e5;clear hI a2 e5
  gi_wp2_with (with_reducible refine q0D rfl 34 (.tmp 8) (.tmp 25) rfl A.heap.size [P,Q,R,S,T] rfl rfl 34 _ j (by kernel_rfl) rfl a9 ?_)
  intro A2 e6 e7;have e8:qg A.heap.size A A2:=((qf _ A).alloc lr _).grown e7 (by simp) (fun k e=>by cases e;exact lr);have g3:=vv e6;have b0:=vv e8;clear e6 e7 e8 j
  gi_wp2
  refine⟨q1l b0.o,q2r (k07 f6.o (k14 HI.o.2.lt)) b0.o,q7l u.o C.o.1 pre A A2 HI.o (Kw.below b0.o),?_⟩;intro B b8 a6;have g4:=a6.blk g3.o;have s0:=b8.2.cell 0;have sl:=b8.2.lt;simp only[k04] at s0;have g5:=vv b8;obtain⟨fn,tmps,assign,body,hy,b9⟩:=HY.o pre x B b8.1 (by obtain⟨r,hr⟩:=g2.o;exact⟨r++X.1.toList,by rw[Z.o,<- hr];simp⟩);rw[b7] at hy;clear b8 a6
  gi_wp2_with (with_reducible refine q2c rfl 34 (.tmp 8) rfl A.heap.size rfl 34 _ _ g4 underlying34 rfl (by kernel_rfl) ?_)
  refine RoundIn.mono (F:=Fence.wide.inRound l') b9 ?_;clear hy b9;rintro e W3 (⟨rfl,e9,b2,H⟩|⟨rfl,c2,H⟩)
  ·have HE:qm (ownPostG w'.heap.size (Kb w00.heap.size) (ItI J W.heap.size l) (fun c pre X=>c=.ret/\Jx pre X) (pre++[x]) B .normal {tmps:=#[],defers:=[]} W3):=vv
    ⟨⟨H.size,fun k o z hk ho=>H.same k o (k07 y.o.1 z) hk ho⟩,b2,e9,b2.blk g5.o.2 (.inr (.inr (.inr rfl)))⟩
   clear e9 b2 H
   gi_wp2
   exact HE.o
  ·have HE:qm (ownPostG w'.heap.size (Kb w00.heap.size) (ItI J W.heap.size l) (fun c pre X=>c=.ret/\Jx pre X) (pre++[x]) B .ret {tmps:=#[],defers:=[]} W3):=vv
    ⟨⟨H.size,fun k o z hk ho=>H.same k o (k07 y.o.1 z) hk ho⟩,rfl,c2⟩
   clear c2 H
   gi_wp2
   exact HE.o
 ·
  intro D xs W' hD hS hI L;obtain⟨rfl,hR,c3⟩:=hS;have d4:=vv (qfb w00 HG.o.1 HG.o.2 g mode (0+s.size) E F seps X.1 C.o.2 W' c3 hR);have HI:=vv hI;have HK:=vv L;have HD:qm (W.heap.size<=D):=vv (k07 y.o.1 hD);have b4:qm (∀(V:qb) (pre:List Tk) (K:List Tk->qb->Prop),(∀s A B,K s A->Kz W.heap.size A B->K s B)->K pre V->V.heap[D]?=qe (.deferred (qe []))->K pre (V.putObj D (.deferred qa))):=vv
   fun V pre K L h hv=>L _ _ _ h (Kz.far (grownBy_putObj' V D _) fun r e=>by cases e;exact⟨HD.o,_,hv,rfl⟩)
  clear hR c3 hI L hD;go_wp2_with fail;refine d4.o.mono ?_;rintro e w5 ⟨v,rfl,b5,-,d0⟩;have f0:=vv (q7l u.o C.o.1 _ _ _ HI.o d0);have c7:=vv (d0.non HK.o rfl);obtain⟨A0,c0,rfl⟩:=q3o b5;have b6:=vv b5;clear b5 d0;cases hX1:X.1 with
  | none =>
   rw[hX1] at b6 Z;have a4:qm (q1n E F mode sep s=X.2):=vv (by rw[Z.o];simp);have g6:=vv hX1;clear hX1;simp only[Option.toList_none,k15];go_wp2;go_loopw [37] (fun i wr=>i=.int .i64 0/\wr=w5) (fun _ _=>0)
   case atStart=>exact⟨rfl,rfl⟩
   case round =>obtain⟨rfl,rfl⟩:=hrel;go_wp2;refine⟨by simp,.inl ⟨_,_,rfl,qi c7.o,?_⟩⟩;exact⟨_,qn rfl _ _ _,⟨_,rfl⟩,.inl ⟨X.2,a4.o.symm,b4.o _ _ _ u.o f0.o.1 c7.o⟩⟩
  | some t =>
   rw[hX1] at b6 Z;have a4:qm (q1n E F mode sep s=X.2++[t]):=vv (by rw[Z.o];rfl);have g6:=vv hX1;clear hX1;simp only[Option.toList_some,k0U,k15,k17];obtain⟨q,cap,e1,-,g7,g9,hq⟩:=q3p b6.o (by simp);injection e1 with e1 e2 e3;subst e1;have c8:=hq 0 (by simp);simp only[Option.toList_some,List.getElem_cons_zero,k1L] at c8;obtain⟨P,Q,R,S,T,b7,a2⟩:=q1R E F mode t.1 t.2;rw[b7] at c8;have a9:[P,Q,R,S,T].all (·.oneCell')=qj:=k1C.2 a2;clear hq a2;go_wp2;refine(wpIn_wide (n:=0)).1 ?_
   gi_loopw [37] (fun i wr=>(i=.int .i64 0/\wr=w5)\/(i=.int .i64 1/\J (X.2++[t]) wr/\wr.heap[D]?=qe (.deferred (qe [])))) (fun i _=>1-(intOf i).toNat)
   case atStart=>exact .inl ⟨rfl,rfl⟩
   case round =>
    rcases hrel with ⟨rfl,rfl⟩|⟨rfl,hj,hd⟩
    ·have j:Blk (wr.alloc (.cells #[.int .u64 0,.int .u8 0,.int .i64 0,.int .i64 0,.int .i64 0] 34)) wr.heap.size 34 [.int .u64 0,.int .u8 0,.int .i64 0,.int .i64 0,.int .i64 0]:=Blk.made wr _ [.int .u64 0,.int .u8 0,.int .i64 0,.int .i64 0,.int .i64 0]
     gi_wp2_with (with_reducible first
      | refine q3P rfl 34 (.tmp 39) rfl q 0 rfl [P,Q,R,S,T] _ c8 underlying34 rfl (by kernel_rfl) ?_
      | refine q3w rfl 34 (.tmp 12) (.tmp 40) rfl wr.heap.size [P,Q,R,S,T] rfl rfl 34 _ j (by kernel_rfl) rfl a9 ?_)
     intro w7 f1 f2;have d1:qg wr.heap.size wr w7:=((qf _ wr).alloc lr _).grown f2 (by simp) (fun k e=>by cases e;exact lr);have d2:=vv (q7l u.o C.o.1 _ _ _ f0.o (Kw.below (g:=g) d1));have f3:=vv ((d1.block D (k0a.1 c7.o).1).trans c7.o);have s0:=d2.o.2.cell 0;have sl:=d2.o.2.lt;simp only[k04] at s0;obtain⟨fn,tmps,assign,body,hy,b9⟩:=HY.o X.2 t w7 d2.o.1 (by rw[a4.o];exact List.prefix_rfl);rw[b7] at hy;clear j d1 f2 c8 g7
     gi_wp2_with (with_reducible refine q3Q rfl 34 (.tmp 12) rfl wr.heap.size rfl 34 _ _ f1 underlying34 rfl (by kernel_rfl) ?_)
     refine b9.mono ?_;clear hy b9 f1 s0 sl;rintro e W8 (⟨rfl,f4,-,a3⟩|⟨rfl,c4,a3⟩)
     ·have p:=vv (And.intro f4 (a3.same D _ HD.o f3.o rfl));clear f4 a3
      gi_wp2
      go_roundw
      case rel=>exact .inr ⟨rfl,p.o⟩
      case measure=>simp [intOf]
     ·have p:=vv (And.intro c4 (a3.same D _ HD.o f3.o rfl));clear c4 a3
      gi_wp2
      refine⟨by simp,.inl ⟨_,_,rfl,qi p.o.2,?_⟩⟩;exact⟨_,qn rfl _ _ _,⟨_,rfl⟩,.inr ⟨_,trivial,b4.o _ _ _ c5.o p.o.1 p.o.2⟩⟩
    ·have p:=vv (And.intro hj hd);clear hj hd
     gi_wp2
     refine⟨by simp,.inl ⟨_,_,rfl,qi p.o.2,?_⟩⟩;exact⟨_,qn rfl _ _ _,⟨_,rfl⟩,.inl ⟨_,a4.o.symm,b4.o _ _ _ u.o p.o.1 p.o.2⟩⟩
 ·rintro D c pre W' hD hp ⟨rfl,f5⟩ L;have HD:qm (W.heap.size<=D):=vv (k07 y.o.1 hD);have g8:=vv f5;clear f5 hD
  gi_wp2
  refine⟨by simp,.inl ⟨_,_,rfl,qi L,?_⟩⟩;exact⟨_,qn rfl _ _ _,⟨_,rfl⟩,.inr ⟨pre,trivial,c5.o _ _ _ g8.o (Kz.far (grownBy_putObj' W' D _) fun r e=>by cases e;exact⟨HD.o,_,L,rfl⟩)⟩⟩
attribute [local go_sem] Oper.semAt_some q3x q1P q1O
theorem qc9(f:Fn)(a b:Array qo)(W:qb):(binOp .eql 29 (.func f a b) .nilFunc).run qc W=.ok (.bool qh) W:=by
 obtain⟨k,c⟩:∃k,Op.maxDepth=k+1:=⟨9999,rfl⟩;have e:(Op.equal 29 (.func f a b) .nilFunc).run qc W=.ok qh W:=by unfold Op.equal;rw[c];unfold Op.equalIn;rw[Sem.run_bind,run_underlying underlying29 W];rfl
 show Sem.run qc (Op.equal 29 (.func f a b) .nilFunc >>= fun r=>pure (Value.bool r)) W=_;rw[Sem.run_bind,e];rfl
def qfV(Q:Exit->Act->qb->Prop):Exit->Act->qb->Prop
 | .panic _,_,_=>False
 | .normal,a,w=>Q .normal a w
 | .ret,a,w=>Q .ret a w
 | .exit i,a,w=>Q (.exit i) a w
 | .goto l,a,w=>Q (.goto l) a w
 | .outgrown,a,w=>Q .outgrown a w
def qfR(w:qb)(E F:Int)(mode:Nat)(pre:List Tk)(W:qb):Prop:=
 qg w.heap.size w W/\∃v,Blk W w.heap.size 26 [v]/\W.ownsRow w.heap.size 34 5 v pre.length (q0N E F mode pre)
theorem q3W(seps:ByteArray)(bs:List Nat)(i:Nat)(hi:i<bs.length):q1e seps 0 qa (bs.take (i+1))=((q1f seps i (q1e seps 0 qa (bs.take i)).1 bs[i]).1,(q1e seps 0 qa (bs.take i)).2++(q1f seps i (q1e seps 0 qa (bs.take i)).1 bs[i]).2):=by rw[k0E hi,q5V,k0l,k17,k0L (by omega)]
theorem q69(seps:ByteArray)(bs:List Nat):∀i L f,i<=bs.length->(q1e seps 0 qa (bs.take i)).1=qe (L,f)->f<i/\L=(bs.drop f).take (i-f)
 | 0,L,f,_,h=>by simp [q1e] at h
 | i+1,L,f,hi,h=>by
  rw[q3W seps bs i (by omega)] at h;simp only[q1f] at h;by_cases hb:q7v seps bs[i]=qj
  ·rw[if_pos hb] at h;cases h
  rw[if_neg hb] at h;cases ht:(q1e seps 0 qa (bs.take i)).1 with
  | none =>rw[ht] at h;injection h with h;injection h with h1 h2;subst h1 h2;refine⟨by omega,?_⟩;rw[show i+1-i=1 by omega,k1z (by omega)];rfl
  | some t =>obtain⟨L0,f0⟩:=t;rw[ht] at h;injection h with h;injection h with h1 h2;subst h1 h2;obtain⟨k1,k2⟩:=q69 seps bs i L0 f0 (by omega) ht;refine⟨by omega,?_⟩;rw[show i+1-f0=(i-f0)+1 by omega,k0E (by rw[k0o];omega),<- k2,List.getElem_drop];congr 2;simp only[show f0+(i-f0)=i by omega]
def q24(tok:Option Tk):Int:=match tok with|none => -1|some t=>(t.2:Int)
theorem qca(hi:i<bs.length){ts:List Tk}(h:q1e seps 0 qa (bs.take i)=(qa,ts))(hb:q7v seps bs[i]=qj):q1e seps 0 qa (bs.take (i+1))=(qa,ts):=by rw[q3W seps bs i hi,h];simp only[q1f,if_pos hb,Option.toList_none,k26]
theorem q8J(hi:i<bs.length){t:Tk}{ts:List Tk}(h:q1e seps 0 qa (bs.take i)=(qe t,ts))(hb:q7v seps bs[i]=qj):q1e seps 0 qa (bs.take (i+1))=(qa,ts++[t]):=by rw[q3W seps bs i hi,h];simp only[q1f,if_pos hb,Option.toList_some]
theorem qav(hi:i<bs.length){tok:Option Tk}{ts:List Tk}(h:q1e seps 0 qa (bs.take i)=(tok,ts))(hb:q7v seps bs[i]=qh):∃t,q1e seps 0 qa (bs.take (i+1))=(qe t,ts)/\(t.2:Int)=if q24 tok<0 then(i:Int) else q24 tok:=by
 have a:¬q7v seps bs[i]=qj:=by rw[hb];decide
 rw[q3W seps bs i hi,h];simp only[q1f,if_neg a];cases tok with
 | none=>exact⟨_,by rw[k26],by simp [q24]⟩
 | some t =>refine⟨_,by rw[k26],?_⟩;rw[if_neg (by simp only[q24];omega)];rfl
theorem q4b(seps:ByteArray):∀(xs:List Nat) (a:Nat) (tok:Option Tk),(q9W seps a tok xs).length<=xs.length+tok.toList.length
 | [],a,tok=>by simp [q9W,q1e]
 | c::cs,a,tok=>by
  have ih:=q4b seps cs (a+1) (q1f seps a tok c).1;have e:q9W seps a tok (c::cs)=(q1f seps a tok c).2++q9W seps (a+1) (q1f seps a tok c).1 cs:=by simp only[q9W,q1e,List.append_assoc]
  rw[e,k0n];have:(q1f seps a tok c).2.length+(q1f seps a tok c).1.toList.length<=tok.toList.length+1:=by
   unfold q1f;split
   ·simp
   ·cases tok<;>simp
  rw[k0U];omega
def q8V(c:Nat):Bool:=(qd (97<=c) && qd (c<=122)) || (qd (65<=c) && qd (c<=90)) || (qd (48<=c) && qd (c<=57)) || decide (c=43) || decide (c=45) || decide (c=46) || decide (c=95) || decide (c=40) || decide (c=41) || decide (127<c)
theorem qaE(c:Nat)(hc:c<256):q8V c=q2Y c:=by
 have:∀c:Fin 256,q8V c.val=q2Y c.val:=by decide +kernel
 exact this ⟨c,hc⟩
end Str
namespace Dst
open Go Go.RowKit Go.Proofs.YtokgagenofjmgaaGreatDoor R5 Scn Hx Rdx Str
def q6h(c:Nat):Bool:=qd (c=32) || decide (c=9) || decide (c=10) || decide (c=13)
theorem qew(c:Nat)(w:qb)(hc:c<256):qk qc 31 #[.int .u8 (c:Int)] w fun e w'=>e=.returned (.bool (q6h c))/\w=w':=by
 by_cases h1:c=32
 ·subst h1;go_enter func31,ntmps31;go_wp2;go_ret;exact⟨rfl,rfl⟩
 by_cases h2:c=9
 ·subst h2;go_enter func31,ntmps31;go_wp2;go_ret;exact⟨rfl,rfl⟩
 by_cases h3:c=10
 ·subst h3;go_enter func31,ntmps31;go_wp2;go_ret;exact⟨rfl,rfl⟩
 by_cases h4:c=13
 ·subst h4;go_enter func31,ntmps31;go_wp2;go_ret;exact⟨rfl,rfl⟩
 have a:qm (q6h c=qh):=vv (by unfold q6h;rw[k00 h1,k00 h2,k00 h3,k00 h4];rfl);have b:¬(c:Int)=32:=by omega
 have d:¬(c:Int)=9:=by omega
 have f:¬(c:Int)=10:=by omega
 have g:¬(c:Int)=13:=by omega
 clear h1 h2 h3 h4;have h:((c:Int)==32)=qh:=by simpa using b
 have i:((c:Int)==9)=qh:=by simpa using d
 have j:((c:Int)==10)=qh:=by simpa using f
 have k:((c:Int)==13)=qh:=by simpa using g
 go_enter func31,ntmps31;go_wp2;go_ret;exact⟨q1T a.o.symm,rfl⟩
theorem qcR(sep:ByteArray)(c:Nat)(w:qb)(hc:c<256)(hsz:sep.size<=140737488351232):qk qc 24 #[.int .u8 (c:Int),.string sep] w fun e w'=>e=.returned (.bool (q7v (q1Y++sep) c))/\w=w':=by
 rw[q8e sep c hc];have s:(sep.size:Int)<=140737488351232:=by omega
 have g:=vv (qew c w hc);clear hsz;go_enter func24,ntmps24;go_wp2;go_loop [5] (fun t=>∃k:Nat,k<=sep.size/\t=.int .i64 k/\(∀j (h:j<sep.size),j<k->sep[j].toNat≠c)) (fun t=>sep.size-(intOf t).toNat)
 case atStart=>exact⟨0,k0f _,rfl,fun j _ h=>absurd h (by omega)⟩
 case round =>
  obtain⟨k,m,rfl,f⟩:=hrel;have d:=vv f;clear f;by_cases hks:k<sep.size
  ·by_cases hb:sep[k].toNat=c
   ·have n:qm (q4W sep c=qj):=vv (by unfold q4W;rw[k02 (by rw[<- hb];simp only[Nat.toUInt8,UInt8.ofNat_toNat];exact k1B (by simpa using hks))];rfl);have i:((sep[k].toNat:Nat):Int)=(c:Int):=by omega
    clear hb;go_wp2;go_ret;exact⟨q1T n.o.symm,rfl⟩
   ·have p:=vv hb;have i:¬((sep[k].toNat:Nat):Int)=(c:Int):=by omega
    have u:¬(c:Int)=((sep[k].toNat:Nat):Int):=by omega
    clear hb;go_wp2;go_round
    case rel =>
     refine⟨k+1,by omega,by go_num,fun j h a=>?_⟩;rcases(by omega:j<k\/j=k) with h|rfl
     ·exact d.o j _ h
     ·exact p.o
    case measure=>simp [intOf];omega
  ·have l:k=sep.size:=by omega
   subst l;have b:c.toUInt8 ∉ sep.data.toList:=by intro b;obtain⟨j,a,e⟩:=k2K b;refine d.o j (by simpa using a) (by simpa using a) ?_;have q:sep.data.toList[j]=sep[j]'(by simpa using a):=rfl;rw[<- q,e];simp only[Nat.toUInt8,UInt8.toNat_ofNat'];exact k0F hc
   have r:qm (q4W sep c=q6h c):=vv (by unfold q4W q6h;rw[k00 b];simp);clear b m hks d;go_wp2_with fail;refine g.o.mono ?_;rintro e w' ⟨rfl,rfl⟩;go_wp2;go_ret;exact⟨q1T r.o.symm,rfl⟩
theorem q5Z:q8V c=qj↔(97<=c/\c<=122)\/(65<=c/\c<=90)\/(48<=c/\c<=57)\/c=43\/c=45\/c=46\/c=95\/c=40\/c=41\/127<c:=by unfold q8V;simp only[k1y,k0B,k0I,or_assoc]
theorem may(s:ByteArray)(w:qb)(hsz:s.size<=140737488351232):qk qc 23 #[.string s] w fun e w'=>e=.returned (.bool (q7f s))/\w=w':=by
 have K:(s.size:Int)<=140737488351232:=by omega
 clear hsz;go_enter func23,ntmps23;go_wp2;go_loop [3] (fun t=>∃k:Nat,k<=s.size/\t=.int .i64 k/\(∀j (h:j<s.size),j<k->q2Y s[j].toNat=qh)) (fun t=>s.size-(intOf t).toNat)
 case atStart=>exact⟨0,k0f _,rfl,fun j _ h=>absurd h (by omega)⟩
 case round =>
  obtain⟨k,H,rfl,C⟩:=hrel;have E:=vv C;clear C;by_cases hks:k<s.size
  ·have D:=k1q s[k];obtain⟨c,a⟩:∃c,s[k].toNat=c:=⟨_,rfl⟩;rw[a] at D;have L:((s[k].toNat:Nat):Int)=(c:Int):=by omega
   have b:=qaE c D;cases hp:q8V c with
   | true =>
    have I:qm (q7f s=qh):=vv (q99 hks (by rw[a,<- b];exact hp));have p:=q5Z.1 hp;clear b hp a;rcases p with h|h|h|h|h|h|h|h|h|h;all_goals
     first
      | have q:(97:Int)<=(c:Int):=by omega
      | have q:¬(97:Int)<=(c:Int):=by omega
     first
      | have r:(c:Int)<=122:=by omega
      | have r:¬(c:Int)<=122:=by omega
     first
      | have u:(65:Int)<=(c:Int):=by omega
      | have u:¬(65:Int)<=(c:Int):=by omega
     first
      | have v:(c:Int)<=90:=by omega
      | have v:¬(c:Int)<=90:=by omega
     first
      | have x:(48:Int)<=(c:Int):=by omega
      | have x:¬(48:Int)<=(c:Int):=by omega
     first
      | have y:(c:Int)<=57:=by omega
      | have y:¬(c:Int)<=57:=by omega
     first
      | have d:(c:Int)=43:=by omega
      | have d:¬(c:Int)=43:=by omega
     first
      | have f:(c:Int)=45:=by omega
      | have f:¬(c:Int)=45:=by omega
     first
      | have g:(c:Int)=46:=by omega
      | have g:¬(c:Int)=46:=by omega
     first
      | have i:(c:Int)=95:=by omega
      | have i:¬(c:Int)=95:=by omega
     first
      | have l:(c:Int)=40:=by omega
      | have l:¬(c:Int)=40:=by omega
     first
      | have m:(c:Int)=41:=by omega
      | have m:¬(c:Int)=41:=by omega
     first
      | have z:(127:Int)<(c:Int):=by omega
      | have z:¬(127:Int)<(c:Int):=by omega
     clear h;go_wp2;go_ret;exact⟨q1T I.o.symm,rfl⟩
   | false =>
    have J:qm (q2Y s[k].toNat=qh):=vv (by rw[a,<- b];exact hp);have p:¬((97<=c/\c<=122)\/(65<=c/\c<=90)\/(48<=c/\c<=57)\/c=43\/c=45\/c=46\/c=95\/c=40\/c=41\/127<c):=fun h=>by rw[q5Z.2 h] at hp;cases hp
    clear b hp a;rcases(by omega:c<40\/c=42\/c=44\/c=47\/(58<=c/\c<=64)\/(91<=c/\c<=94)\/c=96\/(123<=c/\c<=127)) with h|h|h|h|h|h|h|h;all_goals
     clear p;first
      | have q:(97:Int)<=(c:Int):=by omega
      | have q:¬(97:Int)<=(c:Int):=by omega
     first
      | have r:(c:Int)<=122:=by omega
      | have r:¬(c:Int)<=122:=by omega
     first
      | have u:(65:Int)<=(c:Int):=by omega
      | have u:¬(65:Int)<=(c:Int):=by omega
     first
      | have v:(c:Int)<=90:=by omega
      | have v:¬(c:Int)<=90:=by omega
     first
      | have x:(48:Int)<=(c:Int):=by omega
      | have x:¬(48:Int)<=(c:Int):=by omega
     first
      | have y:(c:Int)<=57:=by omega
      | have y:¬(c:Int)<=57:=by omega
     first
      | have d:(c:Int)=43:=by omega
      | have d:¬(c:Int)=43:=by omega
     first
      | have f:(c:Int)=45:=by omega
      | have f:¬(c:Int)=45:=by omega
     first
      | have g:(c:Int)=46:=by omega
      | have g:¬(c:Int)=46:=by omega
     first
      | have i:(c:Int)=95:=by omega
      | have i:¬(c:Int)=95:=by omega
     first
      | have l:(c:Int)=40:=by omega
      | have l:¬(c:Int)=40:=by omega
     first
      | have m:(c:Int)=41:=by omega
      | have m:¬(c:Int)=41:=by omega
     first
      | have z:(127:Int)<(c:Int):=by omega
      | have z:¬(127:Int)<(c:Int):=by omega
     have M:((c:Int)==43)=qh:=by rw[k01];omega
     have N:((c:Int)==45)=qh:=by rw[k01];omega
     have O:((c:Int)==46)=qh:=by rw[k01];omega
     have P:((c:Int)==95)=qh:=by rw[k01];omega
     have Q:((c:Int)==40)=qh:=by rw[k01];omega
     have R:((c:Int)==41)=qh:=by rw[k01];omega
     clear h d f g i l m;go_wp2;go_round
     case rel =>
      refine⟨k+1,by omega,by go_num,fun j h hj=>?_⟩;rcases(by omega:j<k\/j=k) with h|rfl
      ·exact E.o j _ h
      ·exact J.o
     case measure=>simp [intOf];omega
  ·have F:k=s.size:=by omega
   subst F;have n:qm (q7f s=qd (s.size<=16)):=vv (q9a (fun j h=>E.o j h h));clear H hks;by_cases h16:s.size<=16
   ·have G:(s.size:Int)<=16:=by omega
    rw[k02 h16] at n;clear h16;go_wp2;go_ret;exact⟨q1T n.o.symm,rfl⟩
   ·have G:¬(s.size:Int)<=16:=by omega
    rw[k00 h16] at n;clear h16;go_wp2;go_ret;exact⟨q1T n.o.symm,rfl⟩
theorem qeG(E F:Int)(mode:Nat)(sep:ByteArray)(w:qb)(hsz:sep.size<=140737488351232):qk qc 14 #[fm E F,.int .u8 (mode:Int),.string sep] w fun e w'=>e=.returned (.int .i64 (q0Z E F mode sep:Int))/\qg w.heap.size w w':=by
 have d:=vv fun w=>R3.Check E F w
 have i:=vv fun w=>may sep w hsz
 obtain⟨s,m⟩:=yx (w.alloc (.cells #[.int .i64 E,.int .i64 F] 23));have f:Ctx w [(w.heap.size,23,[.int .i64 E,.int .i64 F])] s:=by rw[m];exact(Ctx.nil w).new _ _ rfl
 have g:=(f.get 0 rfl).cell 0;have h:=(f.get 0 rfl).cell 1;have j:=(f.get 0 rfl).lt;simp only[k04,k08] at g h;have k:=vv f;have l:=vv m;clear f m hsz;by_cases hf:R3.formOk E F=qh
 ·have c:qm (q0Z E F mode sep=5):=vv (by unfold q0Z;rw[if_pos hf]);rw[R3.chk_no hf] at d;clear hf;go_enter func14,ntmps14;go_wp2_with fail;rw[<- l.o];go_wp2_with fail;refine(d.o _).mono ?_;rintro e n ⟨rfl,a⟩;have b:=vv (k.o.step a);clear a g h j;go_wp2;go_ret;exact⟨by rw[c.o];rfl,b.o.low⟩
 rw[R3.chk_ok (by simpa using hf)] at d;by_cases hm:4<mode
 ·have c:qm (q0Z E F mode sep=7):=vv (by unfold q0Z;rw[if_neg hf,if_pos hm]);have r:(4:Int)<(mode:Int):=by omega
  clear hf hm;go_enter func14,ntmps14;go_wp2_with fail;rw[<- l.o];go_wp2_with fail;refine(d.o _).mono ?_;rintro e n ⟨rfl,a⟩;have b:=vv (k.o.step a);clear a g h j;go_wp2;go_ret;exact⟨by rw[c.o];rfl,b.o.low⟩
 have r:(mode:Int)<=4:=by omega
 have p:q0Z E F mode sep=if q7f sep=qh then 2 else 0:=by unfold q0Z;rw[if_neg hf,if_neg hm]
 have q:=vv p;clear hf hm p;cases hy:q7f sep with
 | false =>have c:qm (q0Z E F mode sep=2):=vv (by rw[q.o,if_pos hy]);rw[hy] at i;clear hy;go_enter func14,ntmps14;go_wp2_with fail;rw[<- l.o];go_wp2_with fail;refine(d.o _).mono ?_;rintro e n ⟨rfl,a⟩;have b:=vv (k.o.step a);clear a g h j;go_wp2_with fail;refine(i.o _).mono ?_;rintro e w' ⟨rfl,rfl⟩;go_wp2;go_ret;exact⟨by rw[c.o];rfl,b.o.low⟩
 | true =>have c:qm (q0Z E F mode sep=0):=vv (by rw[q.o,if_neg (by rw[hy];decide)]);rw[hy] at i;clear hy;go_enter func14,ntmps14;go_wp2_with fail;rw[<- l.o];go_wp2_with fail;refine(d.o _).mono ?_;rintro e n ⟨rfl,a⟩;have b:=vv (k.o.step a);clear a g h j;go_wp2_with fail;refine(i.o _).mono ?_;rintro e w' ⟨rfl,rfl⟩;go_wp2;go_ret;exact⟨by rw[c.o];rfl,b.o.low⟩
def qaU(E F:Int)(mode:Nat)(s:ByteArray)(first:Nat):List qo:=
 if(q0S E F s mode).2.2.1=0 then[.int .u64 ((q0S E F s mode).1:Int),.int .u8 ((q0S E F s mode).2.1:Int),.int .i64 0,.int .i64 (first:Int),.int .i64 (s.size:Int)]
 else[.int .u64 0,.int .u8 0,.int .i64 (q0S E F s mode).2.2.1,.int .i64 (first:Int),.int .i64 (s.size:Int)]
theorem q67(E F:Int)(mode:Nat)(L:List Nat)(first:Nat):qaU E F mode (txt L) first=q1h E F mode L first:=by
 have e:(txt L).size=L.length:=by show(List.toArray (L.map UInt8.ofNat)).size=L.length;simp
 unfold qaU q1h;rw[e]
theorem qec(E F:Int)(mode:Nat)(s:ByteArray)(first:Nat)(w:qb)(hg:Bg w):qk qc 25 #[fm E F,.int .u8 (mode:Int),.string s,.int .i64 (first:Int)] w fun e w'=>e=.returned (.agg (qaU E F mode s first).toArray)/\qg w.heap.size w w':=by
 obtain⟨O,C⟩:=yx (q0S E F s mode);have K:qm (qaU E F mode s first=if O.2.2.1=0 then[.int .u64 (O.1:Int),.int .u8 (O.2.1:Int),.int .i64 0,.int .i64 (first:Int),.int .i64 (s.size:Int)]
  else[.int .u64 0,.int .u8 0,.int .i64 O.2.2.1,.int .i64 (first:Int),.int .i64 (s.size:Int)]):=vv (by rw[C];rfl)
 have G:=vv fun w' (h:qg w.heap.size w w')=>Dlx.Bits E F s mode w' (hg.below h)
 rw[<- C] at G;obtain⟨Q,u⟩:=yx ((w.alloc (.cells #[.int .i64 E,.int .i64 F] 23)).alloc (.cells #[.int .u64 0,.int .u8 0,.int .i64 0,.int .i64 0,.int .i64 0] 34));have k:Ctx w [(w.heap.size+1,34,[.int .u64 0,.int .u8 0,.int .i64 0,.int .i64 0,.int .i64 0]),(w.heap.size,23,[.int .i64 E,.int .i64 F])] Q:=by rw[u];exact((Ctx.nil w).new _ _ rfl).new _ _ (by simp)
 have P:(w.alloc (.cells #[.int .i64 E,.int .i64 F] 23)).heap.size=w.heap.size+1:=by simp
 have L:=(k.get 1 rfl).cell 0;have M:=(k.get 1 rfl).cell 1;have R:=(k.get 1 rfl).lt;simp only[k04,k08] at L M;have N:=vv k;have S:=vv u;clear k u C hg;go_enter func25,ntmps25;go_wp2_with fail;rw[<- S.o];clear P;go_wp2_with fail;refine(G.o _ N.o.low).mono ?_;rintro e D ⟨rfl,c⟩;have H:=vv (N.o.step c);clear c L M R;obtain⟨q,b⟩:=yx (D.heap.size);obtain⟨T,x⟩:=yx (D.alloc (.cells #[.int .i64 O.2.2.1,.int .i64 O.2.2.2] 70));have f:qm (Ctx w [(q,70,[Value.int .i64 O.2.2.1,.int .i64 O.2.2.2]),(w.heap.size+1,34,[.int .u64 0,.int .u8 0,.int .i64 0,.int .i64 0,.int .i64 0]),(w.heap.size,23,[.int .i64 E,.int .i64 F])] T):=vv (by rw[x];exact H.o.new _ _ b);have U:qm (w.heap.size+1<q):=vv (by rw[b];exact(H.o.get 0 rfl).lt);have I:=vv x;have Z:D.heap.size=q:=b.symm;have J:qm (∀j y,j≠1->[(q,70,[Value.int .i64 O.2.2.1,.int .i64 O.2.2.2]),(w.heap.size+1,34,[.int .u64 0,.int .u8 0,.int .i64 0,.int .i64 0,.int .i64 0]),(w.heap.size,23,[.int .i64 E,.int .i64 F])][j]?=qe y->y.1≠w.heap.size+1):=vv (by
  have:=U.o;intro j y V l
  match j,V,l with
  | 0,_,l=>cases l;show q≠w.heap.size+1;omega
  | 2,_,l=>cases l;show w.heap.size≠w.heap.size+1;omega)
 clear x b;have W:=(f.o.get 0 rfl).cell 0;have fl:=(f.o.get 0 rfl).lt;simp only[k04,k08] at W;by_cases hz:O.2.2.1=0
 ·have d:=K.o;rw[if_pos hz] at d;have z:=vv d;have X:(O.2.2.1 != 0)=qh:=by rw[hz];rfl
  clear d hz;have b:=f.o.get 1 rfl;go_wp2_with (first|rw[<- I.o]|with_reducible refine q05 rfl 34 (.tmp 8) (.tmp 34) rfl (w.heap.size+1) [.int .u64 (O.1:Int),.int .u8 (O.2.1:Int),.int .i64 0,.int .i64 (first:Int),.int .i64 (s.size:Int)] rfl rfl 34 _ b (by kernel_rfl) rfl rfl ?_);intro Y c g;have i:=vv (f.o.put 1 rfl J.o (k1r _) c g);clear c g b;go_wp2;have a:=i.o.get 1 rfl;have m:=a.cell 0;have n:=a.cell 1;have p:=a.cell 2;have r:=a.cell 3;have t:=a.cell 4;simp only[k04,k08] at m n p r t;rw[z.o];exact qs (v:=.agg #[.int .u64 (O.1:Int),.int .u8 (O.2.1:Int),.int .i64 0,.int .i64 (first:Int),.int .i64 (s.size:Int)]) (by simp [results,results25,go_sem,m,n,p,r,t]) rfl ⟨rfl,i.o.low⟩
 ·have d:=K.o;rw[if_neg hz] at d;have z:=vv d;have X:(O.2.2.1 != 0)=qj:=by rw[k1N];exact hz
  clear d hz;have b:=f.o.get 1 rfl;go_wp2_with (first|rw[<- I.o]|with_reducible refine q05 rfl 34 (.tmp 8) (.tmp 28) rfl (w.heap.size+1) [.int .u64 0,.int .u8 0,.int .i64 O.2.2.1,.int .i64 (first:Int),.int .i64 (s.size:Int)] rfl rfl 34 _ b (by kernel_rfl) rfl rfl ?_);intro Y c g;have i:=vv (f.o.put 1 rfl J.o (k1r _) c g);clear c g b;go_wp2;have a:=i.o.get 1 rfl;have m:=a.cell 0;have n:=a.cell 1;have p:=a.cell 2;have r:=a.cell 3;have t:=a.cell 4;simp only[k04,k08] at m n p r t;rw[z.o];exact qs (v:=.agg #[.int .u64 0,.int .u8 0,.int .i64 O.2.2.1,.int .i64 (first:Int),.int .i64 (s.size:Int)]) (by simp [results,results25,go_sem,m,n,p,r,t]) rfl ⟨rfl,i.o.low⟩
def qac(sep s:ByteArray)(ended:Bool):List Tk:=if ended then q9W (q1Y++sep) 0 qa (q0h s) else(q1e (q1Y++sep) 0 qa (q0h s)).2
def qcW(sep s:ByteArray)(ended:Bool):Nat:=if ended then 0 else q9r (q1e (q1Y++sep) 0 qa (q0h s)).1
def qeg(E F:Int)(mode:Nat)(sep s:ByteArray)(ended:Bool)(w:qb)(e:Ending)(w':qb):Prop:=
 ∃v,e=.returned (.tuple #[v,.int .i64 (qcW sep s ended:Int)])/\w'.ownsRow w.heap.size 34 5 v (qac sep s ended).length (q0N E F mode (qac sep s ended))/\qg w.heap.size w w'
theorem q71(seps s:ByteArray)(k:Nat)(hk:k<=s.size){L:List Nat}{f:Nat}(h:(q1e seps 0 qa ((q0h s).take k)).1=qe (L,f)):f<k/\txt L=s.extract f k/\L.length=k-f:=by
 obtain⟨b,a⟩:=q69 seps (q0h s) k L f (by rw[q1q];exact hk) h;refine⟨b,?_,?_⟩
 ·rw[a,<- q4Q,q7F]
 ·rw[a,k0l,k0o,q1q];omega
theorem qcb(seps s:ByteArray)(k:Nat)(hk:k<=s.size):(q1e seps 0 qa ((q0h s).take k)).2.length<=s.size:=by have h:=q4b seps ((q0h s).take k) 0 qa;unfold q9W at h;rw[k0n,k0l,q1q] at h;simp only[Option.toList_none,k15] at h;omega
def qe9(E F:Int)(mode:Nat)(seps s:ByteArray)(w:qb)(l f i:qo)(wr:qb):Prop:=
 ∃k:Nat,k<=s.size/\i=.int .i64 (k:Int)/\f=.int .i64 (q24 (q1e seps 0 qa ((q0h s).take k)).1) /\wr.ownsRow (w.heap.size+1) 34 5 l (q1e seps 0 qa ((q0h s).take k)).2.length (q0N E F mode (q1e seps 0 qa ((q0h s).take k)).2) /\Ctx w [(w.heap.size,23,[.int .i64 E,.int .i64 F])] wr
theorem All(E F:Int)(mode:Nat)(sep s:ByteArray)(ended:Bool)(w:qb)(hg:Bg w)(hsz:s.size<=1048576)(hsp:sep.size<=140737488351232):qk qc 15 #[fm E F,.int .u8 (mode:Int),.string sep,.string s,.bool ended] w (qeg E F mode sep s ended w):=by
 obtain⟨i0,hi,b8,b9,c2⟩:=info_parts q6C;obtain⟨seps,a5⟩:=yx (q1Y++sep);have c3:=vv fun c (hc:c<256) w'=>qcR sep c w' hc hsp
 rw[<- a5] at c3;have c4:=vv fun t first w' (h:qg w.heap.size w w')=>qec E F mode t first w' (hg.below h)
 obtain⟨w0,b4⟩:=yx (w.alloc (.cells #[.int .i64 E,.int .i64 F] 23));have hC:Ctx w [(w.heap.size,23,[.int .i64 E,.int .i64 F])] w0:=by rw[b4];exact(Ctx.nil w).new _ _ rfl
 have c5:qm (qe9 E F mode seps s w (.slice qa 0 0) (.int .i64 (-1)) (.int .i64 0) w0):=vv ⟨0,k0f _,rfl,rfl,ql _ _ _ _,hC⟩;have HW:=vv b4;have b5:=vv a5;have d3:(s.size:Int)<=1048576:=by omega
 clear hC b4 hg hsp a5;go_enter func15,ntmps15;go_wp2_with fail;rw[<- HW.o];go_loopw [12,13,14] (fun l f i wr=>qe9 E F mode seps s w l f i wr) (fun _ _ i _=>s.size-(intOf i).toNat)
 case atStart=>exact c5.o
 case round =>
  clear c5;obtain⟨k,hk,rfl,rfl,b3,hC⟩:=hrel;have D:=vv b3;have C:=vv hC;have T:=qcb seps s k hk;obtain⟨tok,a,j⟩:∃tok a,q1e seps 0 qa ((q0h s).take k)=(tok,a):=⟨_,_,rfl⟩;rw[j] at D T ⊢;dsimp only at D T ⊢;have HR:=vv j;have a7:qm (a.length<=1048576):=vv (by omega);clear b3 hC;by_cases hks:k<s.size
  ·have N:k<(q0h s).length:=by rw[q1q];exact hks
   have G:=q9S s k hks;obtain⟨c,hc⟩:∃c,s[k].toNat=c:=⟨_,rfl⟩;have c6:c<256:=by rw[<- hc];exact k1q _
   rw[hc] at G;have d4:((s[k].toNat:Nat):Int)=(c:Int):=by omega
   have W:=vv fun w'=>c3.o c c6 w'
   have H:=vv hks;clear hc c6 T;cases hb:q7v seps c with
   | false =>
    rw[hb] at W;obtain⟨t,U,I⟩:=qav N j (by rw[G];exact hb);cases tok with
    | none =>
     have I:(t.2:Int)=(k:Int):=by rw[I,if_pos (by show(-1:Int)<0;decide)]
     have HN:qm (qe9 E F mode seps s w u12 (.int .i64 (k:Int)) (.int .i64 ((k:Int)+1)) wr):=vv ⟨k+1,H.o,by rw[k0X];rfl,by rw[U];simp only[q24];rw[I],by rw[U];exact D.o,C.o⟩;clear j hb U I N G;simp only[q24];go_wp2_with fail;refine(W.o _).mono ?_;rintro e w' ⟨rfl,rfl⟩;go_wp2;go_roundw
     case rel=>exact HN.o
     case measure=>simp [intOf];have:=H.o;omega
    | some t0 =>
     obtain⟨L,f⟩:=t0;have I:(t.2:Int)=(f:Int):=by rw[I,if_neg (by show ¬((f:Int)<0);omega)];rfl
     have HN:qm (qe9 E F mode seps s w u12 (.int .i64 (f:Int)) (.int .i64 ((k:Int)+1)) wr):=vv ⟨k+1,H.o,by rw[k0X];rfl,by rw[U];simp only[q24];rw[I],by rw[U];exact D.o,C.o⟩;clear j hb U I N G;simp only[q24];go_wp2_with fail;refine(W.o _).mono ?_;rintro e w' ⟨rfl,rfl⟩;go_wp2;go_roundw
     case rel=>exact HN.o
     case measure=>simp [intOf];have:=H.o;omega
   | true =>
    rw[hb] at W;cases tok with
    | none =>
     have X:=qca N j (by rw[G];exact hb);have HN:qm (qe9 E F mode seps s w u12 (.int .i64 (-1)) (.int .i64 ((k:Int)+1)) wr):=vv ⟨k+1,H.o,by rw[k0X];rfl,by rw[X];rfl,by rw[X];exact D.o,C.o⟩;clear j hb X N G;simp only[q24];go_wp2_with fail;refine(W.o _).mono ?_;rintro e w' ⟨rfl,rfl⟩;go_wp2;go_roundw
     case rel=>exact HN.o
     case measure=>simp [intOf];have:=H.o;omega
    | some t0 =>
     obtain⟨L,f⟩:=t0;have X:=q8J N j (by rw[G];exact hb);obtain⟨c7,J,Y⟩:=q71 seps s k hk (L:=L) (f:=f) (by rw[j]);have Z:qm (∀w',qg w.heap.size w w'->qk qc 25 #[fm E F,.int .u8 (mode:Int),.string (s.extract f k),.int .i64 (f:Int)] w' fun e g=>e=.returned (.agg (q1h E F mode L f).toArray)/\qg w'.heap.size w' g):=vv (fun w' h=>by have:=c4.o (s.extract f k) f w' h;rw[<- J,q67] at this;rw[<- J];exact this);have a9:qm (q0N E F mode (a++[(L,f)])=q0N E F mode a++q1h E F mode L f):=vv (q3a E F mode a (L,f));obtain⟨n,p,q,r,u,b0,a3⟩:=q1R E F mode L f;rw[b0] at Z a9;have a8:=vv a3;have c8:=vv X;have c9:(f:Int)<=(k:Int):=by omega
     have d5:(k:Int)<=(s.size:Int):=by omega
     have d0:(0:Int)<=(f:Int):=by omega
     clear j hb X N G b0 a3 J Y;simp only[q24];go_wp2_with fail;refine(W.o _).mono ?_;rintro e w' ⟨rfl,rfl⟩;have x:=(C.o.get 0 rfl).cell 0;have y:=(C.o.get 0 rfl).cell 1;have cl:=(C.o.get 0 rfl).lt;simp only[k04,k08] at x y;go_wp2_with fail;refine q02 (fun w'=>w'.cell? ⟨w.heap.size,0,qa⟩=qe (.int .i64 E)/\w'.cell? ⟨w.heap.size,1,qa⟩=qe (.int .i64 F)) 10
      (.still 0 (.still 1 (.still 2 (.still 3 (.still 4 (.still 5 (.still 6 (.still 7 (.one 8 (.one 9 .done)))))))))) (by kernel_rfl) (by kernel_rfl) (fun _ _ d _ _ h=>by cases d<;>exact h) ⟨x,y⟩ (fun hS0=>?_)
     iterate 8
      refine q01 (v:=?_) rfl (by rfl) ?_ ?_;rotate_left
      ·intro w d1;go_simp;with_reducible rfl
      simp only[Act.put,sa,sb,sc]
     have O:=vv C.o.drew;have a0:=vv (D.o.kept (w':=World.drew wr) (q3l (qr wr qa)) (by cases hv:Value.ownBlock u12<;>simp));obtain⟨wd,b1⟩:=yx (World.drew wr);rw[<- b1] at hS0 O a0 ⊢;clear b1 x y cl;refine q04 rfl (by rfl) (fun K hK=>?_);go_simp;refine(Z.o _ O.o.low).mono ?_;rintro e g ⟨rfl,Q⟩;have m:=vv (O.o.step Q);have a1:=vv (a0.o.kept (q03 Q qa) (by cases hv:Value.ownBlock u12<;>simp));clear Q;have x:=(m.o.get 0 rfl).cell 0;have y:=(m.o.get 0 rfl).cell 1;simp only[k04,k08] at x y;refine hK.out _ _ ⟨x,y⟩ (fun P=>?_);clear hK P hS0;refine q04 rfl (by rfl) (fun K hK=>?_);go_simp;have R:=((m.o.step ((qf _ _).alloc (o:=.cells #[n,p,q,r,u] 34) lr:qg g.heap.size g (g.alloc (.cells #[n,p,q,r,u] 34)))).get 0 rfl).cell 0;have S:=((m.o.step ((qf _ _).alloc (o:=.cells #[n,p,q,r,u] 34) lr:qg g.heap.size g (g.alloc (.cells #[n,p,q,r,u] 34)))).get 0 rfl).cell 1;simp only[k04,k08] at R S;refine hK.out _ _ ⟨R,S⟩ (fun P=>?_);clear hK P R S x y;refine q09 ?_;simp only[k13,k0N];have b2:=a1.o.lt;have b7:=m.o.low.size;go_wp2_with (at_builtin;refine qt _ rfl _ _ 26 rfl (w.heap.size+1) 34 i0 (.agg #[.int .u64 0,.int .u8 0,.int .i64 0,.int .i64 0,.int .i64 0]) 5 40 underlying26 hi b8 b9 c2 rfl (by decide) _ a.length (q0N E F mode a) rfl (a1.o.alloc _) ⟨g.heap.size,0,qa⟩ 1 1 [n,p,q,r,u] rfl rfl (q3v g [n,p,q,r,u] _) a8.o (by unfold maxLen;have:=a7.o;omega) (by have:=a7.o;omega) (by have:=(m.o.get 0 rfl).lt;simp;omega) ?_);intro v' w5 a4 a2 _;have b6:=vv ((m.o.step ((qf _ _).alloc (o:=.cells #[n,p,q,r,u] 34) lr)).row a2 (fun b hb=>by have:=(b2 b hb).1;exact⟨by omega,fun z hz=>by rw[k0i.1 hz];show w.heap.size≠b;omega⟩));have a6:qm (w5.ownsRow (w.heap.size+1) 34 5 v' (a++[(L,f)]).length (q0N E F mode (a++[(L,f)]))):=vv (by rw[a9.o,k0n];exact a4);clear a4 a2 b2;go_wp2;go_roundw
     case rel=>exact⟨k+1,H.o,by go_num,by rw[c8.o];rfl,by rw[c8.o];exact a6.o,b6.o⟩
     case measure=>simp [intOf];have:=H.o;omega
  ·obtain rfl:k=s.size:=by omega
   have V:q1e seps 0 qa (q0h s)=(tok,a):=by have e:(q0h s).take s.size=q0h s:=k0x (by rw[q1q];exact lr);rw[e] at j;exact j
   cases tok with
   | none =>have M:qm (qac sep s ended=a/\qcW sep s ended=0):=vv (by unfold qac qcW q9W;rw[<- b5.o,V];cases ended<;>simp [q9r]);clear j V hks T hk;simp only[q24];go_wp2;go_ret2;unfold qeg;rw[M.o.1,M.o.2];exact⟨_,rfl,q2U D.o (k1r _),C.o.low⟩
   | some t0 =>
    obtain⟨L,f⟩:=t0;obtain⟨c7,J,Y⟩:=q71 seps s s.size lr (L:=L) (f:=f) (by rw[j]);cases ended with
    | false =>
     have M:qm (qac sep s qh=a/\qcW sep s qh=s.size-f):=vv (by unfold qac qcW;rw[<- b5.o,V];exact⟨rfl,Y⟩);have c9:(f:Int)<=(s.size:Int):=by omega
     have d0:(0:Int)<=(f:Int):=by omega
     have d2:=vv c7;clear j V hks T hk J Y;simp only[q24];go_wp2;go_ret2;unfold qeg;rw[M.o.1,M.o.2];exact⟨_,by rw[show((s.size-f:Nat):Int)=(s.size:Int)-(f:Int) by have:=d2.o;omega];rfl,q2U D.o (k1r _),C.o.low⟩
    | true =>
     have M:qm (qac sep s qj=a++[(L,f)]/\qcW sep s qj=0):=vv (by unfold qac qcW q9W;rw[<- b5.o,V];exact⟨rfl,rfl⟩);have Z:qm (∀w',qg w.heap.size w w'->qk qc 25 #[fm E F,.int .u8 (mode:Int),.string (s.extract f s.size),.int .i64 (f:Int)] w' fun e g=>e=.returned (.agg (q1h E F mode L f).toArray)/\qg w'.heap.size w' g):=vv (fun w' h=>by have:=c4.o (s.extract f s.size) f w' h;rw[<- J,q67] at this;rw[<- J];exact this);have a9:qm (q0N E F mode (a++[(L,f)])=q0N E F mode a++q1h E F mode L f):=vv (q3a E F mode a (L,f));obtain⟨n,p,q,r,u,b0,a3⟩:=q1R E F mode L f;rw[b0] at Z a9;have a8:=vv a3;have c9:(f:Int)<=(s.size:Int):=by omega
     have d0:(0:Int)<=(f:Int):=by omega
     clear j V hks T hk J Y b0 a3;simp only[q24];have x:=(C.o.get 0 rfl).cell 0;have y:=(C.o.get 0 rfl).cell 1;have cl:=(C.o.get 0 rfl).lt;simp only[k04,k08] at x y;go_wp2_with fail;refine q02 (fun w'=>w'.cell? ⟨w.heap.size,0,qa⟩=qe (.int .i64 E)/\w'.cell? ⟨w.heap.size,1,qa⟩=qe (.int .i64 F)) 9
      (.still 0 (.still 1 (.still 2 (.still 3 (.still 4 (.still 5 (.still 6 (.one 7 (.one 8 .done))))))))) (by kernel_rfl) (by kernel_rfl) (fun _ _ d _ _ h=>by cases d<;>exact h) ⟨x,y⟩ (fun hS0=>?_)
     iterate 7
      refine q01 (v:=?_) rfl (by rfl) ?_ ?_;rotate_left
      ·intro w d1;go_simp;with_reducible rfl
      simp only[Act.put,sa,sb,sc]
     have O:=vv C.o.drew;have a0:=vv (D.o.kept (w':=World.drew wr) (q3l (qr wr qa)) (by cases hv:Value.ownBlock u12<;>simp));obtain⟨wd,b1⟩:=yx (World.drew wr);rw[<- b1] at hS0 O a0 ⊢;clear b1 x y cl;refine q04 rfl (by rfl) (fun K hK=>?_);go_simp;refine(Z.o _ O.o.low).mono ?_;rintro e g ⟨rfl,Q⟩;have m:=vv (O.o.step Q);have a1:=vv (a0.o.kept (q03 Q qa) (by cases hv:Value.ownBlock u12<;>simp));clear Q;have x:=(m.o.get 0 rfl).cell 0;have y:=(m.o.get 0 rfl).cell 1;simp only[k04,k08] at x y;refine hK.out _ _ ⟨x,y⟩ (fun P=>?_);clear hK P hS0;refine q04 rfl (by rfl) (fun K hK=>?_);go_simp;have R:=((m.o.step ((qf _ _).alloc (o:=.cells #[n,p,q,r,u] 34) lr:qg g.heap.size g (g.alloc (.cells #[n,p,q,r,u] 34)))).get 0 rfl).cell 0;have S:=((m.o.step ((qf _ _).alloc (o:=.cells #[n,p,q,r,u] 34) lr:qg g.heap.size g (g.alloc (.cells #[n,p,q,r,u] 34)))).get 0 rfl).cell 1;simp only[k04,k08] at R S;refine hK.out _ _ ⟨R,S⟩ (fun P=>?_);clear hK P R S x y;refine q09 ?_;simp only[k13,k0N];have b2:=a1.o.lt;have b7:=m.o.low.size;go_wp2_with (at_builtin;refine qt _ rfl _ _ 26 rfl (w.heap.size+1) 34 i0 (.agg #[.int .u64 0,.int .u8 0,.int .i64 0,.int .i64 0,.int .i64 0]) 5 40 underlying26 hi b8 b9 c2 rfl (by decide) _ a.length (q0N E F mode a) rfl (a1.o.alloc _) ⟨g.heap.size,0,qa⟩ 1 1 [n,p,q,r,u] rfl rfl (q3v g [n,p,q,r,u] _) a8.o (by unfold maxLen;have:=a7.o;omega) (by have:=a7.o;omega) (by have:=(m.o.get 0 rfl).lt;simp;omega) ?_);intro v' w5 a4 a2 _;have b6:=vv ((m.o.step ((qf _ _).alloc (o:=.cells #[n,p,q,r,u] 34) lr)).row a2 (fun b hb=>by have:=(b2 b hb).1;exact⟨by omega,fun z hz=>by rw[k0i.1 hz];show w.heap.size≠b;omega⟩));have a6:qm (w5.ownsRow (w.heap.size+1) 34 5 v' (a++[(L,f)]).length (q0N E F mode (a++[(L,f)]))):=vv (by rw[a9.o,k0n];exact a4);clear a4 a2 b2;go_wp2;go_ret2;unfold qeg;rw[M.o.1,M.o.2];exact⟨_,rfl,q2U a6.o (k1r _),b6.o.low⟩
end Dst
namespace Str
open Go Go.RowKit R5 Scn Hx Rdx
def q2R(E F:Int)(mode:Nat)(w:qb)(v:qo)(ts:List Tk):Prop:=
 ∃A c,v=.slice A ts.length c/\(0<ts.length->∃q o,A=qe ⟨q,o,qa⟩/\q<w.heap.size/\∀i (hi:i<ts.length),w.rangeAt q (o+i*5) (q1h E F mode ts[i].1 ts[i].2))
theorem q2R.nil(E F:Int)(mode:Nat)(w:qb):q2R E F mode w (.slice qa 0 0) []:=⟨qa,0,rfl,fun h=>absurd h (by decide)⟩
theorem q2R.below{ts:List Tk}(h:q2R E F mode w v ts)(hB:qg w.heap.size w w'):q2R E F mode w' v ts:=by obtain⟨A,c,b,d⟩:=h;refine⟨A,c,b,fun hp=>?_⟩;obtain⟨q,o,e,a,f⟩:=d hp;exact⟨q,o,e,k03 a hB.size,fun i hi=>q1t hB a (f i hi)⟩
end Str
namespace Dst
open Go Go.RowKit Go.Proofs.YtokgagenofjmgaaGreatDoor R5 Scn Hx Rdx Str
def qfP(E F:Int)(mode:Nat)(sep S:ByteArray)(qdc:Nat)(ended:Bool):List qo:=
 [.int .i64 E,.int .i64 F,.int .u8 (mode:Int),.string sep,.string S,.int .i64 (qdc:Int),.bool ended]
structure DrdC(w:qb)(g:Nat)(E F:Int)(mode:Nat)(sep S:ByteArray)(qdc:Nat)(ended:Bool):Prop where
 c0:w.cell? ⟨g,0,qa⟩=qe (.int .i64 E)
 c1:w.cell? ⟨g,1,qa⟩=qe (.int .i64 F)
 c2:w.cell? ⟨g,2,qa⟩=qe (.int .u8 (mode:Int))
 c3:w.cell? ⟨g,3,qa⟩=qe (.string sep)
 c4:w.cell? ⟨g,4,qa⟩=qe (.string S)
 c5:w.cell? ⟨g,5,qa⟩=qe (.int .i64 (qdc:Int))
 c6:w.cell? ⟨g,6,qa⟩=qe (.bool ended)
theorem q2R.other{ts:List Tk}{t:TypeId}{cs:List qo}(h:q2R E F mode w v ts)(hb:Blk w g t cs)(hcs:cs.all (fun v=>match v with|.int .u64 _=>qh|_=>qj)=qj)(hg:w.grownBy w' (qe g)):q2R E F mode w' v ts:=by
 obtain⟨A,c,m,n⟩:=h;refine⟨A,c,m,fun hp=>?_⟩;obtain⟨q,o,e,a,b⟩:=n hp;have k:q≠g:=by rintro rfl;obtain⟨r,s,x,l⟩:=q2k E F mode ts[0].1 ts[0].2;have d:=b 0 hp;rw[l] at d;have f:w.cell? ⟨q,o+0*5+0,qa⟩=qe (.int .u64 r):=d 0 _ rfl;rw[hb.cell] at f;have:=k1C.1 hcs _ (k2F f);simp at this
 exact⟨q,o,e,k03 a hg.size,fun i hi j u hu=>(q0u hg (p:=⟨q,o+i*5+j,qa⟩) a k).trans (b i hi j u hu)⟩
theorem Items(E F:Int)(mode:Nat)(sep s:ByteArray)(w:qb)(hg:Bg w)(hs:s.size<=1048576)(hsp:sep.size<=140737488351232):qk qc 6 #[fm E F,.int .u8 (mode:Int),.string sep,.string s] w fun e w'=>∃v,e=.returned v/\w'.ownsRow w.heap.size 34 5 v (q1n E F mode sep s).length (q0N E F mode (q1n E F mode sep s))/\qg w.heap.size w w':=by
 have i:=vv fun W=>qeG E F mode sep W hsp
 have r:=vv fun W (hW:qg w.heap.size w W)=>All E F mode sep s qj W (hg.below hW) hs hsp
 obtain⟨t,j⟩:=yx (w.alloc (.cells #[.int .i64 E,.int .i64 F] 23));have g:Ctx w [(w.heap.size,23,[.int .i64 E,.int .i64 F])] t:=by rw[j];exact(Ctx.nil w).new _ _ rfl
 have d:=(g.get 0 rfl).cell 0;have f:=(g.get 0 rfl).cell 1;have h:=(g.get 0 rfl).lt;simp only[k04,k08] at d f;have n:=vv g;have p:=vv j;obtain⟨N,m⟩:=yx (q0Z E F mode sep);rw[<- m] at i;have q:=vv m;clear g j hsp hs hg m;by_cases h0:N=0
 ·subst h0;have k:qm (q1n E F mode sep s=qac sep s qj):=vv (by unfold q1n qac;rw[if_pos q.o.symm];rfl);go_enter func6,ntmps6;go_wp2_with fail;rw[<- p.o];go_wp2_with fail;refine(i.o _).mono ?_;rintro e u ⟨rfl,b⟩;have a:=vv (n.o.step b);clear b d f h;have d:=(a.o.get 0 rfl).cell 0;have f:=(a.o.get 0 rfl).cell 1;have h:=(a.o.get 0 rfl).lt;simp only[k04,k08] at d f;go_wp2_with fail;refine(r.o _ a.o.low).mono ?_;rintro e z ⟨v,rfl,l,b⟩;have x:=vv (a.o.low.trans (b.mono a.o.low.size));have y:=vv (q2U l a.o.low.size);obtain⟨A,c,rfl⟩:=q3o l;clear b l d f h;go_wp2;go_ret;rw[k.o];exact⟨_,rfl,y.o,x.o⟩
 ·have C:((N:Int) != 0)=qj:=by rw[k1N];omega
  have k:qm (q1n E F mode sep s=[]):=vv (by unfold q1n;rw[if_neg (by rw[<- q.o];exact h0)]);clear h0;go_enter func6,ntmps6;go_wp2_with fail;rw[<- p.o];go_wp2_with fail;refine(i.o _).mono ?_;rintro e u ⟨rfl,b⟩;have a:=vv (n.o.step b);clear b d f h;go_wp2;go_ret;rw[k.o];exact⟨_,rfl,ql _ _ _ _,a.o.low⟩
end Dst
end Go.Proofs.YtokgagenofjmgaaGreatDoor
