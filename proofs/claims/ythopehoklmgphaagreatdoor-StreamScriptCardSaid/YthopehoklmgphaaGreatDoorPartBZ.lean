/- Lemmas. -/
import Derived.Test.YthopehoklmgphaaGreatDoorPartBY
import Derived.RangeFuncBound
import Derived.Test.YthopehoklmgphaaGreatDoorPartAO
set_option linter.all false
set_option maxHeartbeats 8000000
set_option maxRecDepth 100000
open Go.Proofs.Tryz
open Option renaming none->qa,some->qd
open Go.Proofs.Tryz renaming prog->qb
open Go renaming World->qc,RowKit.Below.refl->qf,Calls->qi,World.ownsRow_nil->qj,World.grownBy.refl->ql,Value->qm,Addr->qn,callsIn_wide->qo,World.size_alloc->qp,callsIn_of_wp_marks->qr,bodyPost_ret->qs,wpList_append_own->qt
open Decidable renaming decide->qe
open Go.RowKit renaming Below->qg,Hid->qq
open Bool renaming false->qh,true->qk
namespace Go.Proofs.YthopehoklmgphaaGreatDoor
variable{w w' w00 W:qc}{M N:Nat->Prop}{mode a b c d g n i base:Nat}{E F:Int}{sep seps S:ByteArray}{p q p2 q2:Option qn}{v:qm}{bs:List Nat}
namespace Str
open Go Go.RowKit R5 Scn Hx Rdx
theorem run(g:Nat)(s:ByteArray)(w:qc):qi qb 24 #[.pointer (qd ⟨g,0,qa⟩),.string s] w fun e w' =>
  e=.returned (.func (.func 32) #[] #[.pointer (qd ⟨w.heap.size+1,0,qa⟩),.pointer (qd ⟨w.heap.size,0,qa⟩)]) /\w'=(w.alloc (.cells #[.pointer (qd ⟨g,0,qa⟩)] 26)).alloc (.cells #[.string s] 9):=by
 go_enter func24,ntmps24;go_wp2;go_ret;exact⟨rfl,rfl⟩
theorem qan(M:Nat->Prop)(w00:qc)(hg0:Bg w00)(ht0:qfF w00)(g S R mode a0:Nat)(E F:Int)(seps s:ByteArray)(tk0:Option Tk)
  (hsz:s.size<=140737488351232) (ha:a0+s.size<=140737488351232) (hM0:∀k,M k->w00.heap.size<=k) (hMS:∀k,S<k->g<k->M k) (w:qc) (hw:qg w00.heap.size w00 w)
  (hS:Blk w S 9 [.string s]) (hR:Blk w R 26 [.pointer (qd ⟨g,0,qa⟩)]) (hr:RdQ w M g E F mode seps a0 tk0) :
  qeK qb 32 #[.pointer (qd ⟨S,0,qa⟩),.pointer (qd ⟨R,0,qa⟩)] (fun t:Tk=>#[.agg (q1i E F mode t.1 t.2).toArray]) (fun _=>Kq M) (Kb w00.heap.size)
   (fun xs=>xs <+: (q10 seps a0 tk0 (q0f s)).2) (fun xs=>xs <+: (q10 seps a0 tk0 (q0f s)).2)
   (fun xs B=>xs=(q10 seps a0 tk0 (q0f s)).2/\RdQ B M g E F mode seps (a0+s.size) (q10 seps a0 tk0 (q0f s)).1/\qg w00.heap.size w00 B) w:=by
 intro l J f W d h _ i j;refine(qe9 M w00 hg0 ht0 g S R l mode a0 E F seps s tk0 J f hsz ha hM0 hMS h (fun pre t A hA hp=>(i pre t A hA hp).mono ?_) W (hw.trans (d.mono hw.size)) (hS.below d) (hR.below d) (hr.below d) j).mono ?_
 ·rintro e B (⟨b,a,c,-⟩|⟨b,a,-⟩)
  ·exact .inl ⟨b,a,c⟩
  ·exact .inr ⟨b,a⟩
 ·rintro e B ⟨b,⟨a,c,m⟩|⟨pre,a,c⟩⟩
  ·exact⟨b,.inl ⟨_,⟨rfl,c,m⟩,a⟩⟩
  ·exact⟨b,.inr ⟨pre,a,c⟩⟩
def q53(w:qc)(M:Nat->Prop)(E F:Int)(mode:Nat)(pre:List Tk)(W:qc):Prop:=
 Kq M w W/\∃v,Blk W w.heap.size 42 [v]/\W.ownsRow w.heap.size 48 5 v pre.length (q0v E F mode pre)
theorem q83{B:Nat}(hB:w.heap.size<=B):OwnFrom B (q53 w M E F mode):=by
 rintro pre A C row ⟨b,v,f,g⟩ a h;have d:∀(k:Nat) (i:Array qm) (t:TypeId),A.heap[k]?=qd (.cells i t (0,0))->row≠qd k:=by rintro k i t c rfl;obtain⟨-,o,j,l⟩:=h k rfl;rw[c] at j;cases j;cases l
 refine⟨⟨a.os.trans b.os,a.tape.trans b.tape,a.output.trans b.output,k06 b.size a.size,fun k c=>?_⟩,v,f.grown a (d _ _ _ f),g.kept a ?_⟩
 ·rw[a.block k (k01 c b.size) (fun e=>by have:=(h k e.symm).1;omega)];exact b.block k c
 ·rcases g.2 with ⟨rfl,-⟩|⟨q,cap,n,rfl,-,m,-⟩
  ·exact .inl rfl
  ·exact .inr (fun e=>d _ _ _ m e.symm)
theorem q64(pre:List Tk)(A C:qc)(h:q53 w M E F mode pre A)(hk:Kq M A C):q53 w M E F mode pre C:=by obtain⟨a,v,b,c⟩:=h;exact⟨a.trans hk,v,hk.blk b (by unfold RT;decide),hk.row c (by unfold RT;decide)⟩
attribute [local go_sem] Oper.semAt_some q3P q24 q23
theorem qdR(M:Nat->Prop)(w00:qc)(hg0:Bg w00)(ht0:qfF w00)(g mode a0:Nat)(E F:Int)(seps s:ByteArray)(tk0:Option Tk)
  (hsz:s.size<=1099511627776) (ha:a0+s.size<=140737488351232) (hM0:∀k,M k->w00.heap.size<=k) (w:qc) (hMn:∀k,w.heap.size<=k->M k) (hw:qg w00.heap.size w00 w) (hr:RdQ w M g E F mode seps a0 tk0) :
  qi qb 13 #[.pointer (qd ⟨g,0,qa⟩),.string s] w fun e w'=>∃v,e=.returned (.tuple #[v,.int .i64 0]) /\w'.ownsRow w.heap.size 48 5 v (q10 seps a0 tk0 (q0f s)).2.length (q0v E F mode (q10 seps a0 tk0 (q0f s)).2) /\RdQ w' M g E F mode seps (a0+s.size) (q10 seps a0 tk0 (q0f s)).1/\Kq M w w':=by
 obtain⟨i0,hi,c3,c4,c5⟩:=info_parts q6x;obtain⟨T,a4,a7⟩:=hr.blk;have HT:=vv (there g E F mode seps a0 T qh w a4);clear a4 a7 T;obtain⟨a,m⟩:=yx (w.alloc (.cells #[.slice qa 0 0] 42));obtain⟨d,i⟩:=yx ((a.alloc (.cells #[.pointer (qd ⟨g,0,qa⟩)] 26)).alloc (.cells #[.string s] 9));have p:a.heap.size=w.heap.size+1:=by rw[m];simp
 have b3:d.heap.size=w.heap.size+3:=by rw[i];simp [p]
 have P:qg a.heap.size a d:=by rw[i];exact((qf _ a).alloc lr _).alloc (by simp) _
 have C:qg w.heap.size w d:=((qf _ w).alloc lr _:qg w.heap.size w (w.alloc (.cells #[.slice qa 0 0] 42))).trans (by rw[<- m];exact P.mono (by omega));have b:Blk d w.heap.size 42 [.slice qa 0 0]:=(show Blk a w.heap.size _ _ by rw[m];exact Blk.made w _ [.slice qa 0 0]).below P;have u:Blk d (w.heap.size+1) 26 [.pointer (qd ⟨g,0,qa⟩)]:=by rw[i,<- p];exact(Blk.made a _ [.pointer (qd ⟨g,0,qa⟩)]).alloc _
 have H:Blk d (w.heap.size+1+1) 9 [.string s]:=by have e:=Blk.made (a.alloc (.cells #[.pointer (qd ⟨g,0,qa⟩)] 26)) 9 [.string s];rw[qp,p] at e;rw[i];exact e
 have Q:=qan M w00 hg0 ht0 g (w.heap.size+1+1) (w.heap.size+1) mode a0 E F seps s tk0 (by omega) ha hM0 (fun k hk _=>hMn k (by omega)) d (hw.trans (C.mono hw.size)) H u (hr.below C);have c6:qq (q53 w M E F mode [] d):=vv ⟨Kq.below C,_,b,qj _ _ _ _⟩;have a5:=vv (run g s a);rw[<- i] at a5;obtain⟨X,V⟩:=yx (q10 seps a0 tk0 (q0f s));have b4:X.2.length<=1099511627776:=by rw[V];exact k06 (q5c _ _ _ _) (by rw[q11];exact hsz)
 rw[<- V] at Q ⊢;have a8:=vv Q;have y:=vv (And.intro p b3);have c7:=vv m;have G:=vv (And.intro hw.size True.intro);have HX:=vv b4;clear V b4 Q m i p b3 P C b u H hr ha hsz hg0 ht0 hw hM0 hMn;refine(qo (n:=0)).1 ?_;refine qr func13 rfl trivial ?_ rfl;simp only[ntmps13,k21,k19,k1p,Nat.reduceAdd,Nat.reduceSub,Array.replicate_succ,Array.replicate_zero,List.push_toArray,List.append_toArray,k26,k2x]
 gi_wp2_with fail
 refine(qo.2 HT.o).mono ?_;rintro e w' ⟨rfl,rfl⟩
 gi_wp2_with fail
 rw[<- c7.o];refine(qo.2 a5.o).mono ?_;rintro e w' ⟨rfl,rfl⟩
 gi_wp2_with fail
 rw[y.o.1];refine q3N (gf:=32) (lb:=#[.pointer (qd ⟨w.heap.size+1+1,0,qa⟩),.pointer (qd ⟨w.heap.size+1,0,qa⟩)]) rfl (enters_of func32 (by kernel_rfl) rfl) a8.o
  (fun h k=>h.trans k) (fun W l o o' hl h ho=>Kb.put o' h ho (by have:=y.o.2;have:=G.o.1;omega)) (fun A B k o h _ hk ho=>h.non hk ho)
  (fun xs W l o o' h hl hk ho=>⟨h.1,h.2.1.put o' hk ho,h.2.2.trans (q4t o' hk (by have:=y.o.2;have:=G.o.1;omega))⟩) (fun _=>rfl)
  (q53 w M E F mode) (fun _ _ _=>False) (q83 (by have:=y.o.2;omega)) q64 (fun c s A B row h=>h.elim) (fun c s A B h=>h.elim) c6.o ?_ ?_ ?_
 ·
  intro l pre x A Y b5;obtain⟨I,J,K,L,N,b6,R⟩:=q2J E F mode x.1 x.2;dsimp only;rw[b6];obtain⟨f,v,b,q⟩:=Y;have a6:pre.length+1<=1099511627776:=by
   have:=b5.length_le;rw[k0p] at this;have:=HX.o;simp at *
   omega
  have hz:Blk (A.alloc (.cells #[.int .u64 0,.int .u8 0,.int .i64 0,.int .i64 0,.int .i64 0] 48)) A.heap.size 48 [.int .u64 0,.int .u8 0,.int .i64 0,.int .i64 0,.int .i64 0]:=Blk.made A _ [.int .u64 0,.int .u8 0,.int .i64 0,.int .i64 0,.int .i64 0];have a9:[I,J,K,L,N].all (·.oneCell')=qk:=k1W.2 R;have Z:=vv (And.intro f (And.intro b q));have b0:=vv R;have b7:=vv a6;clear f b q R a6 b5
  gi_wp2_with (with_reducible refine q32 rfl 48 (.tmp 8) (.tmp 17) rfl A.heap.size [I,J,K,L,N] rfl rfl 48 _ hz (by kernel_rfl) rfl a9 ?_)
  intro A2 b8 b9;have c0:qg A.heap.size A A2:=((qf _ A).alloc lr _).grown b9 (by simp) (fun k e=>by cases e;exact lr);have c8:=vv b8;have S:=vv c0;clear b8 b9 c0 hz
  gi_wp2
  refine⟨q6v S.o,qaO (k06 G.o.1 Z.o.1.size) S.o,q64 pre A A2 ⟨Z.o.1,v,Z.o.2⟩ (Kq.below S.o),?_⟩;intro B c9 a1;obtain⟨c1,v',r,a2⟩:=c9;have d0:=a1.blk c8.o;have z:=r.cell 0;have f0:=r.fz 0;have sl:=r.lt;simp only[k07] at z;have j:=vv (And.intro c1 (And.intro r a2));clear c1 r a2 a1
  gi_wp2_with (first
   | with_reducible refine q3j rfl 48 (.tmp 8) rfl A.heap.size rfl 48 _ _ d0 underlying48 rfl (by kernel_rfl) ?_
   | (gi_at_builtin;refine wpListIn_append_own _ rfl _ _ 42 rfl w.heap.size 48 i0 (.agg #[.int .u64 0,.int .u8 0,.int .i64 0,.int .i64 0,.int .i64 0]) 5 40 underlying42 hi c3 c4 c5 rfl (by decide) _ pre.length (q0v E F mode pre) rfl (j.o.2.2.alloc _) ⟨B.heap.size,0,qa⟩ 1 1 [I,J,K,L,N] rfl rfl (q3h B [I,J,K,L,N] _) b0.o (by have:=b7.o;unfold maxLen;omega) (by have:=b7.o;omega) (by have:=j.o.1.size;simp;omega) ?_))
  intro v2 B3 U a3 _;obtain⟨O,k2,k3,k4,k5,k6⟩:=qc5 (lo:=w.heap.size) j.o.1.size lr j.o.2.1 j.o.2.2 (by decide) U a3;have HE:qq (ownPostG w'.heap.size (Kb w00.heap.size) (q53 w M E F mode) (fun _ _ _=>False) (pre++[x]) B .normal {tmps:=#[],defers:=[]} (B3.setCell ⟨w.heap.size,0,qa⟩ v2)):=vv (by refine⟨k4.from _,⟨k5.mono G.o.1,k4.size,fun k cs t hk ht=>k6 k cs t hk (fun e=>qbp.1 (e ▸ ht)) (fun e=>qbp.2 (e ▸ ht))⟩,j.o.1.far k5,v2,k2,?_⟩;rw[q2W,b6,k0p];exact k3);have z:=O.cell 0;have f0:=O.fz 0;have sl:=O.lt;simp only[k07] at z;obtain⟨q2,d2,rfl⟩:=ownsRow_succ U;clear O k2 k3 k4 k5 k6 U a3
  gi_wp2
  exact HE.o
 ·
  intro D xs W hD H Y f;obtain⟨rfl,u,b1⟩:=H;obtain⟨c2,v,b,q⟩:=Y;have z:=b.cell 0;have sl:=b.lt;simp only[k07] at z;have HR:=vv u;have b2:=vv q;have d1:=vv c2;have HD:=vv hD;clear u b1 c2 b q hD
  gi_wp2
  refine⟨by simp,.inl ⟨_,_,rfl,run_takeDeferred f,?_⟩⟩;refine⟨_,results_tmp2 rfl _ _ _,v,rfl,qc3 _ b2.o f rfl,HR.o.put _ f rfl,?_⟩;exact d1.o.far (q4t _ f (by have:=HD.o;have:=y.o.2;omega))
 ·intro D c pre W hD hp h;exact h.elim
theorem Feed(w00:qc)(hg0:Bg w00)(ht0:qfF w00)(g mode a0:Nat)(E F:Int)(seps s:ByteArray)(tk0:Option Tk)
  (hsz:s.size<=1099511627776) (ha:a0+s.size<=140737488351232) (hge:w00.heap.size<=g) (w:qc) (hw:qg w00.heap.size w00 w) (hr:Rdr w g E F mode seps a0 tk0) :
  qi qb 13 #[.pointer (qd ⟨g,0,qa⟩),.string s] w fun e w'=>∃v,e=.returned (.tuple #[v,.int .i64 0]) /\w'.ownsRow w.heap.size 48 5 v (q10 seps a0 tk0 (q0f s)).2.length (q0v E F mode (q10 seps a0 tk0 (q0f s)).2) /\Rdr w' g E F mode seps (a0+s.size) (q10 seps a0 tk0 (q0f s)).1/\Kw g w w':=by
 obtain⟨T,a,-⟩:=hr.blk;refine(qdR (fun k=>g<=k) w00 hg0 ht0 g mode a0 E F seps s tk0 hsz ha (fun k hk=>k06 hge hk) w (fun k hk=>k06 (k1j a.lt) hk) hw hr.toQ).mono ?_;rintro e w' ⟨v,rfl,b,c,d⟩;exact⟨v,rfl,b,c.toR,d.toW⟩
def q8g(w:qc)(g:Nat)(E F:Int)(mode:Nat)(seps:ByteArray)(a:Nat):Prop:=Blk w g 35 (q3q E F mode seps a qa qk qk)
theorem End_(w00:qc)(hg0:Bg w00)(ht0:qfF w00)(g mode a:Nat)(E F:Int)(seps:ByteArray)(tk:Option Tk)(hge:w00.heap.size<=g)(w:qc)(hw:qg w00.heap.size w00 w)(hr:Rdr w g E F mode seps a tk):qi qb 14 #[.pointer (qd ⟨g,0,qa⟩)] w fun e w'=>∃v,e=.returned (.tuple #[v,.int .i64 0])/\w'.ownsRow w.heap.size 48 5 v tk.toList.length (q0v E F mode tk.toList) /\q8g w' g E F mode seps a/\Kw g w w':=by
 obtain⟨⟨T,c,d⟩,-⟩:=hr
 match tk,d with
 | none,d =>obtain rfl:T=qa:=d;refine(q7u g E F mode seps a w c).mono ?_;rintro e w' ⟨rfl,h,i⟩;exact⟨_,rfl,qj _ _ _ _,h,Kw.grown i lr c (.inl rfl)⟩
 | some (L,f),⟨b,v,h,i,h3,h4,h5,h6⟩ =>
  subst h;refine(q7t w00 hg0 ht0 g b g a f mode E F seps L v w hw hge c h3 h4 h6).mono ?_;rintro e w' ⟨j,rfl,k,l,m⟩;refine⟨j,rfl,?_,l,Kw.grown m lr c (.inl rfl)⟩
  simpa [q0v] using k
structure Caught(w:qc)(a b c d:Nat)(E F:Int)(mode:Nat)(sep s:ByteArray):Prop where
 form:Blk w a 23 [.int .i64 E,.int .i64 F]
 mode:Blk w b 5 [.int .u8 (mode:Int)]
 sep:Blk w c 9 [.string sep]
 body:Blk w d 9 [.string s]
theorem Caught.below{s:ByteArray}(h:Caught w a b c d E F mode sep s)(hb:qg w.heap.size w w'):Caught w' a b c d E F mode sep s:=⟨h.form.below hb,h.mode.below hb,h.sep.below hb,h.body.below hb⟩
def qd4(E F:Int)(mode:Nat)(sep s:ByteArray):List Tk:=if q0R E F mode sep=0 then q8c (q0S++sep) 0 qa (q0f s) else[]
theorem qfm(M:Nat->Prop)(w00:qc)(hg0:Bg w00)(ht0:qfF w00)(g mode a:Nat)(E F:Int)(seps:ByteArray)(tk:Option Tk)(hM0:∀k,M k->w00.heap.size<=k)(w:qc)(hw:qg w00.heap.size w00 w)(hr:RdQ w M g E F mode seps a tk):qi qb 14 #[.pointer (qd ⟨g,0,qa⟩)] w fun e w'=>∃v,e=.returned (.tuple #[v,.int .i64 0])/\w'.ownsRow w.heap.size 48 5 v tk.toList.length (q0v E F mode tk.toList) /\q8g w' g E F mode seps a/\Kq M w w':=by
 obtain⟨⟨T,c,d⟩,h,-⟩:=hr
 match tk,d with
 | none,d =>obtain rfl:T=qa:=d;refine(q7u g E F mode seps a w c).mono ?_;rintro e w' ⟨rfl,i,j⟩;exact⟨_,rfl,qj _ _ _ _,i,Kq.grown j h c (.inl rfl)⟩
 | some (L,f),⟨b,v,i,j,h3,h4,h7,h5,h6⟩ =>
  subst i;refine(q7t w00 hg0 ht0 g b 0 a f mode E F seps L v w hw (hM0 g h) c h3 h4 h6).mono ?_;rintro e w' ⟨l,rfl,m,n,o⟩;refine⟨l,rfl,?_,n,Kq.grown o h c (.inl rfl)⟩
  simpa [q0v] using m
def qa5(w:qc)(p:Option qn)(c a:Nat):Prop:=
 (p=qa/\c=1/\a=0)\/∃g E F mode seps ended made,p=qd ⟨g,0,qa⟩/\Blk w g 35 (q3q E F mode seps a qa ended made)/\((made=qh/\c=1)\/(made=qk/\ended=qk/\c=240))
theorem qa5.code(h:qa5 w p c a):c=1\/c=240:=by
 rcases h with ⟨-,h,-⟩|⟨_,_,_,_,_,_,_,-,-,⟨-,h⟩|⟨-,-,h⟩⟩
 ·exact .inl h
 ·exact .inl h
 ·exact .inr h
theorem q4L(h:qa5 w p c a):qi qb 23 #[.pointer p] w fun e w'=>e=.returned (.int .i64 (c:Int))/\w=w':=by
 rcases h with ⟨rfl,rfl,-⟩|⟨g,E,F,mode,seps,ended,made,rfl,b,⟨rfl,rfl⟩|⟨rfl,rfl,rfl⟩⟩
 ·go_enter func23,ntmps23;go_wp2;go_ret;exact⟨rfl,rfl⟩
 ·have n:=b.lt;obtain⟨d,f,i,j,k,l,m,o⟩:=q4D b;clear b d f i j k l m;go_enter func23,ntmps23;go_wp2;go_ret;exact⟨rfl,rfl⟩
 ·exact(there g E F mode seps a qa qk w b).mono fun e w' h=>h
theorem qcY(h:qa5 w p c a):qi qb 8 #[.pointer p] w fun e w'=>e=.returned (.int .i64 (a:Int))/\w=w':=by
 rcases h with ⟨rfl,-,rfl⟩|⟨g,E,F,mode,seps,ended,made,rfl,b,-⟩
 ·go_enter func8,ntmps8;go_wp2;go_ret;exact⟨rfl,rfl⟩
 ·have n:=b.lt;obtain⟨d,f,i,j,o,k,l,m⟩:=q4D b;clear b d f i j k l m;go_enter func8,ntmps8;go_wp2;go_ret;exact⟨rfl,rfl⟩
theorem q9X(h:qa5 w p c a):qi qb 10 #[.pointer p] w fun e w'=>e=.returned (.int .i64 0)/\w=w':=by
 rcases h with ⟨rfl,-,rfl⟩|⟨g,E,F,mode,seps,ended,made,rfl,b,-⟩
 ·go_enter func10,ntmps10;go_wp2;go_ret;exact⟨rfl,rfl⟩
 ·have n:=b.lt;obtain⟨d,f,i,j,k,o,l,m⟩:=q4D b;clear b d f i j k l m;go_enter func10,ntmps10;go_wp2;go_ret;exact⟨rfl,rfl⟩
theorem q7v(h:qa5 w p c a):qi qb 14 #[.pointer p] w fun e w'=>e=.returned (.tuple #[.slice qa 0 0,.int .i64 (c:Int)])/\w=w':=by
 have b:=vv (q4L h);have d:((c:Int) != 0)=qk:=by rw[k1r];rcases h.code with rfl|rfl<;>decide
 clear h;go_enter func14,ntmps14;go_wp2_with fail;refine b.o.mono ?_;rintro e w' ⟨rfl,rfl⟩;go_wp2;go_ret2;exact⟨rfl,rfl⟩
attribute [local go_sem] Oper.semAt_some q3P q24 q23
theorem q6c(h:qa5 w p c a)(s:ByteArray):qi qb 13 #[.pointer p,.string s] w fun e w'=>e=.returned (.tuple #[.slice qa 0 0,.int .i64 (c:Int)])/\w=w':=by
 have b:=vv (q4L h);have d:((c:Int) != 0)=qk:=by rw[k1r];rcases h.code with rfl|rfl<;>decide
 clear h;refine(qo (n:=0)).1 ?_;refine qr func13 rfl trivial ?_ rfl;simp only[ntmps13,k21,k19,k1p,Nat.reduceAdd,Nat.reduceSub,Array.replicate_succ,Array.replicate_zero,List.push_toArray,List.append_toArray,k26,k2x]
 gi_wp2_with fail
 refine(qo.2 b.o).mono ?_;rintro e w' ⟨rfl,rfl⟩
 gi_wp2
 exact⟨_,results_tmp2 rfl _ _ _,rfl,rfl⟩
theorem q4H(s:ByteArray)(a b:Nat):q0f (s.extract a b)=((q0f s).drop a).take (b-a):=by unfold q0f;rw[q7L,<- List.map_drop,<- List.map_take,List.drop_take]
structure Ints(w:qc)(A:Option qn)(n:Nat)(C:Nat->Int):Prop where
 at_:0<n->∃b o,A=qd ⟨b,o,qa⟩/\b<w.heap.size/\∀i,i<n->w.cell? ⟨b,o+i,qa⟩=qd (.int .i64 (C i))
 lo:∀i,i<n->-9223372036854775808<=C i
 hi:∀i,i<n->C i<=9223372036854775807
theorem Rdr.says{tk:Option Tk}(h:Rdr w g E F mode seps a tk):qi qb 8 #[.pointer (qd ⟨g,0,qa⟩)] w (fun e w'=>e=.returned (.int .i64 (a:Int))/\w=w') /\∃h:Nat,h<=a/\qi qb 10 #[.pointer (qd ⟨g,0,qa⟩)] w fun e w'=>e=.returned (.int .i64 (h:Int))/\w=w':=by
 obtain⟨⟨T,b,d⟩,c⟩:=h;refine⟨At g E F mode seps a T qh w b,q80 tk,?_,Held g g E F mode seps a T qh tk w b d⟩;cases tk with
 | none=>exact k0d _
 | some t =>have:=(c t rfl).2.1;show t.1.length<=a;omega
theorem q8g.says(h:q8g w g E F mode seps a):qi qb 8 #[.pointer (qd ⟨g,0,qa⟩)] w (fun e w'=>e=.returned (.int .i64 (a:Int))/\w=w') /\qi qb 10 #[.pointer (qd ⟨g,0,qa⟩)] w fun e w'=>e=.returned (.int .i64 0)/\w=w':=⟨At g E F mode seps a qa qk w h,Held g g E F mode seps a qa qk qa w h rfl⟩
def qfC(w:qc)(g:Nat)(E F:Int)(mode:Nat)(seps s:ByteArray)(n:Nat)(all at_ i:qm)(wr:qc):Prop:=
 ∃k j:Nat,k<=s.size/\(j<=n\/(j=n+1/\k=s.size))/\at_=.int .i64 (k:Int)/\i=.int .i64 (j:Int) /\wr.ownsRow w.heap.size 48 5 all (q10 seps 0 qa ((q0f s).take k)).2.length (q0v E F mode (q10 seps 0 qa ((q0f s).take k)).2) /\Rdr wr g E F mode seps k (q10 seps 0 qa ((q0f s).take k)).1/\qg w.heap.size w wr
def qfB(E F:Int)(mode:Nat)(sep s:ByteArray)(w:qc)(e:Ending)(w':qc):Prop:=
 ∃v n,e=.returned (.tuple #[v,.bool (qe (q0R E F mode sep=0))])/\w'.ownsRow w.heap.size 48 5 v n (q0v E F mode (qd4 E F mode sep s))/\qg w.heap.size w w'
theorem q9N(s:ByteArray)(k:Nat)(hk:k<s.size):(q0f s)[k]'(by rw[q11];exact hk)=s[k].toNat:=by unfold q0f;simp only[List.getElem_map];rfl
theorem q7z(s:ByteArray):txt (q0f s)=s:=by
 unfold txt q0f;rw[List.map_map];have:(UInt8.ofNat ∘ fun(x:UInt8)=>x.toNat)=id:=by funext x;simp
 rw[this,List.map_id]
theorem q5e{b' k:Nat}{e:TypeId}{xs:List qm}(h:w.ownsRow b e k v n xs)(hb:b'<=b):w.ownsRow b' e k v n xs:=by refine⟨h.1,h.2.imp id ?_⟩;rintro⟨q,cap,a,c,d,f⟩;exact⟨q,cap,a,c,k06 hb d,f⟩
theorem Ints.below{A:Option qn}{C:Nat->Int}(h:Ints w A n C)(hb:qg w.heap.size w w'):Ints w' A n C:=⟨fun hn=>by obtain⟨b,o,h1,h2,h3⟩:=h.at_ hn;exact⟨b,o,h1,k01 h2 hb.size,fun i hi=>(hb.cell (p:=⟨b,o+i,qa⟩) h2).trans (h3 i hi)⟩,h.lo,h.hi⟩
theorem Ints.nil(w:qc):Ints w qa 0 (fun _=>0):=⟨fun h=>by omega,fun i h=>by omega,fun i h=>by omega⟩
theorem q3F(seps:ByteArray)(bs:List Nat)(i:Nat)(hi:i<bs.length):q10 seps 0 qa (bs.take (i+1))=((q1e seps i (q10 seps 0 qa (bs.take i)).1 bs[i]).1,(q10 seps 0 qa (bs.take i)).2++(q1e seps i (q10 seps 0 qa (bs.take i)).1 bs[i]).2):=by rw[k0E hi,q5O,k0l,k13,k0K (by omega)]
theorem q61(seps:ByteArray)(bs:List Nat):∀i L f,i<=bs.length->(q10 seps 0 qa (bs.take i)).1=qd (L,f)->f<i/\L=(bs.drop f).take (i-f)
 | 0,L,f,_,h=>by simp [q10] at h
 | i+1,L,f,hi,h=>by
  rw[q3F seps bs i (by omega)] at h;simp only[q1e] at h;by_cases hb:q7m seps bs[i]=qk
  ·rw[if_pos hb] at h;cases h
  rw[if_neg hb] at h;cases ht:(q10 seps 0 qa (bs.take i)).1 with
  | none =>rw[ht] at h;injection h with h;injection h with h1 h2;subst h1 h2;refine⟨by omega,?_⟩;rw[show i+1-i=1 by omega,k1A (by omega)];rfl
  | some t =>obtain⟨L0,f0⟩:=t;rw[ht] at h;injection h with h;injection h with h1 h2;subst h1 h2;obtain⟨k1,k2⟩:=q61 seps bs i L0 f0 (by omega) ht;refine⟨by omega,?_⟩;rw[show i+1-f0=(i-f0)+1 by omega,k0E (by rw[k0o];omega),<- k2,List.getElem_drop];congr 2;simp only[show f0+(i-f0)=i by omega]
def q1U(tok:Option Tk):Int:=match tok with|none => -1|some t=>(t.2:Int)
theorem qc1(hi:i<bs.length){ts:List Tk}(h:q10 seps 0 qa (bs.take i)=(qa,ts))(hb:q7m seps bs[i]=qk):q10 seps 0 qa (bs.take (i+1))=(qa,ts):=by rw[q3F seps bs i hi,h];simp only[q1e,if_pos hb,Option.toList_none,k23]
theorem q8G(hi:i<bs.length){t:Tk}{ts:List Tk}(h:q10 seps 0 qa (bs.take i)=(qd t,ts))(hb:q7m seps bs[i]=qk):q10 seps 0 qa (bs.take (i+1))=(qa,ts++[t]):=by rw[q3F seps bs i hi,h];simp only[q1e,if_pos hb,Option.toList_some]
theorem qao(hi:i<bs.length){tok:Option Tk}{ts:List Tk}(h:q10 seps 0 qa (bs.take i)=(tok,ts))(hb:q7m seps bs[i]=qh):∃t,q10 seps 0 qa (bs.take (i+1))=(qd t,ts)/\(t.2:Int)=if q1U tok<0 then(i:Int) else q1U tok:=by
 have a:¬q7m seps bs[i]=qk:=by rw[hb];decide
 rw[q3F seps bs i hi,h];simp only[q1e,if_neg a];cases tok with
 | none=>exact⟨_,by rw[k23],by simp [q1U]⟩
 | some t =>refine⟨_,by rw[k23],?_⟩;rw[if_neg (by simp only[q1U];omega)];rfl
theorem q3X(seps:ByteArray):∀(xs:List Nat) (a:Nat) (tok:Option Tk),(q8c seps a tok xs).length<=xs.length+tok.toList.length
 | [],a,tok=>by simp [q8c,q10]
 | c::cs,a,tok=>by
  have ih:=q3X seps cs (a+1) (q1e seps a tok c).1;have e:q8c seps a tok (c::cs)=(q1e seps a tok c).2++q8c seps (a+1) (q1e seps a tok c).1 cs:=by simp only[q8c,q10,List.append_assoc]
  rw[e,k0p];have:(q1e seps a tok c).2.length+(q1e seps a tok c).1.toList.length<=tok.toList.length+1:=by
   unfold q1e;split
   ·simp
   ·cases tok<;>simp
  rw[k19];omega
def q8Q(c:Nat):Bool:=(qe (97<=c) && qe (c<=122)) || (qe (65<=c) && qe (c<=90)) || (qe (48<=c) && qe (c<=57)) || decide (c=43) || decide (c=45) || decide (c=46) || decide (c=95) || decide (c=40) || decide (c=41) || decide (127<c)
theorem qax(c:Nat)(hc:c<256):q8Q c=q2L c:=by
 have:∀c:Fin 256,q8Q c.val=q2L c.val:=by decide +kernel
 exact this ⟨c,hc⟩
end Str
namespace Dst
open Go Go.RowKit Go.Proofs.YthopehoklmgphaaGreatDoor R5 Scn Hx Rdx Str
def q6a(c:Nat):Bool:=qe (c=32) || decide (c=9) || decide (c=10) || decide (c=13)
theorem qei(c:Nat)(w:qc)(hc:c<256):qi qb 36 #[.int .u8 (c:Int)] w fun e w'=>e=.returned (.bool (q6a c))/\w=w':=by
 by_cases h1:c=32
 ·subst h1;go_enter func36,ntmps36;go_wp2;go_ret;exact⟨rfl,rfl⟩
 by_cases h2:c=9
 ·subst h2;go_enter func36,ntmps36;go_wp2;go_ret;exact⟨rfl,rfl⟩
 by_cases h3:c=10
 ·subst h3;go_enter func36,ntmps36;go_wp2;go_ret;exact⟨rfl,rfl⟩
 by_cases h4:c=13
 ·subst h4;go_enter func36,ntmps36;go_wp2;go_ret;exact⟨rfl,rfl⟩
 have a:qq (q6a c=qh):=vv (by unfold q6a;rw[k00 h1,k00 h2,k00 h3,k00 h4];rfl);have b:¬(c:Int)=32:=by omega
 have d:¬(c:Int)=9:=by omega
 have f:¬(c:Int)=10:=by omega
 have g:¬(c:Int)=13:=by omega
 clear h1 h2 h3 h4;have h:((c:Int)==32)=qh:=by simpa using b
 have i:((c:Int)==9)=qh:=by simpa using d
 have j:((c:Int)==10)=qh:=by simpa using f
 have k:((c:Int)==13)=qh:=by simpa using g
 go_enter func36,ntmps36;go_wp2;go_ret;exact⟨q1L a.o.symm,rfl⟩
theorem qcD(sep:ByteArray)(c:Nat)(w:qc)(hc:c<256)(hsz:sep.size<=140737488351232):qi qb 30 #[.int .u8 (c:Int),.string sep] w fun e w'=>e=.returned (.bool (q7m (q0S++sep) c))/\w=w':=by
 rw[q8a sep c hc];have s:(sep.size:Int)<=140737488351232:=by omega
 have g:=vv (qei c w hc);clear hsz;go_enter func30,ntmps30;go_wp2;go_loop [5] (fun t=>∃k:Nat,k<=sep.size/\t=.int .i64 k/\(∀j (h:j<sep.size),j<k->sep[j].toNat≠c)) (fun t=>sep.size-(intOf t).toNat)
 case atStart=>exact⟨0,k0d _,rfl,fun j _ h=>absurd h (by omega)⟩
 case round =>
  obtain⟨k,m,rfl,f⟩:=hrel;have d:=vv f;clear f;by_cases hks:k<sep.size
  ·by_cases hb:sep[k].toNat=c
   ·have n:qq (q4N sep c=qk):=vv (by unfold q4N;rw[k03 (by rw[<- hb];simp only[Nat.toUInt8,UInt8.ofNat_toNat];exact k1D (by simpa using hks))];rfl);have i:((sep[k].toNat:Nat):Int)=(c:Int):=by omega
    clear hb;go_wp2;go_ret;exact⟨q1L n.o.symm,rfl⟩
   ·have p:=vv hb;have i:¬((sep[k].toNat:Nat):Int)=(c:Int):=by omega
    have u:¬(c:Int)=((sep[k].toNat:Nat):Int):=by omega
    clear hb;go_wp2;go_round
    case rel =>
     refine⟨k+1,by omega,by go_num,fun j h a=>?_⟩;rcases(by omega:j<k\/j=k) with h|rfl
     ·exact d.o j _ h
     ·exact p.o
    case measure=>simp [intOf];omega
  ·have l:k=sep.size:=by omega
   subst l;have b:c.toUInt8 ∉ sep.data.toList:=by intro b;obtain⟨j,a,e⟩:=k2H b;refine d.o j (by simpa using a) (by simpa using a) ?_;have q:sep.data.toList[j]=sep[j]'(by simpa using a):=rfl;rw[<- q,e];simp only[Nat.toUInt8,UInt8.toNat_ofNat'];exact k0F hc
   have r:qq (q4N sep c=q6a c):=vv (by unfold q4N q6a;rw[k00 b];simp);clear b m hks d;go_wp2_with fail;refine g.o.mono ?_;rintro e w' ⟨rfl,rfl⟩;go_wp2;go_ret;exact⟨q1L r.o.symm,rfl⟩
theorem q5S:q8Q c=qk↔(97<=c/\c<=122)\/(65<=c/\c<=90)\/(48<=c/\c<=57)\/c=43\/c=45\/c=46\/c=95\/c=40\/c=41\/127<c:=by unfold q8Q;simp only[k1z,k0C,k0I,or_assoc]
theorem may(s:ByteArray)(w:qc)(hsz:s.size<=140737488351232):qi qb 28 #[.string s] w fun e w'=>e=.returned (.bool (q77 s))/\w=w':=by
 have K:(s.size:Int)<=140737488351232:=by omega
 clear hsz;go_enter func28,ntmps28;go_wp2;go_loop [3] (fun t=>∃k:Nat,k<=s.size/\t=.int .i64 k/\(∀j (h:j<s.size),j<k->q2L s[j].toNat=qh)) (fun t=>s.size-(intOf t).toNat)
 case atStart=>exact⟨0,k0d _,rfl,fun j _ h=>absurd h (by omega)⟩
 case round =>
  obtain⟨k,H,rfl,C⟩:=hrel;have E:=vv C;clear C;by_cases hks:k<s.size
  ·have D:=k1q s[k];obtain⟨c,a⟩:∃c,s[k].toNat=c:=⟨_,rfl⟩;rw[a] at D;have L:((s[k].toNat:Nat):Int)=(c:Int):=by omega
   have b:=qax c D;cases hp:q8Q c with
   | true =>
    have I:qq (q77 s=qh):=vv (q93 hks (by rw[a,<- b];exact hp));have p:=q5S.1 hp;clear b hp a;rcases p with h|h|h|h|h|h|h|h|h|h;all_goals
     first
      | have q:(97:Int)<=(c:Int):=by omega
      | have q:¬(97:Int)<=(c:Int):=by omega
     first
      | have r:(c:Int)<=122:=by omega
      | have r:¬(c:Int)<=122:=by omega
     first
      | have u:(65:Int)<=(c:Int):=by omega
      | have u:¬(65:Int)<=(c:Int):=by omega
     first
      | have v:(c:Int)<=90:=by omega
      | have v:¬(c:Int)<=90:=by omega
     first
      | have x:(48:Int)<=(c:Int):=by omega
      | have x:¬(48:Int)<=(c:Int):=by omega
     first
      | have y:(c:Int)<=57:=by omega
      | have y:¬(c:Int)<=57:=by omega
     first
      | have d:(c:Int)=43:=by omega
      | have d:¬(c:Int)=43:=by omega
     first
      | have f:(c:Int)=45:=by omega
      | have f:¬(c:Int)=45:=by omega
     first
      | have g:(c:Int)=46:=by omega
      | have g:¬(c:Int)=46:=by omega
     first
      | have i:(c:Int)=95:=by omega
      | have i:¬(c:Int)=95:=by omega
     first
      | have l:(c:Int)=40:=by omega
      | have l:¬(c:Int)=40:=by omega
     first
      | have m:(c:Int)=41:=by omega
      | have m:¬(c:Int)=41:=by omega
     first
      | have z:(127:Int)<(c:Int):=by omega
      | have z:¬(127:Int)<(c:Int):=by omega
     clear h;go_wp2;go_ret;exact⟨q1L I.o.symm,rfl⟩
   | false =>
    have J:qq (q2L s[k].toNat=qh):=vv (by rw[a,<- b];exact hp);have p:¬((97<=c/\c<=122)\/(65<=c/\c<=90)\/(48<=c/\c<=57)\/c=43\/c=45\/c=46\/c=95\/c=40\/c=41\/127<c):=fun h=>by rw[q5S.2 h] at hp;cases hp
    clear b hp a;rcases(by omega:c<40\/c=42\/c=44\/c=47\/(58<=c/\c<=64)\/(91<=c/\c<=94)\/c=96\/(123<=c/\c<=127)) with h|h|h|h|h|h|h|h;all_goals
     clear p;first
      | have q:(97:Int)<=(c:Int):=by omega
      | have q:¬(97:Int)<=(c:Int):=by omega
     first
      | have r:(c:Int)<=122:=by omega
      | have r:¬(c:Int)<=122:=by omega
     first
      | have u:(65:Int)<=(c:Int):=by omega
      | have u:¬(65:Int)<=(c:Int):=by omega
     first
      | have v:(c:Int)<=90:=by omega
      | have v:¬(c:Int)<=90:=by omega
     first
      | have x:(48:Int)<=(c:Int):=by omega
      | have x:¬(48:Int)<=(c:Int):=by omega
     first
      | have y:(c:Int)<=57:=by omega
      | have y:¬(c:Int)<=57:=by omega
     first
      | have d:(c:Int)=43:=by omega
      | have d:¬(c:Int)=43:=by omega
     first
      | have f:(c:Int)=45:=by omega
      | have f:¬(c:Int)=45:=by omega
     first
      | have g:(c:Int)=46:=by omega
      | have g:¬(c:Int)=46:=by omega
     first
      | have i:(c:Int)=95:=by omega
      | have i:¬(c:Int)=95:=by omega
     first
      | have l:(c:Int)=40:=by omega
      | have l:¬(c:Int)=40:=by omega
     first
      | have m:(c:Int)=41:=by omega
      | have m:¬(c:Int)=41:=by omega
     first
      | have z:(127:Int)<(c:Int):=by omega
      | have z:¬(127:Int)<(c:Int):=by omega
     have M:((c:Int)==43)=qh:=by rw[k02];omega
     have N:((c:Int)==45)=qh:=by rw[k02];omega
     have O:((c:Int)==46)=qh:=by rw[k02];omega
     have P:((c:Int)==95)=qh:=by rw[k02];omega
     have Q:((c:Int)==40)=qh:=by rw[k02];omega
     have R:((c:Int)==41)=qh:=by rw[k02];omega
     clear h d f g i l m;go_wp2;go_round
     case rel =>
      refine⟨k+1,by omega,by go_num,fun j h hj=>?_⟩;rcases(by omega:j<k\/j=k) with h|rfl
      ·exact E.o j _ h
      ·exact J.o
     case measure=>simp [intOf];omega
  ·have F:k=s.size:=by omega
   subst F;have n:qq (q77 s=qe (s.size<=16)):=vv (q94 (fun j h=>E.o j h h));clear H hks;by_cases h16:s.size<=16
   ·have G:(s.size:Int)<=16:=by omega
    rw[k03 h16] at n;clear h16;go_wp2;go_ret;exact⟨q1L n.o.symm,rfl⟩
   ·have G:¬(s.size:Int)<=16:=by omega
    rw[k00 h16] at n;clear h16;go_wp2;go_ret;exact⟨q1L n.o.symm,rfl⟩
theorem qes(E F:Int)(mode:Nat)(sep:ByteArray)(w:qc)(hsz:sep.size<=140737488351232):qi qb 17 #[fm E F,.int .u8 (mode:Int),.string sep] w fun e w'=>e=.returned (.int .i64 (q0R E F mode sep:Int))/\qg w.heap.size w w':=by
 have d:=vv fun w=>R3.Check E F w
 have i:=vv fun w=>may sep w hsz
 obtain⟨s,m⟩:=yx (w.alloc (.cells #[.int .i64 E,.int .i64 F] 23));have f:Ctx w [(w.heap.size,23,[.int .i64 E,.int .i64 F])] s:=by rw[m];exact(Ctx.nil w).new _ _ rfl
 have g:=(f.get 0 rfl).cell 0;have h:=(f.get 0 rfl).cell 1;have j:=(f.get 0 rfl).lt;simp only[k07,k0c] at g h;have k:=vv f;have l:=vv m;clear f m hsz;by_cases hf:R3.formOk E F=qh
 ·have c:qq (q0R E F mode sep=5):=vv (by unfold q0R;rw[if_pos hf]);rw[R3.chk_no hf] at d;clear hf;go_enter func17,ntmps17;go_wp2_with fail;rw[<- l.o];go_wp2_with fail;refine(d.o _).mono ?_;rintro e n ⟨rfl,a⟩;have b:=vv (k.o.step a);clear a g h j;go_wp2;go_ret;exact⟨by rw[c.o];rfl,b.o.low⟩
 rw[R3.chk_ok (by simpa using hf)] at d;by_cases hm:4<mode
 ·have c:qq (q0R E F mode sep=7):=vv (by unfold q0R;rw[if_neg hf,if_pos hm]);have r:(4:Int)<(mode:Int):=by omega
  clear hf hm;go_enter func17,ntmps17;go_wp2_with fail;rw[<- l.o];go_wp2_with fail;refine(d.o _).mono ?_;rintro e n ⟨rfl,a⟩;have b:=vv (k.o.step a);clear a g h j;go_wp2;go_ret;exact⟨by rw[c.o];rfl,b.o.low⟩
 have r:(mode:Int)<=4:=by omega
 have p:q0R E F mode sep=if q77 sep=qh then 2 else 0:=by unfold q0R;rw[if_neg hf,if_neg hm]
 have q:=vv p;clear hf hm p;cases hy:q77 sep with
 | false =>have c:qq (q0R E F mode sep=2):=vv (by rw[q.o,if_pos hy]);rw[hy] at i;clear hy;go_enter func17,ntmps17;go_wp2_with fail;rw[<- l.o];go_wp2_with fail;refine(d.o _).mono ?_;rintro e n ⟨rfl,a⟩;have b:=vv (k.o.step a);clear a g h j;go_wp2_with fail;refine(i.o _).mono ?_;rintro e w' ⟨rfl,rfl⟩;go_wp2;go_ret;exact⟨by rw[c.o];rfl,b.o.low⟩
 | true =>have c:qq (q0R E F mode sep=0):=vv (by rw[q.o,if_neg (by rw[hy];decide)]);rw[hy] at i;clear hy;go_enter func17,ntmps17;go_wp2_with fail;rw[<- l.o];go_wp2_with fail;refine(d.o _).mono ?_;rintro e n ⟨rfl,a⟩;have b:=vv (k.o.step a);clear a g h j;go_wp2_with fail;refine(i.o _).mono ?_;rintro e w' ⟨rfl,rfl⟩;go_wp2;go_ret;exact⟨by rw[c.o];rfl,b.o.low⟩
def qaP(E F:Int)(mode:Nat)(s:ByteArray)(first:Nat):List qm:=
 if(q0U E F s mode).2.2.1=0 then[.int .u64 ((q0U E F s mode).1:Int),.int .u8 ((q0U E F s mode).2.1:Int),.int .i64 0,.int .i64 (first:Int),.int .i64 (s.size:Int)]
 else[.int .u64 0,.int .u8 0,.int .i64 (q0U E F s mode).2.2.1,.int .i64 (first:Int),.int .i64 (s.size:Int)]
theorem q5Z(E F:Int)(mode:Nat)(L:List Nat)(first:Nat):qaP E F mode (txt L) first=q1i E F mode L first:=by
 have e:(txt L).size=L.length:=by show(List.toArray (L.map UInt8.ofNat)).size=L.length;simp
 unfold qaP q1i;rw[e]
theorem qdZ(E F:Int)(mode:Nat)(s:ByteArray)(first:Nat)(w:qc)(hg:Bg w):qi qb 31 #[fm E F,.int .u8 (mode:Int),.string s,.int .i64 (first:Int)] w fun e w'=>e=.returned (.agg (qaP E F mode s first).toArray)/\qg w.heap.size w w':=by
 obtain⟨O,C⟩:=yx (q0U E F s mode);have K:qq (qaP E F mode s first=if O.2.2.1=0 then[.int .u64 (O.1:Int),.int .u8 (O.2.1:Int),.int .i64 0,.int .i64 (first:Int),.int .i64 (s.size:Int)]
  else[.int .u64 0,.int .u8 0,.int .i64 O.2.2.1,.int .i64 (first:Int),.int .i64 (s.size:Int)]):=vv (by rw[C];rfl)
 have G:=vv fun w' (h:qg w.heap.size w w')=>Dlx.Bits E F s mode w' (hg.below h)
 rw[<- C] at G;obtain⟨Q,u⟩:=yx ((w.alloc (.cells #[.int .i64 E,.int .i64 F] 23)).alloc (.cells #[.int .u64 0,.int .u8 0,.int .i64 0,.int .i64 0,.int .i64 0] 48));have k:Ctx w [(w.heap.size+1,48,[.int .u64 0,.int .u8 0,.int .i64 0,.int .i64 0,.int .i64 0]),(w.heap.size,23,[.int .i64 E,.int .i64 F])] Q:=by rw[u];exact((Ctx.nil w).new _ _ rfl).new _ _ (by simp)
 have P:(w.alloc (.cells #[.int .i64 E,.int .i64 F] 23)).heap.size=w.heap.size+1:=by simp
 have L:=(k.get 1 rfl).cell 0;have M:=(k.get 1 rfl).cell 1;have R:=(k.get 1 rfl).lt;simp only[k07,k0c] at L M;have N:=vv k;have S:=vv u;clear k u C hg;go_enter func31,ntmps31;go_wp2_with fail;rw[<- S.o];clear P;go_wp2_with fail;refine(G.o _ N.o.low).mono ?_;rintro e D ⟨rfl,c⟩;have H:=vv (N.o.step c);clear c L M R;obtain⟨q,b⟩:=yx (D.heap.size);obtain⟨T,x⟩:=yx (D.alloc (.cells #[.int .i64 O.2.2.1,.int .i64 O.2.2.2] 80));have f:qq (Ctx w [(q,80,[Value.int .i64 O.2.2.1,.int .i64 O.2.2.2]),(w.heap.size+1,48,[.int .u64 0,.int .u8 0,.int .i64 0,.int .i64 0,.int .i64 0]),(w.heap.size,23,[.int .i64 E,.int .i64 F])] T):=vv (by rw[x];exact H.o.new _ _ b);have U:qq (w.heap.size+1<q):=vv (by rw[b];exact(H.o.get 0 rfl).lt);have I:=vv x;have Z:D.heap.size=q:=b.symm;have J:qq (∀j y,j≠1->[(q,80,[Value.int .i64 O.2.2.1,.int .i64 O.2.2.2]),(w.heap.size+1,48,[.int .u64 0,.int .u8 0,.int .i64 0,.int .i64 0,.int .i64 0]),(w.heap.size,23,[.int .i64 E,.int .i64 F])][j]?=qd y->y.1≠w.heap.size+1):=vv (by
  have:=U.o;intro j y V l
  match j,V,l with
  | 0,_,l=>cases l;show q≠w.heap.size+1;omega
  | 2,_,l=>cases l;show w.heap.size≠w.heap.size+1;omega)
 clear x b;have W:=(f.o.get 0 rfl).cell 0;have fl:=(f.o.get 0 rfl).lt;simp only[k07,k0c] at W;by_cases hz:O.2.2.1=0
 ·have d:=K.o;rw[if_pos hz] at d;have z:=vv d;have X:(O.2.2.1 != 0)=qh:=by rw[hz];rfl
  clear d hz;have b:=f.o.get 1 rfl;go_wp2_with (first|rw[<- I.o]|with_reducible refine q05 rfl 48 (.tmp 8) (.tmp 34) rfl (w.heap.size+1) [.int .u64 (O.1:Int),.int .u8 (O.2.1:Int),.int .i64 0,.int .i64 (first:Int),.int .i64 (s.size:Int)] rfl rfl 48 _ b (by kernel_rfl) rfl rfl ?_);intro Y c g;have i:=vv (f.o.put 1 rfl J.o (k1s _) c g);clear c g b;go_wp2;have a:=i.o.get 1 rfl;have m:=a.cell 0;have n:=a.cell 1;have p:=a.cell 2;have r:=a.cell 3;have t:=a.cell 4;simp only[k07,k0c] at m n p r t;rw[z.o];exact qs (v:=.agg #[.int .u64 (O.1:Int),.int .u8 (O.2.1:Int),.int .i64 0,.int .i64 (first:Int),.int .i64 (s.size:Int)]) (by simp [results,results31,go_sem,m,n,p,r,t]) rfl ⟨rfl,i.o.low⟩
 ·have d:=K.o;rw[if_neg hz] at d;have z:=vv d;have X:(O.2.2.1 != 0)=qk:=by rw[k1r];exact hz
  clear d hz;have b:=f.o.get 1 rfl;go_wp2_with (first|rw[<- I.o]|with_reducible refine q05 rfl 48 (.tmp 8) (.tmp 28) rfl (w.heap.size+1) [.int .u64 0,.int .u8 0,.int .i64 O.2.2.1,.int .i64 (first:Int),.int .i64 (s.size:Int)] rfl rfl 48 _ b (by kernel_rfl) rfl rfl ?_);intro Y c g;have i:=vv (f.o.put 1 rfl J.o (k1s _) c g);clear c g b;go_wp2;have a:=i.o.get 1 rfl;have m:=a.cell 0;have n:=a.cell 1;have p:=a.cell 2;have r:=a.cell 3;have t:=a.cell 4;simp only[k07,k0c] at m n p r t;rw[z.o];exact qs (v:=.agg #[.int .u64 0,.int .u8 0,.int .i64 O.2.2.1,.int .i64 (first:Int),.int .i64 (s.size:Int)]) (by simp [results,results31,go_sem,m,n,p,r,t]) rfl ⟨rfl,i.o.low⟩
def allT(sep s:ByteArray)(ended:Bool):List Tk:=if ended then q8c (q0S++sep) 0 qa (q0f s) else(q10 (q0S++sep) 0 qa (q0f s)).2
def qbE(sep s:ByteArray)(ended:Bool):Nat:=if ended then 0 else q80 (q10 (q0S++sep) 0 qa (q0f s)).1
def qe3(E F:Int)(mode:Nat)(sep s:ByteArray)(ended:Bool)(w:qc)(e:Ending)(w':qc):Prop:=
 ∃v,e=.returned (.tuple #[v,.int .i64 (qbE sep s ended:Int)])/\w'.ownsRow w.heap.size 48 5 v (allT sep s ended).length (q0v E F mode (allT sep s ended))/\qg w.heap.size w w'
theorem q6W(seps s:ByteArray)(k:Nat)(hk:k<=s.size){L:List Nat}{f:Nat}(h:(q10 seps 0 qa ((q0f s).take k)).1=qd (L,f)):f<k/\txt L=s.extract f k/\L.length=k-f:=by
 obtain⟨b,a⟩:=q61 seps (q0f s) k L f (by rw[q11];exact hk) h;refine⟨b,?_,?_⟩
 ·rw[a,<- q4H,q7z]
 ·rw[a,k0l,k0o,q11];omega
theorem qc2(seps s:ByteArray)(k:Nat)(hk:k<=s.size):(q10 seps 0 qa ((q0f s).take k)).2.length<=s.size:=by have h:=q3X seps ((q0f s).take k) 0 qa;unfold q8c at h;rw[k0p,k0l,q11] at h;simp only[Option.toList_none,k1p] at h;omega
def qdW(E F:Int)(mode:Nat)(seps s:ByteArray)(w:qc)(l f i:qm)(wr:qc):Prop:=
 ∃k:Nat,k<=s.size/\i=.int .i64 (k:Int)/\f=.int .i64 (q1U (q10 seps 0 qa ((q0f s).take k)).1) /\wr.ownsRow (w.heap.size+1) 48 5 l (q10 seps 0 qa ((q0f s).take k)).2.length (q0v E F mode (q10 seps 0 qa ((q0f s).take k)).2) /\Ctx w [(w.heap.size,23,[.int .i64 E,.int .i64 F])] wr
theorem All(E F:Int)(mode:Nat)(sep s:ByteArray)(ended:Bool)(w:qc)(hg:Bg w)(hsz:s.size<=1048576)(hsp:sep.size<=140737488351232):qi qb 22 #[fm E F,.int .u8 (mode:Int),.string sep,.string s,.bool ended] w (qe3 E F mode sep s ended w):=by
 obtain⟨i0,hi,b8,b9,c2⟩:=info_parts q6x;obtain⟨seps,a5⟩:=yx (q0S++sep);have c3:=vv fun c (hc:c<256) w'=>qcD sep c w' hc hsp
 rw[<- a5] at c3;have c4:=vv fun t first w' (h:qg w.heap.size w w')=>qdZ E F mode t first w' (hg.below h)
 obtain⟨w0,b4⟩:=yx (w.alloc (.cells #[.int .i64 E,.int .i64 F] 23));have hC:Ctx w [(w.heap.size,23,[.int .i64 E,.int .i64 F])] w0:=by rw[b4];exact(Ctx.nil w).new _ _ rfl
 have c5:qq (qdW E F mode seps s w (.slice qa 0 0) (.int .i64 (-1)) (.int .i64 0) w0):=vv ⟨0,k0d _,rfl,rfl,qj _ _ _ _,hC⟩;have HW:=vv b4;have b5:=vv a5;have d3:(s.size:Int)<=1048576:=by omega
 clear hC b4 hg hsp a5;go_enter func22,ntmps22;go_wp2_with fail;rw[<- HW.o];go_loopw [12,13,14] (fun l f i wr=>qdW E F mode seps s w l f i wr) (fun _ _ i _=>s.size-(intOf i).toNat)
 case atStart=>exact c5.o
 case round =>
  clear c5;obtain⟨k,hk,rfl,rfl,b3,hC⟩:=hrel;have D:=vv b3;have C:=vv hC;have T:=qc2 seps s k hk;obtain⟨tok,a,j⟩:∃tok a,q10 seps 0 qa ((q0f s).take k)=(tok,a):=⟨_,_,rfl⟩;rw[j] at D T ⊢;dsimp only at D T ⊢;have HR:=vv j;have a7:qq (a.length<=1048576):=vv (by omega);clear b3 hC;by_cases hks:k<s.size
  ·have N:k<(q0f s).length:=by rw[q11];exact hks
   have G:=q9N s k hks;obtain⟨c,hc⟩:∃c,s[k].toNat=c:=⟨_,rfl⟩;have c6:c<256:=by rw[<- hc];exact k1q _
   rw[hc] at G;have d4:((s[k].toNat:Nat):Int)=(c:Int):=by omega
   have W:=vv fun w'=>c3.o c c6 w'
   have H:=vv hks;clear hc c6 T;cases hb:q7m seps c with
   | false =>
    rw[hb] at W;obtain⟨t,U,I⟩:=qao N j (by rw[G];exact hb);cases tok with
    | none =>
     have I:(t.2:Int)=(k:Int):=by rw[I,if_pos (by show(-1:Int)<0;decide)]
     have HN:qq (qdW E F mode seps s w u12 (.int .i64 (k:Int)) (.int .i64 ((k:Int)+1)) wr):=vv ⟨k+1,H.o,by rw[k0X];rfl,by rw[U];simp only[q1U];rw[I],by rw[U];exact D.o,C.o⟩;clear j hb U I N G;simp only[q1U];go_wp2_with fail;refine(W.o _).mono ?_;rintro e w' ⟨rfl,rfl⟩;go_wp2;go_roundw
     case rel=>exact HN.o
     case measure=>simp [intOf];have:=H.o;omega
    | some t0 =>
     obtain⟨L,f⟩:=t0;have I:(t.2:Int)=(f:Int):=by rw[I,if_neg (by show ¬((f:Int)<0);omega)];rfl
     have HN:qq (qdW E F mode seps s w u12 (.int .i64 (f:Int)) (.int .i64 ((k:Int)+1)) wr):=vv ⟨k+1,H.o,by rw[k0X];rfl,by rw[U];simp only[q1U];rw[I],by rw[U];exact D.o,C.o⟩;clear j hb U I N G;simp only[q1U];go_wp2_with fail;refine(W.o _).mono ?_;rintro e w' ⟨rfl,rfl⟩;go_wp2;go_roundw
     case rel=>exact HN.o
     case measure=>simp [intOf];have:=H.o;omega
   | true =>
    rw[hb] at W;cases tok with
    | none =>
     have X:=qc1 N j (by rw[G];exact hb);have HN:qq (qdW E F mode seps s w u12 (.int .i64 (-1)) (.int .i64 ((k:Int)+1)) wr):=vv ⟨k+1,H.o,by rw[k0X];rfl,by rw[X];rfl,by rw[X];exact D.o,C.o⟩;clear j hb X N G;simp only[q1U];go_wp2_with fail;refine(W.o _).mono ?_;rintro e w' ⟨rfl,rfl⟩;go_wp2;go_roundw
     case rel=>exact HN.o
     case measure=>simp [intOf];have:=H.o;omega
    | some t0 =>
     obtain⟨L,f⟩:=t0;have X:=q8G N j (by rw[G];exact hb);obtain⟨c7,J,Y⟩:=q6W seps s k hk (L:=L) (f:=f) (by rw[j]);have Z:qq (∀w',qg w.heap.size w w'->qi qb 31 #[fm E F,.int .u8 (mode:Int),.string (s.extract f k),.int .i64 (f:Int)] w' fun e g=>e=.returned (.agg (q1i E F mode L f).toArray)/\qg w'.heap.size w' g):=vv (fun w' h=>by have:=c4.o (s.extract f k) f w' h;rw[<- J,q5Z] at this;rw[<- J];exact this);have a9:qq (q0v E F mode (a++[(L,f)])=q0v E F mode a++q1i E F mode L f):=vv (q2W E F mode a (L,f));obtain⟨n,p,q,r,u,b0,a3⟩:=q2J E F mode L f;rw[b0] at Z a9;have a8:=vv a3;have c8:=vv X;have c9:(f:Int)<=(k:Int):=by omega
     have d5:(k:Int)<=(s.size:Int):=by omega
     have d0:(0:Int)<=(f:Int):=by omega
     clear j hb X N G b0 a3 J Y;simp only[q1U];go_wp2_with fail;refine(W.o _).mono ?_;rintro e w' ⟨rfl,rfl⟩;have x:=(C.o.get 0 rfl).cell 0;have y:=(C.o.get 0 rfl).cell 1;have cl:=(C.o.get 0 rfl).lt;simp only[k07,k0c] at x y;go_wp2_with fail;refine q02 (fun w'=>w'.cell? ⟨w.heap.size,0,qa⟩=qd (.int .i64 E)/\w'.cell? ⟨w.heap.size,1,qa⟩=qd (.int .i64 F)) 10
      (.still 0 (.still 1 (.still 2 (.still 3 (.still 4 (.still 5 (.still 6 (.still 7 (.one 8 (.one 9 .done)))))))))) (by kernel_rfl) (by kernel_rfl) (fun _ _ d _ _ h=>by cases d<;>exact h) ⟨x,y⟩ (fun hS0=>?_)
     iterate 8
      refine q01 (v:=?_) rfl (by rfl) ?_ ?_;rotate_left
      ·intro w d1;go_simp;with_reducible rfl
      simp only[Act.put,sa,sb,sc]
     have O:=vv C.o.drew;have a0:=vv (D.o.kept (w':=World.drew wr) (q39 (ql wr qa)) (by cases hv:Value.ownBlock u12<;>simp));obtain⟨wd,b1⟩:=yx (World.drew wr);rw[<- b1] at hS0 O a0 ⊢;clear b1 x y cl;refine q04 rfl (by rfl) (fun K hK=>?_);go_simp;refine(Z.o _ O.o.low).mono ?_;rintro e g ⟨rfl,Q⟩;have m:=vv (O.o.step Q);have a1:=vv (a0.o.kept (q03 Q qa) (by cases hv:Value.ownBlock u12<;>simp));clear Q;have x:=(m.o.get 0 rfl).cell 0;have y:=(m.o.get 0 rfl).cell 1;simp only[k07,k0c] at x y;refine hK.out _ _ ⟨x,y⟩ (fun P=>?_);clear hK P hS0;refine q04 rfl (by rfl) (fun K hK=>?_);go_simp;have R:=((m.o.step ((qf _ _).alloc (o:=.cells #[n,p,q,r,u] 48) lr:qg g.heap.size g (g.alloc (.cells #[n,p,q,r,u] 48)))).get 0 rfl).cell 0;have S:=((m.o.step ((qf _ _).alloc (o:=.cells #[n,p,q,r,u] 48) lr:qg g.heap.size g (g.alloc (.cells #[n,p,q,r,u] 48)))).get 0 rfl).cell 1;simp only[k07,k0c] at R S;refine hK.out _ _ ⟨R,S⟩ (fun P=>?_);clear hK P R S x y;refine q0a ?_;simp only[k0P,k0L];have b2:=a1.o.lt;have b7:=m.o.low.size;go_wp2_with (at_builtin;refine qt _ rfl _ _ 42 rfl (w.heap.size+1) 48 i0 (.agg #[.int .u64 0,.int .u8 0,.int .i64 0,.int .i64 0,.int .i64 0]) 5 40 underlying42 hi b8 b9 c2 rfl (by decide) _ a.length (q0v E F mode a) rfl (a1.o.alloc _) ⟨g.heap.size,0,qa⟩ 1 1 [n,p,q,r,u] rfl rfl (q3h g [n,p,q,r,u] _) a8.o (by unfold maxLen;have:=a7.o;omega) (by have:=a7.o;omega) (by have:=(m.o.get 0 rfl).lt;simp;omega) ?_);intro v' w5 a4 a2 _;have b6:=vv ((m.o.step ((qf _ _).alloc (o:=.cells #[n,p,q,r,u] 48) lr)).row a2 (fun b hb=>by have:=(b2 b hb).1;exact⟨by omega,fun z hz=>by rw[k0j.1 hz];show w.heap.size≠b;omega⟩));have a6:qq (w5.ownsRow (w.heap.size+1) 48 5 v' (a++[(L,f)]).length (q0v E F mode (a++[(L,f)]))):=vv (by rw[a9.o,k0p];exact a4);clear a4 a2 b2;go_wp2;go_roundw
     case rel=>exact⟨k+1,H.o,by go_num,by rw[c8.o];rfl,by rw[c8.o];exact a6.o,b6.o⟩
     case measure=>simp [intOf];have:=H.o;omega
  ·obtain rfl:k=s.size:=by omega
   have V:q10 seps 0 qa (q0f s)=(tok,a):=by have e:(q0f s).take s.size=q0f s:=k0x (by rw[q11];exact lr);rw[e] at j;exact j
   cases tok with
   | none =>have M:qq (allT sep s ended=a/\qbE sep s ended=0):=vv (by unfold allT qbE q8c;rw[<- b5.o,V];cases ended<;>simp [q80]);clear j V hks T hk;simp only[q1U];go_wp2;go_ret2;unfold qe3;rw[M.o.1,M.o.2];exact⟨_,rfl,q5e D.o (k1s _),C.o.low⟩
   | some t0 =>
    obtain⟨L,f⟩:=t0;obtain⟨c7,J,Y⟩:=q6W seps s s.size lr (L:=L) (f:=f) (by rw[j]);cases ended with
    | false =>
     have M:qq (allT sep s qh=a/\qbE sep s qh=s.size-f):=vv (by unfold allT qbE;rw[<- b5.o,V];exact⟨rfl,Y⟩);have c9:(f:Int)<=(s.size:Int):=by omega
     have d0:(0:Int)<=(f:Int):=by omega
     have d2:=vv c7;clear j V hks T hk J Y;simp only[q1U];go_wp2;go_ret2;unfold qe3;rw[M.o.1,M.o.2];exact⟨_,by rw[show((s.size-f:Nat):Int)=(s.size:Int)-(f:Int) by have:=d2.o;omega];rfl,q5e D.o (k1s _),C.o.low⟩
    | true =>
     have M:qq (allT sep s qk=a++[(L,f)]/\qbE sep s qk=0):=vv (by unfold allT qbE q8c;rw[<- b5.o,V];exact⟨rfl,rfl⟩);have Z:qq (∀w',qg w.heap.size w w'->qi qb 31 #[fm E F,.int .u8 (mode:Int),.string (s.extract f s.size),.int .i64 (f:Int)] w' fun e g=>e=.returned (.agg (q1i E F mode L f).toArray)/\qg w'.heap.size w' g):=vv (fun w' h=>by have:=c4.o (s.extract f s.size) f w' h;rw[<- J,q5Z] at this;rw[<- J];exact this);have a9:qq (q0v E F mode (a++[(L,f)])=q0v E F mode a++q1i E F mode L f):=vv (q2W E F mode a (L,f));obtain⟨n,p,q,r,u,b0,a3⟩:=q2J E F mode L f;rw[b0] at Z a9;have a8:=vv a3;have c9:(f:Int)<=(s.size:Int):=by omega
     have d0:(0:Int)<=(f:Int):=by omega
     clear j V hks T hk J Y b0 a3;simp only[q1U];have x:=(C.o.get 0 rfl).cell 0;have y:=(C.o.get 0 rfl).cell 1;have cl:=(C.o.get 0 rfl).lt;simp only[k07,k0c] at x y;go_wp2_with fail;refine q02 (fun w'=>w'.cell? ⟨w.heap.size,0,qa⟩=qd (.int .i64 E)/\w'.cell? ⟨w.heap.size,1,qa⟩=qd (.int .i64 F)) 9
      (.still 0 (.still 1 (.still 2 (.still 3 (.still 4 (.still 5 (.still 6 (.one 7 (.one 8 .done))))))))) (by kernel_rfl) (by kernel_rfl) (fun _ _ d _ _ h=>by cases d<;>exact h) ⟨x,y⟩ (fun hS0=>?_)
     iterate 7
      refine q01 (v:=?_) rfl (by rfl) ?_ ?_;rotate_left
      ·intro w d1;go_simp;with_reducible rfl
      simp only[Act.put,sa,sb,sc]
     have O:=vv C.o.drew;have a0:=vv (D.o.kept (w':=World.drew wr) (q39 (ql wr qa)) (by cases hv:Value.ownBlock u12<;>simp));obtain⟨wd,b1⟩:=yx (World.drew wr);rw[<- b1] at hS0 O a0 ⊢;clear b1 x y cl;refine q04 rfl (by rfl) (fun K hK=>?_);go_simp;refine(Z.o _ O.o.low).mono ?_;rintro e g ⟨rfl,Q⟩;have m:=vv (O.o.step Q);have a1:=vv (a0.o.kept (q03 Q qa) (by cases hv:Value.ownBlock u12<;>simp));clear Q;have x:=(m.o.get 0 rfl).cell 0;have y:=(m.o.get 0 rfl).cell 1;simp only[k07,k0c] at x y;refine hK.out _ _ ⟨x,y⟩ (fun P=>?_);clear hK P hS0;refine q04 rfl (by rfl) (fun K hK=>?_);go_simp;have R:=((m.o.step ((qf _ _).alloc (o:=.cells #[n,p,q,r,u] 48) lr:qg g.heap.size g (g.alloc (.cells #[n,p,q,r,u] 48)))).get 0 rfl).cell 0;have S:=((m.o.step ((qf _ _).alloc (o:=.cells #[n,p,q,r,u] 48) lr:qg g.heap.size g (g.alloc (.cells #[n,p,q,r,u] 48)))).get 0 rfl).cell 1;simp only[k07,k0c] at R S;refine hK.out _ _ ⟨R,S⟩ (fun P=>?_);clear hK P R S x y;refine q0a ?_;simp only[k0P,k0L];have b2:=a1.o.lt;have b7:=m.o.low.size;go_wp2_with (at_builtin;refine qt _ rfl _ _ 42 rfl (w.heap.size+1) 48 i0 (.agg #[.int .u64 0,.int .u8 0,.int .i64 0,.int .i64 0,.int .i64 0]) 5 40 underlying42 hi b8 b9 c2 rfl (by decide) _ a.length (q0v E F mode a) rfl (a1.o.alloc _) ⟨g.heap.size,0,qa⟩ 1 1 [n,p,q,r,u] rfl rfl (q3h g [n,p,q,r,u] _) a8.o (by unfold maxLen;have:=a7.o;omega) (by have:=a7.o;omega) (by have:=(m.o.get 0 rfl).lt;simp;omega) ?_);intro v' w5 a4 a2 _;have b6:=vv ((m.o.step ((qf _ _).alloc (o:=.cells #[n,p,q,r,u] 48) lr)).row a2 (fun b hb=>by have:=(b2 b hb).1;exact⟨by omega,fun z hz=>by rw[k0j.1 hz];show w.heap.size≠b;omega⟩));have a6:qq (w5.ownsRow (w.heap.size+1) 48 5 v' (a++[(L,f)]).length (q0v E F mode (a++[(L,f)]))):=vv (by rw[a9.o,k0p];exact a4);clear a4 a2 b2;go_wp2;go_ret2;unfold qe3;rw[M.o.1,M.o.2];exact⟨_,rfl,q5e a6.o (k1s _),b6.o.low⟩
end Dst
namespace Str
open Go Go.RowKit R5 Scn Hx Rdx
def q0H(E F:Int)(mode:Nat)(w:qc)(v:qm)(ts:List Tk):Prop:=
 ∃A c,v=.slice A ts.length c/\(0<ts.length->∃q o,A=qd ⟨q,o,qa⟩/\q<w.heap.size/\∀i (hi:i<ts.length),w.rangeAt q (o+i*5) (q1i E F mode ts[i].1 ts[i].2))
theorem q0H.nil(E F:Int)(mode:Nat)(w:qc):q0H E F mode w (.slice qa 0 0) []:=⟨qa,0,rfl,fun h=>absurd h (by decide)⟩
theorem q0H.below{ts:List Tk}(h:q0H E F mode w v ts)(hB:qg w.heap.size w w'):q0H E F mode w' v ts:=by obtain⟨A,c,b,d⟩:=h;refine⟨A,c,b,fun hp=>?_⟩;obtain⟨q,o,e,a,f⟩:=d hp;exact⟨q,o,e,k01 a hB.size,fun i hi=>q2f hB a (f i hi)⟩
theorem q0H.drop_row{A:Option qn}{ts:List Tk}(h:w.ownsRow base 48 5 (.slice A n c) ts.length (q0v E F mode ts))(k m:Nat)(hm:ts.length=k+m):n=ts.length/\ts.length<=c/\(c=k->q0H E F mode w (.slice A m (c-k)) (ts.drop k))/\(∃A',A.map (fun a=>a.add (k*5))=A'/\q0H E F mode w (.slice A' m (c-k)) (ts.drop k)):=by
 have b:(ts.drop k).length=m:=by rw[k0o];omega
 rcases h.2 with ⟨e,d⟩|⟨q,cap,r,e,v,x,g,s,y,z⟩
 ·cases e;have f:m=0:=by omega
  subst f;refine⟨d.symm,Nat.le_of_eq d,fun _=>⟨qa,0-k,by rw[b],fun h=>by omega⟩,qa,rfl,qa,0-k,by rw[b],fun h=>by omega⟩
 ·cases e;refine⟨rfl,g,fun t=>⟨_,_,by rw[b],fun h=>by omega⟩,_,rfl,?_⟩;refine⟨_,_,by rw[b],fun hp=>?_⟩;obtain⟨C,u,j,-,l,-,o⟩:=q7d h (by omega);cases j;have p:(⟨q,0,qa⟩:qn).add (k*5)=⟨q,k*5,qa⟩:=by
   unfold Addr.add;split
   ·rename_i d;rw[d]
   ·simp
  refine⟨q,k*5,by simp only[Option.map_some,p],l,fun i hi=>?_⟩;have:=o (k+i) (by omega);rw[k0U] at this;simp only[List.getElem_drop];exact this
theorem qek(lo1:Nat)(va vb:qm)(E F:Int)(mode:Nat)(ts:List Tk)(w:qc)(hn:ts.length<=1099511627776)
  (ha:w.ownsRow lo1 48 5 va ts.length (q0v E F mode ts)) (hb:q0H E F mode w vb ts) :
  qi qb 19 #[va,vb] w fun e w'=>e=.returned (.bool qk)/\qg w.heap.size w w':=by
 obtain⟨n,g⟩:=yx (ts.length);obtain⟨A,X,rfl⟩:=q4d ha;obtain⟨Y,Z,rfl,hb⟩:=hb;rw[<- g] at ha hn ⊢;by_cases h0:n=0
 ·subst h0;clear ha hb g;go_enter func19,ntmps19;go_wp2;go_loopw [5] (fun i wr=>i=.int .i64 0/\qg w.heap.size w wr) (fun i _=>0)
  case atStart=>exact⟨rfl,qf _ _⟩
  case round =>obtain⟨rfl,d⟩:=hrel;go_wp2;go_ret;exact⟨rfl,d⟩
 obtain⟨q,cap,K,-,H,V,u⟩:=q7d ha (by omega);cases K;obtain⟨f,o,rfl,I,m⟩:=hb (by omega);have v:=vv (And.intro u m);have W:(n:Int)<=1099511627776:=by omega
 have p:=vv g;clear ha hb u m g;go_enter func19,ntmps19;go_wp2;go_loopw [5] (fun i wr=>∃k:Nat,k<=n/\i=.int .i64 (k:Int)/\qg w.heap.size w wr) (fun i _=>n-(intOf i).toNat)
 case atStart=>exact⟨0,k0d _,rfl,qf _ _⟩
 case round =>
  obtain⟨k,hk,rfl,d⟩:=hrel;by_cases hkn:k<n
  ·have r:k<ts.length:=by have:=p.o;omega
   obtain⟨y,z,C,h⟩:=q4T E F mode ts[k].1 ts[k].2;obtain⟨D,s⟩:∃x:Int,x=(ts[k].2:Int):=⟨_,rfl⟩;obtain⟨G,t⟩:∃x:Int,x=(ts[k].1.length:Int):=⟨_,rfl⟩;rw[<- s,<- t] at h;have j:=v.o.1 k r;have l:=v.o.2 k (by have:=p.o;omega);rw[h] at j l;have a:=vv d;clear d;have b:=q2f a.o H j;have c:=q2f a.o I l;have L:wr.cell? ⟨q,k*5,qa⟩=qd (.int .u64 y):=b 0 _ rfl;have M:wr.cell? ⟨q,k*5+1,qa⟩=qd (.int .u8 z):=b 1 _ rfl;have N:wr.cell? ⟨q,k*5+2,qa⟩=qd (.int .i64 C):=b 2 _ rfl;have O:wr.cell? ⟨q,k*5+3,qa⟩=qd (.int .i64 D):=b 3 _ rfl;have P:wr.cell? ⟨q,k*5+4,qa⟩=qd (.int .i64 G):=b 4 _ rfl;have Q:wr.cell? ⟨f,o+k*5,qa⟩=qd (.int .u64 y):=c 0 _ rfl;have R:wr.cell? ⟨f,o+k*5+1,qa⟩=qd (.int .u8 z):=c 1 _ rfl;have S:wr.cell? ⟨f,o+k*5+2,qa⟩=qd (.int .i64 C):=c 2 _ rfl;have T:wr.cell? ⟨f,o+k*5+3,qa⟩=qd (.int .i64 D):=c 3 _ rfl;have U:wr.cell? ⟨f,o+k*5+4,qa⟩=qd (.int .i64 G):=c 4 _ rfl;clear b c j l s t h r;go_wp2_with fail;go_quiet (fail);clear L M N O P Q R S T U;have J:qq (qg w.heap.size w (wr.drewN nq)):=vv ⟨a.o.os,a.o.tape,a.o.output,a.o.size,a.o.block⟩;go_wp2;go_roundw
   case rel=>exact⟨k+1,by omega,by go_num,J.o⟩
   case measure=>simp [intOf];omega
  ·obtain rfl:k=n:=by omega
   go_wp2;go_ret;exact⟨rfl,d⟩
end Str
namespace Dst
open Go Go.RowKit Go.Proofs.YthopehoklmgphaaGreatDoor R5 Scn Hx Rdx Str
def drdL(E F:Int)(mode:Nat)(sep S:ByteArray)(q1h:Nat)(ended:Bool):List qm:=
 [.int .i64 E,.int .i64 F,.int .u8 (mode:Int),.string sep,.string S,.int .i64 (q1h:Int),.bool ended]
def qfk(E F:Int)(mode:Nat)(sep:ByteArray)(w:qc)(e:Ending)(w':qc):Prop:=
 qg w.heap.size w w'/\((q0R E F mode sep≠0/\e=.returned (.tuple #[.pointer qa,.int .i64 (q0R E F mode sep:Int)])) \/
  (q0R E F mode sep=0/\∃g,e=.returned (.tuple #[.pointer (qd ⟨g,0,qa⟩),.int .i64 0])/\w.heap.size<=g/\Blk w' g 53 (drdL E F mode sep ⟨#[]⟩ 0 qh)))
theorem New(E F:Int)(mode:Nat)(sep:ByteArray)(w:qc)(hsz:sep.size<=140737488351232):qi qb 6 #[fm E F,.int .u8 (mode:Int),.string sep] w (qfk E F mode sep w):=by
 have i:=vv fun w=>qes E F mode sep w hsz
 obtain⟨p,h⟩:=yx (w.alloc (.cells #[.int .i64 E,.int .i64 F] 23));have c:Ctx w [(w.heap.size,23,[.int .i64 E,.int .i64 F])] p:=by rw[h];exact(Ctx.nil w).new _ _ rfl
 have d:=(c.get 0 rfl).cell 0;have f:=(c.get 0 rfl).cell 1;have j:=(c.get 0 rfl).lt;simp only[k07,k0c] at d f;have m:=vv c;have n:=vv h;clear c h hsz;obtain⟨N,k⟩:=yx (q0R E F mode sep);rw[<- k] at i;have l:=vv k;clear k;by_cases h0:N=0
 ·subst h0;go_enter func6,ntmps6;go_wp2_with fail;rw[<- n.o];go_wp2_with fail;refine(i.o _).mono ?_;rintro e b ⟨rfl,g⟩;have a:=vv (m.o.step g);clear g d f j;have d:=(a.o.get 0 rfl).cell 0;have f:=(a.o.get 0 rfl).cell 1;have j:=(a.o.get 0 rfl).lt;simp only[k07,k0c] at d f;go_wp2;go_ret2;have q:qg b.heap.size b (b.alloc (.cells #[.int .i64 E,.int .i64 F,.int .u8 (mode:Int),.string sep,.string ⟨#[]⟩,.int .i64 0,.bool qh] 53)):=(qf _ _).alloc lr _;exact⟨(a.o.step q).low,.inr ⟨l.o.symm,b.heap.size,rfl,a.o.low.size,Blk.made b _ (drdL E F mode sep ⟨#[]⟩ 0 qh)⟩⟩
 ·have s:((N:Int) != 0)=qk:=by rw[k1r];omega
  have r:qq (q0R E F mode sep≠0):=vv (by rw[<- l.o];exact h0);clear h0;go_enter func6,ntmps6;go_wp2_with fail;rw[<- n.o];go_wp2_with fail;refine(i.o _).mono ?_;rintro e b ⟨rfl,g⟩;have a:=vv (m.o.step g);clear g d f j;go_wp2;go_ret2;exact⟨a.o.low,.inl ⟨r.o,by rw[<- l.o];rfl⟩⟩
structure DrdC(w:qc)(g:Nat)(E F:Int)(mode:Nat)(sep S:ByteArray)(q1h:Nat)(ended:Bool):Prop where
 c0:w.cell? ⟨g,0,qa⟩=qd (.int .i64 E)
 c1:w.cell? ⟨g,1,qa⟩=qd (.int .i64 F)
 c2:w.cell? ⟨g,2,qa⟩=qd (.int .u8 (mode:Int))
 c3:w.cell? ⟨g,3,qa⟩=qd (.string sep)
 c4:w.cell? ⟨g,4,qa⟩=qd (.string S)
 c5:w.cell? ⟨g,5,qa⟩=qd (.int .i64 (q1h:Int))
 c6:w.cell? ⟨g,6,qa⟩=qd (.bool ended)
theorem qb4{q1h:Nat}{ended:Bool}(h:Blk w g 53 (drdL E F mode sep S q1h ended)):DrdC w g E F mode sep S q1h ended:=⟨h.cell 0,h.cell 1,h.cell 2,h.cell 3,h.cell 4,h.cell 5,h.cell 6⟩
theorem q0H.other{ts:List Tk}{t:TypeId}{cs:List qm}(h:q0H E F mode w v ts)(hb:Blk w g t cs)(hcs:cs.all (fun v=>match v with|.int .u64 _=>qh|_=>qk)=qk)(hg:w.grownBy w' (qd g)):q0H E F mode w' v ts:=by
 obtain⟨A,c,m,n⟩:=h;refine⟨A,c,m,fun hp=>?_⟩;obtain⟨q,o,e,a,b⟩:=n hp;have k:q≠g:=by rintro rfl;obtain⟨r,s,x,l⟩:=q4T E F mode ts[0].1 ts[0].2;have d:=b 0 hp;rw[l] at d;have f:w.cell? ⟨q,o+0*5+0,qa⟩=qd (.int .u64 r):=d 0 _ rfl;rw[hb.cell] at f;have:=k1W.1 hcs _ (k2D f);simp at this
 exact⟨q,o,e,k01 a hg.size,fun i hi j u hu=>(q0u hg (p:=⟨q,o+i*5+j,qa⟩) a k).trans (b i hi j u hu)⟩
def qcP(g:Nat)(E F:Int)(mode:Nat)(sep S:ByteArray)(q1h:Nat)(ended:Bool)(w:qc)(e:Ending)(w':qc):Prop:=
 ∃v,e=.returned v/\q0H E F mode w' v ((allT sep S ended).drop q1h)/\Blk w' g 53 (drdL E F mode sep S (allT sep S ended).length ended)/\w.grownBy w' (qd g)
theorem q3B(g:Nat)(E F:Int)(mode:Nat)(sep S:ByteArray)(q1h:Nat)(ended:Bool)(w:qc)(h:Blk w g 53 (drdL E F mode sep S q1h ended))(hg:Bg w)(hS:S.size<=1048576)(hsp:sep.size<=140737488351232)(htold:q1h<=(allT sep S ended).length):qi qb 29 #[.pointer (qd ⟨g,0,qa⟩)] w (qcP g E F mode sep S q1h ended w):=by
 have HA:=vv fun W (hW:qg w.heap.size w W)=>All E F mode sep S ended W (hg.below hW) hS hsp
 have hC:=qb4 h;have hl:=h.lt;have f5:=h.fz 5;obtain⟨z,C,D,G,H,c5,I⟩:=hC;obtain⟨m,J⟩:∃m,(allT sep S ended).length=q1h+m:=⟨(allT sep S ended).length-q1h,by omega⟩;have U:(allT sep S ended).length<=1048577:=by
  have L:=q3X (q0S++sep) (q0f S) 0 qa;rw[q11] at L;simp only[Option.toList_none,k1p] at L;have a:(allT sep S ended).length<=(q8c (q0S++sep) 0 qa (q0f S)).length:=by
   unfold allT;cases ended
   ·unfold q8c;rw[k0p];exact Nat.le_add_right _ _
   ·exact lr
  omega
 have HH:=vv h;have HM:=vv J;have a2:(q1h:Int)+(m:Int)<=1048577:=by omega
 obtain⟨b,r⟩:=yx (allT sep S ended);have k:=vv r;clear h hg hS hsp htold J U r;go_enter func29,ntmps29;go_wp2_with fail;refine q02 (fun w'=>w'.cell? ⟨g,0,qa⟩=qd (.int .i64 E)/\w'.cell? ⟨g,1,qa⟩=qd (.int .i64 F)/\w'.cell? ⟨g,2,qa⟩=qd (.int .u8 (mode:Int))/\w'.cell? ⟨g,3,qa⟩=qd (.string sep)/\w'.cell? ⟨g,4,qa⟩=qd (.string S)/\w'.cell? ⟨g,6,qa⟩=qd (.bool ended)) 25
  (.still 0 (.still 1 (.still 2 (.still 3 (.still 4 (.still 5 (.still 6 (.still 7 (.still 8 (.still 9 (.still 10 (.still 11 (.still 12 (.still 13 (.still 14 (.still 15 (.still 16 (.still 17 (.still 18 (.still 19 (.one 20 (.still 21 (.still 22 (.still 23 (.still 24 .done))))))))))))))))))))))))) (by kernel_rfl) (by kernel_rfl) (fun _ _ d _ _ h=>by cases d<;>exact h) ⟨z,C,D,G,H,I⟩ (fun hS0=>?_)
 iterate 20
  refine q01 (v:=?_) rfl (by rfl) ?_ ?_;rotate_left
  ·intro w V;go_simp;with_reducible rfl
  simp only[Act.put,sa,sb,sc]
 refine q04 rfl (by rfl) (fun K hK=>?_);go_simp;refine(HA.o _ (q07 (qf _ _))).mono ?_;rintro e f ⟨v,rfl,s,i⟩;have l:qg w.heap.size w f:=⟨i.os,i.tape,i.output,i.size,i.block⟩;have HB:=vv l;have n:f.ownsRow w.heap.size 48 5 v b.length (q0v E F mode b):=by rw[k.o];exact s
 have a:=HH.o.below l;obtain⟨M,N,O,P,Q,d5,R⟩:=qb4 a;have dl:=a.lt;have a3:=a.fz 5;have T:=vv a;refine hK.out _ _ ⟨M,N,O,P,Q,R⟩ (fun X=>?_);clear hK X hS0 z C D G H c5 I hl f5 M N O P Q R
 iterate 4
  refine q01 (v:=?_) rfl (by rfl) ?_ ?_;rotate_left
  ·intro w V;go_simp;with_reducible rfl
  simp only[Act.put,sa,sb,sc]
 refine q0a ?_;simp only[k0P,k0L];obtain⟨A,c,rfl⟩:=q4d n;have j:b.length=q1h+m:=by rw[k.o];exact HM.o
 obtain⟨-,hc,t,A',Y,u⟩:=q0H.drop_row n q1h m j;have q:=vv (And.intro t u);have a4:(q1h:Int)<=(c:Int):=by omega
 have a5:q1h<=q1h+m:=by omega
 have Z:=vv j;rw[j];clear j;have a0:qq (∀W,q0H E F mode W (.slice A m (c-q1h)) (b.drop q1h)\/q0H E F mode W (.slice A' m (c-q1h)) (b.drop q1h)->True):=vv (fun _ _=>trivial);have x:qq (Blk (f.setCell ⟨g,5,qa⟩ (.int .i64 ((q1h:Int)+(m:Int)))) g 53 (drdL E F mode sep S (q1h+m) ended)/\w.grownBy (f.setCell ⟨g,5,qa⟩ (.int .i64 ((q1h:Int)+(m:Int)))) (qd g)):=vv ⟨by
  have e:=T.o.set 5 (.int .i64 ((q1h:Int)+(m:Int)));have e2:(drdL E F mode sep S q1h ended).set 5 (.int .i64 ((q1h:Int)+(m:Int)))=drdL E F mode sep S (q1h+m) ended:=by unfold drdL;rw[show((q1h+m:Nat):Int)=(q1h:Int)+(m:Int) by omega];rfl
  rw[e2] at e;exact e,q00 (q03 HB.o (qd g)) (q09 (ql _ _) (.inl rfl) _)⟩
 have a1:q1h+m-q1h=m:=by omega
 have y:qq (∀v,q0H E F mode f v (b.drop q1h)->qcP g E F mode sep S q1h ended w (.returned v) (f.setCell ⟨g,5,qa⟩ (.int .i64 ((q1h:Int)+(m:Int))))):=vv (fun v hv=>by unfold qcP;rw[<- k.o,Z.o];exact⟨v,rfl,q0H.other hv T.o rfl (q09 (ql _ _) (.inl rfl) _),x.o.1,x.o.2⟩);clear i l s n a t u hc a0;by_cases hck:c=q1h
 ·subst hck;have hi:=q.o.1 rfl;rw[k2B] at hi;have p:=vv hi;clear hi Y;go_wp2;go_ret;exact y.o _ p.o
 ·have p:=vv q.o.2;clear q;go_wp2;go_ret;exact y.o _ p.o
def qdS(g:Nat)(E F:Int)(mode:Nat)(sep S s:ByteArray)(q1h:Nat)(w:qc)(e:Ending)(w':qc):Prop:=
 ∃v,e=.returned (.tuple #[v,.int .i64 0])/\q0H E F mode w' v ((allT sep (S++s) qh).drop q1h)/\Blk w' g 53 (drdL E F mode sep (S++s) (allT sep (S++s) qh).length qh)/\w.grownBy w' (qd g)
theorem Feed_none(s:ByteArray)(w:qc):qi qb 18 #[.pointer qa,.string s] w fun e w'=>e=.returned (.tuple #[.slice qa 0 0,.int .i64 1])/\w=w':=by go_enter func18,ntmps18;go_wp2;go_ret2;exact⟨rfl,rfl⟩
theorem Feed_ended(g:Nat)(E F:Int)(mode:Nat)(sep S s:ByteArray)(q1h:Nat)(w:qc)(h:Blk w g 53 (drdL E F mode sep S q1h qk)):qi qb 18 #[.pointer (qd ⟨g,0,qa⟩),.string s] w fun e w'=>e=.returned (.tuple #[.slice qa 0 0,.int .i64 240])/\w=w':=by have a:=(qb4 h).c6;have b:=h.lt;clear h;go_enter func18,ntmps18;go_wp2;go_ret2;exact⟨rfl,rfl⟩
theorem Feed(g:Nat)(E F:Int)(mode:Nat)(sep S s:ByteArray)(q1h:Nat)(w:qc)(h:Blk w g 53 (drdL E F mode sep S q1h qh))(hg:Bg w)(hS:(S++s).size<=1048576)(hsp:sep.size<=140737488351232)(htold:q1h<=(allT sep (S++s) qh).length)(hgb:∀W,w.grownBy W (qd g)->Bg W):qi qb 18 #[.pointer (qd ⟨g,0,qa⟩),.string s] w (qdS g E F mode sep S s q1h w):=by
 obtain⟨u,x,y,z,C,D,G⟩:=qb4 h;have H:=h.lt;have I:=h.fz 4;obtain⟨T,a⟩:=yx (S++s);rw[<- a] at hS htold;have p:T.size=S.size+s.size:=by rw[a,ByteArray.size_append]
 obtain⟨f,b⟩:=yx (w.setCell ⟨g,4,qa⟩ (.string T));have i:Blk f g 53 (drdL E F mode sep T q1h qh):=by rw[b];exact h.set 4 _
 have d:w.grownBy f (qd g):=by rw[b];exact q09 (ql _ _) (.inl rfl) _
 have J:=vv (q3B g E F mode sep T q1h qh f i (hgb _ d) hS hsp htold);have q:=vv d;have K:=vv b;have r:=vv a;have t:S++s=T:=a.symm;have O:(S.size:Int)+(s.size:Int)<=1048576:=by omega
 clear h i d b a p hg hgb htold hsp hS;go_enter func18,ntmps18;go_wp2_with (first|rw[<- K.o]|fail);refine J.o.mono ?_;rintro e P ⟨v,rfl,j,k,l⟩;have L:=vv j;have M:=vv k;have N:=vv (q00 q.o l);obtain⟨A,c,m,-⟩:=j;generalize List.length _=n at m;subst m;clear k l u x y z C D G H I t;go_wp2;go_ret2;unfold qdS;rw[<- r.o];exact⟨_,rfl,L.o,M.o,N.o⟩
def qfn(g:Nat)(E F:Int)(mode:Nat)(sep S:ByteArray)(q1h:Nat)(w:qc)(e:Ending)(w':qc):Prop:=
 ∃v,e=.returned (.tuple #[v,.int .i64 0])/\q0H E F mode w' v ((allT sep S qk).drop q1h)/\Blk w' g 53 (drdL E F mode sep S (allT sep S qk).length qk)/\w.grownBy w' (qd g)
theorem End_none_(w:qc):qi qb 21 #[.pointer qa] w fun e w'=>e=.returned (.tuple #[.slice qa 0 0,.int .i64 1])/\w=w':=by go_enter func21,ntmps21;go_wp2;go_ret2;exact⟨rfl,rfl⟩
theorem End_ended_(g:Nat)(E F:Int)(mode:Nat)(sep S:ByteArray)(q1h:Nat)(w:qc)(h:Blk w g 53 (drdL E F mode sep S q1h qk)):qi qb 21 #[.pointer (qd ⟨g,0,qa⟩)] w fun e w'=>e=.returned (.tuple #[.slice qa 0 0,.int .i64 240])/\w=w':=by have a:=(qb4 h).c6;have b:=h.lt;clear h;go_enter func21,ntmps21;go_wp2;go_ret2;exact⟨rfl,rfl⟩
theorem End_(g:Nat)(E F:Int)(mode:Nat)(sep S:ByteArray)(q1h:Nat)(w:qc)(h:Blk w g 53 (drdL E F mode sep S q1h qh))(hS:S.size<=1048576)(hsp:sep.size<=140737488351232)(htold:q1h<=(allT sep S qk).length)(hgb:∀W,w.grownBy W (qd g)->Bg W):qi qb 21 #[.pointer (qd ⟨g,0,qa⟩)] w (qfn g E F mode sep S q1h w):=by
 obtain⟨p,q,r,s,t,u,x⟩:=qb4 h;have y:=h.lt;have z:=h.fz 6;obtain⟨d,a⟩:=yx (w.setCell ⟨g,6,qa⟩ (.bool qk));have f:Blk d g 53 (drdL E F mode sep S q1h qk):=by rw[a];exact h.set 6 _
 have b:w.grownBy d (qd g):=by rw[a];exact q09 (ql _ _) (.inl rfl) _
 have C:=vv (q3B g E F mode sep S q1h qk d f (hgb _ b) hS hsp htold);have m:=vv b;have D:=vv a;clear h f b a hgb htold hsp hS;go_enter func21,ntmps21;go_wp2_with (first|rw[<- D.o]|fail);refine C.o.mono ?_;rintro e J ⟨v,rfl,i,j,k⟩;have G:=vv i;have H:=vv j;have I:=vv (q00 m.o k);obtain⟨A,c,l,-⟩:=i;generalize List.length _=n at l;subst l;clear j k p q r s t u x y z;go_wp2;go_ret2;exact⟨_,rfl,G.o,H.o,I.o⟩
theorem At_none(w:qc):qi qb 9 #[.pointer qa] w fun e w'=>e=.returned (.int .i64 0)/\w=w':=by go_enter func9,ntmps9;go_wp2;go_ret;exact⟨rfl,rfl⟩
theorem At(g:Nat)(E F:Int)(mode:Nat)(sep S:ByteArray)(q1h:Nat)(ended:Bool)(w:qc)(h:Blk w g 53 (drdL E F mode sep S q1h ended)):qi qb 9 #[.pointer (qd ⟨g,0,qa⟩)] w fun e w'=>e=.returned (.int .i64 (S.size:Int))/\w=w':=by have a:=(qb4 h).c4;have b:=h.lt;clear h;go_enter func9,ntmps9;go_wp2;go_ret;exact⟨rfl,rfl⟩
theorem Held_none(w:qc):qi qb 11 #[.pointer qa] w fun e w'=>e=.returned (.int .i64 0)/\w=w':=by go_enter func11,ntmps11;go_wp2;go_ret;exact⟨rfl,rfl⟩
theorem Held(g:Nat)(E F:Int)(mode:Nat)(sep S:ByteArray)(q1h:Nat)(ended:Bool)(w:qc)(h:Blk w g 53 (drdL E F mode sep S q1h ended))(hg:Bg w)(hS:S.size<=1048576)(hsp:sep.size<=140737488351232):qi qb 11 #[.pointer (qd ⟨g,0,qa⟩)] w fun e w'=>e=.returned (.int .i64 (qbE sep S ended:Int))/\qg w.heap.size w w':=by
 have z:=vv fun W (hW:qg w.heap.size w W)=>All E F mode sep S ended W (hg.below hW) hS hsp
 obtain⟨i,j,k,l,m,C,n⟩:=qb4 h;have D:=h.lt;have G:=vv h;clear h hg hS hsp;go_enter func11,ntmps11;go_wp2_with fail;refine q02 (fun w'=>w'.cell? ⟨g,0,qa⟩=qd (.int .i64 E)/\w'.cell? ⟨g,1,qa⟩=qd (.int .i64 F)/\w'.cell? ⟨g,2,qa⟩=qd (.int .u8 (mode:Int))/\w'.cell? ⟨g,3,qa⟩=qd (.string sep)/\w'.cell? ⟨g,4,qa⟩=qd (.string S)/\w'.cell? ⟨g,6,qa⟩=qd (.bool ended)) 25
  (.still 0 (.still 1 (.still 2 (.still 3 (.still 4 (.still 5 (.still 6 (.still 7 (.still 8 (.still 9 (.still 10 (.still 11 (.still 12 (.still 13 (.still 14 (.still 15 (.still 16 (.still 17 (.still 18 (.still 19 (.one 20 (.still 21 (.still 22 (.still 23 (.still 24 .done))))))))))))))))))))))))) (by kernel_rfl) (by kernel_rfl) (fun _ _ d _ _ h=>by cases d<;>exact h) ⟨i,j,k,l,m,n⟩ (fun hS0=>?_)
 iterate 20
  refine q01 (v:=?_) rfl (by rfl) ?_ ?_;rotate_left
  ·intro w x;go_simp;with_reducible rfl
  simp only[Act.put,sa,sb,sc]
 refine q04 rfl (by rfl) (fun K hK=>?_);go_simp;refine(z.o _ (q07 (qf _ _))).mono ?_;rintro e H ⟨v,rfl,f,a⟩;have b:qg w.heap.size w H:=⟨a.os,a.tape,a.output,a.size,a.block⟩;have I:=vv b;obtain⟨p,q,r,s,t,J,u⟩:=qb4 (G.o.below b);obtain⟨A,c,rfl⟩:=q4d f;refine hK.out _ _ ⟨p,q,r,s,t,u⟩ (fun y=>?_);clear hK y hS0 i j k l m C n D p q r s t J u f a b
 iterate 4
  refine q01 (v:=?_) rfl (by rfl) ?_ ?_;rotate_left
  ·intro w x;go_simp;with_reducible rfl
  simp only[Act.put,sa,sb,sc]
 refine q0a ?_;simp only[k0P,k0L];go_wp2;go_ret;exact⟨rfl,I.o⟩
end Dst
namespace Str
open Go Go.RowKit Go.Proofs.YthopehoklmgphaaGreatDoor R5 Scn Hx Rdx
theorem q5v(s t:ByteArray):q0f (s++t)=q0f s++q0f t:=by unfold q0f;rw[ByteArray.data_append,Array.toList_append,List.map_append]
structure Kt(M:Nat->Prop)(q:Option qn)(A B:qc):Prop where
 os:B.os=A.os
 tape:B.tape=A.tape
 output:B.output=A.output
 size:A.heap.size<=B.heap.size
 block:∀k,k<A.heap.size->B.heap[k]?=A.heap[k]?\/(M k/\∃(cs:Array qm) (t:TypeId),A.heap[k]?=qd (Obj.cells cs t (0,0))/\RT t)\/q=qd ⟨k,0,qa⟩
theorem Kt.trans{A B C:qc}(h:Kt M q A B)(k:Kt M q B C):Kt M q A C:=⟨k.os.trans h.os,k.tape.trans h.tape,k.output.trans h.output,k06 h.size k.size,fun i hi=>by
  rcases h.block i hi with e|e
  ·rcases k.block i (k01 hi h.size) with e'|⟨hg,cs,t,ht,hT⟩|e'
   ·exact .inl (e'.trans e)
   ·exact .inr (.inl ⟨hg,cs,t,by rw[<- e];exact ht,hT⟩)
   ·exact .inr (.inr e')
  ·exact .inr e⟩
theorem Kt.below{A B:qc}(h:qg A.heap.size A B):Kt M q A B:=⟨h.os,h.tape,h.output,h.size,fun k hk=>.inl (h.block k hk)⟩
theorem Kt.kq{A B:qc}(h:Kq N A B)(hN:∀k,k<A.heap.size->N k->M k):Kt M q A B:=⟨h.os,h.tape,h.output,h.size,fun k hk=>(h.block k hk).imp id fun⟨a,b⟩=>.inl ⟨hN k hk a,b⟩⟩
theorem Kt.only{A B:qc}(h:A.grownBy B (qd d)):Kt M (qd ⟨d,0,qa⟩) A B:=⟨h.os,h.tape,h.output,h.size,fun k hk=>by
 by_cases e:k=d
 ·exact .inr (.inr (by rw[e]))
 ·exact .inl (h.block k hk (fun e'=>e (by injection e')))⟩
theorem Kt.low{A B:qc}(h:Kt M q A B)(hM:∀k,M k->n<=k)(hq:∀d,q=qd ⟨d,0,qa⟩->n<=d)(hn:n<=A.heap.size):qg n A B:=by
 refine⟨h.os,h.tape,h.output,h.size,fun k hk=>?_⟩;rcases h.block k (k01 hk hn) with e|⟨e,-⟩|e
 ·exact e
 ·have:=hM k e;omega
 ·have:=hq k e;omega
def q1X(w:qc)(M:Nat->Prop)(E F:Int)(mode:Nat)(sep:ByteArray)(p q:Option qn)(S:ByteArray):Prop:=
 (qa5 w p 1 0/\q=qa/\∀g,p=qd ⟨g,0,qa⟩->M g) \/
 (∃g d,p=qd ⟨g,0,qa⟩/\q=qd ⟨d,0,qa⟩/\RdQ w M g E F mode (q0S++sep) S.size (q10 (q0S++sep) 0 qa (q0f S)).1/\Blk w d 53 (Dst.drdL E F mode sep S (Dst.allT sep S qh).length qh)) \/
 (∃g d,p=qd ⟨g,0,qa⟩/\q=qd ⟨d,0,qa⟩/\M g/\q8g w g E F mode (q0S++sep) S.size/\Blk w d 53 (Dst.drdL E F mode sep S (Dst.allT sep S qk).length qk))
def qfo(w:qc)(n:Nat)(q:Option qn):Prop:=∀d,q=qd ⟨d,0,qa⟩->n<=d/\∃cs,Blk w d 53 cs
theorem q1X.doc(h:q1X w M E F mode sep p q S):q=qa\/∃d cs,q=qd ⟨d,0,qa⟩/\Blk w d 53 cs:=by
 rcases h with ⟨-,h,-⟩|⟨g,d,-,h,-,k⟩|⟨g,d,-,h,-,-,k⟩
 ·exact .inl h
 ·exact .inr ⟨d,_,h,k⟩
 ·exact .inr ⟨d,_,h,k⟩
theorem q1X.blocks{A B:qc}(h:q1X A N E F mode sep p2 q2 S)
  (hR:∀(k:Nat) (cs:Array qm) (t:TypeId),N k->RT t->A.heap[k]?=qd (.cells cs t (0,0))->B.heap[k]?=qd (.cells cs t (0,0)))
  (hD:∀(d:Nat) (cs:List qm),q2=qd ⟨d,0,qa⟩->Blk A d 53 cs->Blk B d 53 cs):q1X B N E F mode sep p2 q2 S:=by
 rcases h with ⟨a,b,c⟩|⟨g,d,a,b,c,e⟩|⟨g,d,a,b,c,e,f⟩
 ·refine .inl ⟨?_,b,c⟩;rcases a with a|⟨g,i,j,mode',seps',l,m,a,n,e⟩
  ·exact .inl a
  ·exact .inr ⟨g,i,j,mode',seps',l,m,a,hR _ _ _ (c g a) (.inl rfl) n,e⟩
 ·exact .inr (.inl ⟨g,d,a,b,c.blocks (fun _ _ h=>h) hR,hD d _ b e⟩)
 ·exact .inr (.inr ⟨g,d,a,b,c,hR _ _ _ c (.inl rfl) e,hD d _ b f⟩)
theorem q1X.keep{A B:qc}(h:q1X A N E F mode sep p2 q2 S)(hk:Kt M q A B)(hd:∀k,k<A.heap.size->N k->¬M k)
  (hq:q=qa\/∃d cs,q=qd ⟨d,0,qa⟩/\Blk A d 53 cs) (hn:q2=qa\/q2≠q):q1X B N E F mode sep p2 q2 S:=by
 have j:∀(k:Nat) (cs:Array qm) (t:TypeId),N k->RT t->A.heap[k]?=qd (.cells cs t (0,0))->B.heap[k]?=qd (.cells cs t (0,0)):=by
  intro k cs t l g e;have i:=(k09.1 e).1;rcases hk.block k i with a|⟨a,-⟩|a
  ·exact a.trans e
  ·exact absurd a (hd k i l)
  ·rcases hq with c|⟨d,p,c,f⟩
   ·rw[c] at a;cases a
   ·rw[c] at a;have m:d=k:=by injection a with a;injection a
    subst m;have b:=f.symm.trans e;injection b with b;injection b with _ b;subst b;exact absurd g (by unfold RT;decide)
 have n:∀(d:Nat) (cs:List qm),q2=qd ⟨d,0,qa⟩->Blk A d 53 cs->Blk B d 53 cs:=by
  intro d cs e f;rcases hk.block d f.lt with a|⟨-,o,t,a,g⟩|a
  ·exact a.trans f
  ·have b:=f.symm.trans a;injection b with b;injection b with _ b;subst b;exact absurd g (by unfold RT;decide)
  ·rcases hn with c|c
   ·rw[c] at e;cases e
   ·exact absurd (e.trans a.symm) c
 exact h.blocks j n
theorem q1X.mono{A:qc}(h:q1X A M E F mode sep p q S)(hN:∀k,k<A.heap.size->M k->N k):q1X A N E F mode sep p q S:=by
 rcases h with ⟨a,b,c⟩|⟨g,d,a,b,c,f⟩|⟨g,d,a,b,c,f,i⟩
 ·refine .inl ⟨a,b,fun g hg=>hN g ?_ (c g hg)⟩;rcases a with ⟨a,-⟩|⟨j,_,_,_,_,_,_,a,l,-⟩
  ·rw[a] at hg;cases hg
  ·rw[a] at hg;have e:j=g:=by injection hg with hg;injection hg
   exact e ▸ l.lt
 ·exact .inr (.inl ⟨g,d,a,b,c.mono hN,f⟩)
 ·exact .inr (.inr ⟨g,d,a,b,hN _ f.lt c,f,i⟩)
theorem q1X.below{A B:qc}(h:q1X A M E F mode sep p q S)(hb:qg A.heap.size A B):q1X B M E F mode sep p q S:=h.keep (M:=fun _=>False) (q:=qa) (Kt.below hb) (fun _ _ _ h=>h) (.inl rfl) (Classical.em _)
theorem q1X.stand(h:q1X w M E F mode sep p q S):∃n:Nat,qi qb 8 #[.pointer p] w (fun e w'=>e=.returned (.int .i64 (n:Int))/\w=w')/\qi qb 9 #[.pointer q] w (fun e w'=>e=.returned (.int .i64 (n:Int))/\w=w'):=by
 rcases h with ⟨b,rfl,-⟩|⟨g,d,rfl,rfl,⟨⟨T,c,-⟩,-,-⟩,a⟩|⟨g,d,rfl,rfl,-,a,f⟩
 ·exact⟨0,qcY b,Dst.At_none w⟩
 ·exact⟨S.size,At g E F mode _ _ _ _ w c,Dst.At d E F mode sep S _ _ w a⟩
 ·exact⟨S.size,At g E F mode _ _ _ _ w a,Dst.At d E F mode sep S _ _ w f⟩
theorem q1X.held(h:q1X w M E F mode sep p q S)(hg:Bg w)(hS:S.size<=20000)(hsp:sep.size<=140737488351232):∃n:Nat,qi qb 10 #[.pointer p] w (fun e w'=>e=.returned (.int .i64 (n:Int))/\w=w')/\qi qb 11 #[.pointer q] w (fun e w'=>e=.returned (.int .i64 (n:Int))/\qg w.heap.size w w'):=by
 rcases h with ⟨b,rfl,-⟩|⟨g,d,rfl,rfl,⟨⟨T,c,f⟩,-,-⟩,a⟩|⟨g,d,rfl,rfl,-,a,i⟩
 ·exact⟨0,q9X b,(Dst.Held_none w).mono fun e w' h=>⟨h.1,by rw[<- h.2];exact qf _ _⟩⟩
 ·exact⟨q80 _,Held g 0 E F mode _ _ _ _ _ w c f.at_,Dst.Held d E F mode sep S _ qh w a hg (by omega) hsp⟩
 ·exact⟨0,Held g 0 E F mode _ _ _ _ qa w a rfl,Dst.Held d E F mode sep S _ qk w i hg (by omega) hsp⟩
def qer(fd:FuncId)(w:qc)(M:Nat->Prop)(E F:Int)(mode:Nat)(sep:ByteArray)(p q:Option qn)(args:List qm)(room:Nat)(e:Ending)(w1:qc):Prop:=
 ∃(v:qm) (c:Nat) (ts:List Tk),e=.returned (.tuple #[v,.int .i64 (c:Int)])/\ts.length<=20001/\Kt M qa w w1/\qi qb fd (.pointer q::args).toArray w1 fun e w2 =>∃u,e=.returned (.tuple #[u,.int .i64 (c:Int)])/\q0H E F mode w2 u ts/\w2.ownsRow w.heap.size 48 5 v ts.length (q0v E F mode ts)/\Kt M q w w2 /\∃S',S'.size<=room/\q1X w2 (fun k=>(M k\/w.heap.size<=k)/\k<w2.heap.size) E F mode sep p q S'
theorem q1X.wide(h:q1X w M E F mode sep p q S):q1X w (fun k=>(M k\/w.heap.size<=k)/\k<w.heap.size) E F mode sep p q S:=h.mono fun k hk hM=>⟨.inl hM,hk⟩
theorem q1X.feed(hg0:Bg w00)(ht0:qfF w00)(hw:qg w00.heap.size w00 w)(h:q1X w M E F mode sep p q S)(hM:∀k,M k->w00.heap.size<=k)
  (hq:∀d,q=qd ⟨d,0,qa⟩->w00.heap.size<=d) (s:ByteArray) (hs:S.size+s.size<=20000) (hsp:sep.size<=140737488351232) :
  qi qb 13 #[.pointer p,.string s] w (qer 18 w M E F mode sep p q [.string s] (S.size+s.size)):=by
 have r:S.size<=S.size+s.size:=Nat.le_add_right _ _;have z:=h;rcases h with ⟨N,rfl,-⟩|⟨g,d,rfl,rfl,O,m⟩|⟨g,d,rfl,rfl,R,m,P⟩
 ·refine(q6c N s).mono ?_;rintro e c ⟨rfl,rfl⟩;refine⟨_,1,[],rfl,by decide,Kt.below (qf _ _),(Dst.Feed_none s _).mono ?_⟩;rintro e C ⟨rfl,rfl⟩;exact⟨_,rfl,q0H.nil _ _ _ _,qj _ _ _ _,Kt.below (qf _ _),S,r,z.wide⟩
 ·have G:q0f (S++s)=q0f S++q0f s:=q5v S s;have i:=q2e (q0S++sep) (q0f S) (q0f s) 0 qa;rw[<- G,q11,k13] at i;have H:(S++s).size=S.size+s.size:=ByteArray.size_append;have I:(q10 (q0S++sep) S.size (q10 (q0S++sep) 0 qa (q0f S)).1 (q0f s)).2.length<=20001:=by have:=q5c (q0S++sep) (q0f s) S.size (q10 (q0S++sep) 0 qa (q0f S)).1;rw[q11] at this;omega
  have x:Dst.allT sep (S++s) qh=Dst.allT sep S qh++(q10 (q0S++sep) S.size (q10 (q0S++sep) 0 qa (q0f S)).1 (q0f s)).2:=by simp only[Dst.allT,k1t,if_false];rw[i]
  refine(qdR (fun k=>M k\/w.heap.size<=k) w00 hg0 ht0 g mode S.size E F (q0S++sep) s _ (by omega) (by omega) (fun k hk=>hk.elim (hM k) fun e=>k06 hw.size e) w (fun k hk=>.inr hk) hw (O.mono fun k _ e=>.inl e)).mono ?_;rintro e c ⟨v,rfl,y,J,n⟩;have b:Kt M qa w c:=Kt.kq n fun k hk e=>e.elim id fun e=>absurd hk (Nat.not_lt.2 e)
  have j:qg w00.heap.size w00 c:=hw.trans (n.low (fun k hk=>hk.elim (hM k) fun e=>k06 hw.size e) hw.size);have l:=n.blk m (by unfold RT;decide);refine⟨v,0,_,rfl,I,b,(Dst.Feed d E F mode sep S s _ c l (hg0.below j) (by omega) hsp (by rw[x,k0p];exact Nat.le_add_right _ _) (fun W hW=>hg0.below (q0h j hW j.size (hq d rfl)))).mono ?_⟩;rintro e C ⟨u,rfl,D,K,a⟩;rw[x,List.drop_left] at D;refine⟨u,rfl,D,y.kept a (.inr (q6p l y (by decide))),⟨a.os.trans b.os,a.tape.trans b.tape,a.output.trans b.output,k06 b.size a.size,fun k hk=>?_⟩,S++s,by omega,.inr (.inl ⟨g,d,rfl,rfl,?_,K⟩)⟩
  ·by_cases e:k=d
   ·exact .inr (.inr (by rw[e]))
   ·rw[a.block k (k01 hk b.size) (fun o=>e (by injection o))];exact(b.block k hk).imp id fun e=>e.imp id fun e=>by cases e
  ·rw[i,H];refine J.blocks (fun k hk e=>⟨e,k01 hk a.size⟩) fun k cs t _ ht e=>(a.block k (k09.1 e).1 ?_).trans e
   intro o;have Q:k=d:=by injection o
   subst Q;have f:=l.symm.trans e;injection f with f;injection f with _ f;subst f;exact absurd ht (by unfold RT;decide)
 ·have L:qa5 w (qd ⟨g,0,qa⟩) 240 S.size:=.inr ⟨g,E,F,mode,_,qk,qk,rfl,m,.inr ⟨rfl,rfl,rfl⟩⟩;refine(q6c L s).mono ?_;rintro e c ⟨rfl,rfl⟩;refine⟨_,240,[],rfl,by decide,Kt.below (qf _ _),(Dst.Feed_ended d E F mode sep S s _ _ P).mono ?_⟩;rintro e C ⟨rfl,rfl⟩;exact⟨_,rfl,q0H.nil _ _ _ _,qj _ _ _ _,Kt.below (qf _ _),S,r,z.wide⟩
theorem q1X.finish(hg0:Bg w00)(ht0:qfF w00)(hw:qg w00.heap.size w00 w)(h:q1X w M E F mode sep p q S)(hM:∀k,M k->w00.heap.size<=k)
  (hq:∀d,q=qd ⟨d,0,qa⟩->w00.heap.size<=d) (hs:S.size<=20000) (hsp:sep.size<=140737488351232) :
  qi qb 14 #[.pointer p] w (qer 21 w M E F mode sep p q [] S.size):=by
 have r:=h;rcases h with ⟨D,rfl,-⟩|⟨g,d,rfl,rfl,s,j⟩|⟨g,d,rfl,rfl,I,j,G⟩
 ·refine(q7v D).mono ?_;rintro e c ⟨rfl,rfl⟩;refine⟨_,1,[],rfl,by decide,Kt.below (qf _ _),(Dst.End_none_ _).mono ?_⟩;rintro e t ⟨rfl,rfl⟩;exact⟨_,rfl,q0H.nil _ _ _ _,qj _ _ _ _,Kt.below (qf _ _),S,lr,r.wide⟩
 ·have y:(q10 (q0S++sep) 0 qa (q0f S)).1.toList.length<=20001:=by cases(q10 (q0S++sep) 0 qa (q0f S)).1<;>simp
  have m:Dst.allT sep S qk=Dst.allT sep S qh++(q10 (q0S++sep) 0 qa (q0f S)).1.toList:=by simp only[Dst.allT,q8c,if_true,k1t,if_false]
  refine(qfm M w00 hg0 ht0 g mode S.size E F (q0S++sep) _ hM w hw s).mono ?_;rintro e c ⟨v,rfl,n,H,l⟩;have b:Kt M qa w c:=Kt.kq l fun k hk e=>e
  have f:Blk c g 35 (q3q E F mode (q0S++sep) S.size qa qk qk):=H;have o:qg w00.heap.size w00 c:=hw.trans (l.low hM hw.size);have i:=l.blk j (by unfold RT;decide);refine⟨v,0,_,rfl,y,b,(Dst.End_ d E F mode sep S _ c i (by omega) hsp (by rw[m,k0p];exact Nat.le_add_right _ _) (fun W hW=>hg0.below (q0h o hW o.size (hq d rfl)))).mono ?_⟩;rintro e t ⟨u,rfl,x,z,a⟩;rw[m,List.drop_left] at x;refine⟨u,rfl,x,n.kept a (.inr (q6p i n (by decide))),⟨a.os.trans b.os,a.tape.trans b.tape,a.output.trans b.output,k06 b.size a.size,fun k hk=>?_⟩,S,lr,.inr (.inr ⟨g,d,rfl,rfl,⟨.inl s.own,?_⟩,?_,z⟩)⟩
  ·by_cases e:k=d
   ·exact .inr (.inr (by rw[e]))
   ·rw[a.block k (k01 hk b.size) (fun e'=>e (by injection e'))];exact(b.block k hk).imp id fun e=>e.imp id fun e=>by cases e
  ·exact k01 f.lt a.size
  ·exact f.grown a (fun e=>(q4q f i (by decide)) (by injection e with e;exact e.symm))
 ·have C:qa5 w (qd ⟨g,0,qa⟩) 240 S.size:=.inr ⟨g,E,F,mode,_,qk,qk,rfl,j,.inr ⟨rfl,rfl,rfl⟩⟩;refine(q7v C).mono ?_;rintro e c ⟨rfl,rfl⟩;refine⟨_,240,[],rfl,by decide,Kt.below (qf _ _),(Dst.End_ended_ d E F mode sep S _ _ G).mono ?_⟩;rintro e t ⟨rfl,rfl⟩;exact⟨_,rfl,q0H.nil _ _ _ _,qj _ _ _ _,Kt.below (qf _ _),S,lr,r.wide⟩
end Str
namespace Str
open Go Go.RowKit R5 Scn Hx Rdx
theorem Feed_ended(g:Nat)(E F:Int)(mode:Nat)(seps s:ByteArray)(at_:Nat)(tok:Option qn)(w:qc)
  (h:Blk w g 35 (q3q E F mode seps at_ tok qk qk)) :
  qi qb 13 #[.pointer (qd ⟨g,0,qa⟩),.string s] w fun e w'=>e=.returned (.tuple #[.slice qa 0 0,.int .i64 240])/\w=w':=by
 have a:=vv (there g E F mode seps at_ tok qk w h);clear h;go_enter func13,ntmps13;go_wp2_with fail;refine a.o.mono ?_;rintro e w' ⟨rfl,rfl⟩;go_wp2;go_ret2;exact⟨rfl,rfl⟩
theorem qbA(w:qc):qi qb 12 #[] w fun e w'=>e=.returned (fm 11 52)/\qg w.heap.size w w':=by go_enter func12,ntmps12;go_wp2;refine qs (v:=fm 11 52) (by simp [results,results12,go_sem,fm]) rfl ⟨rfl,(qf _ _).alloc lr _⟩
abbrev qa3:ByteArray:=⟨#[32,9,10,13,44]⟩
theorem q5y:q0U 11 52 (txt [49,46,53]) 0=(4609434218613702656,0,0,0)/\q0U 11 52 (txt [50,53]) 0=(4627730092099895296,0,0,0)/\(q0U 11 52 (txt [120]) 0).2.2.1≠0:=by decide +kernel
theorem q7n:q0R 11 52 0 ⟨#[44]⟩=0/\q0R 11 52 0 ⟨#[49]⟩=2/\q0S++(⟨#[44]⟩:ByteArray)=qa3:=by decide +kernel
theorem qbD:q10 qa3 0 qa (q0f ⟨#[49,46,53,44,50]⟩)=(qd ([50],4),[([49,46,53],0)])/\q10 qa3 5 (qd ([50],4)) (q0f ⟨#[53,32,120]⟩)=(qd ([120],7),[([50,53],4)]):=by decide +kernel
theorem q5x:q1i 11 52 0 [49,46,53] 0=[.int .u64 4609434218613702656,.int .u8 0,.int .i64 0,.int .i64 0,.int .i64 3]/\q1i 11 52 0 [50,53] 4=[.int .u64 4627730092099895296,.int .u8 0,.int .i64 0,.int .i64 4,.int .i64 2] /\∃c:Int,c≠0/\q1i 11 52 0 [120] 7=[.int .u64 0,.int .u8 0,.int .i64 c,.int .i64 7,.int .i64 1]:=by
 refine⟨?_,?_,_,q5y.2.2,?_⟩
 ·unfold q1i;rw[q5y.1];rfl
 ·unfold q1i;rw[q5y.2.1];rfl
 ·unfold q1i;rw[if_neg q5y.2.2];rfl
theorem q2h(E F:Int)(mode:Nat)(t:Tk):q0v E F mode [t]=q1i E F mode t.1 t.2:=by simp [q0v]
theorem q6o{x0 x1 x2 x3 x4:qm}(h:w.ownsRow base 48 5 v 1 [x0,x1,x2,x3,x4]):∃q cap,v=.slice (qd ⟨q,0,qa⟩) 1 cap/\base<=q/\q<w.heap.size/\1<=cap/\w.cell? ⟨q,0,qa⟩=qd x0/\w.cell? ⟨q,1,qa⟩=qd x1/\w.cell? ⟨q,2,qa⟩=qd x2/\w.cell? ⟨q,3,qa⟩=qd x3/\w.cell? ⟨q,4,qa⟩=qd x4:=by
 rcases h.2 with ⟨-,k⟩|⟨q,cap,i,d,e,c,f,l,m,g⟩
 ·omega
 have a:∀j u,[x0,x1,x2,x3,x4][j]?=qd u->w.cell? ⟨q,j,qa⟩=qd u:=by
  intro j u b;have n:j<5:=by
   have:=(k1R.1 b).1
   simpa using this
  rw[<- g,k15,if_pos (by omega)] at b;simp only[World.cell?,c]
  simpa using b
 exact⟨q,cap,d,e,(k09.1 c).1,f,a 0 _ rfl,a 1 _ rfl,a 2 _ rfl,a 3 _ rfl,a 4 _ rfl⟩
theorem qej(w:qc)(hg0:Bg w)(ht0:qfF w):qi qb 4 #[] w fun e w'=>e=.returned (.bool qk)/\qg w.heap.size w w':=by
 have HN:=vv fun w'=>New 11 52 0 ⟨#[44]⟩ w' (by decide)
 have T:=vv fun w'=>New 11 52 0 ⟨#[49]⟩ w' (by decide)
 have d:=vv (And.intro hg0 ht0);clear hg0 ht0;go_enter func4,ntmps4;go_wp2_with fail;refine(qbA _).mono ?_;rintro e w1 ⟨rfl,C⟩;have D:=vv C;clear C;go_wp2_with fail;refine(HN.o _).mono ?_;rintro e N ⟨i,(⟨l,-⟩|⟨-,g,rfl,O,m⟩)⟩
 ·exact absurd q7n.1 l
 rw[q7n.2.2] at m;have n:=vn D i;have a:qq (w.heap.size<=g):=vv (k06 D.o.size O);have U:qq (Rdr N g 11 52 0 qa3 0 qa):=vv ⟨⟨qa,m,rfl⟩,fun t h=>by cases h⟩;have E:=vv (Feed w d.o.1 d.o.2 g 0 0 11 52 qa3 ⟨#[49,46,53,44,50]⟩ qa (by decide) (by decide) a.o N n.o U.o);rw[qbD.1] at E;clear i O m;go_wp2_with fail;refine E.o.mono ?_;rintro e P ⟨v1,rfl,p,j,F⟩;rw[q2h,q5x.1] at p;have a6:=vv j;have q:=vv (n.o.trans (F.low2 a.o n.o.size));have f:=vv p;have G:=vv j.blk;have H:=vv (Feed w d.o.1 d.o.2 g 0 5 11 52 qa3 ⟨#[53,32,120]⟩ (qd ([50],4)) (by decide) (by decide) a.o P q.o j);rw[qbD.2] at H;clear p j F;obtain⟨T3,I,J⟩:=G.o;have Q:=vv (Held g g 11 52 0 qa3 5 T3 qh (qd ([50],4)) P I J);rw[show((q80 (qd ([50],4)):Nat):Int)=1 from rfl] at Q;clear I J G;go_wp2_with fail;refine Q.o.mono ?_;rintro e R ⟨rfl,rfl⟩;go_wp2_with fail;refine H.o.mono ?_;rintro e R ⟨v2,rfl,r,s,u⟩;rw[q2h,q5x.2.1] at r;have f:=vv (u.row f.o (by unfold RT;decide));have v:=vv r;have a7:=vv s;have x:=vv (q.o.trans (u.low2 a.o q.o.size));have HE:=vv (End_ w d.o.1 d.o.2 g 0 8 11 52 qa3 (qd ([120],7)) a.o R x.o s);clear r s u;go_wp2_with fail;refine HE.o.mono ?_;rintro e w5 ⟨v3,rfl,y,z,k⟩;obtain⟨c,S,K⟩:=q5x.2.2;rw[Option.toList_some,q2h,K] at y;have f:=vv (k.row f.o (by unfold RT;decide));have v:=vv (k.row v.o (by unfold RT;decide));have V:=vv y;have W:=vv z;have X:=vv (x.o.trans (k.low2 a.o x.o.size));have Y:=vv (Feed_ended g 11 52 0 qa3 ⟨#[49]⟩ 8 qa w5 z);clear y z k K;go_wp2_with fail;refine Y.o.mono ?_;rintro e w6 ⟨rfl,rfl⟩;go_wp2_with fail;refine(qbA _).mono ?_;rintro e w6 ⟨rfl,L⟩;have M:=vv L;clear L;go_wp2_with fail;refine(T.o _).mono ?_;rintro e w7 ⟨i,(⟨-,rfl⟩|⟨l,-⟩)⟩;rotate_left
 ·rw[q7n.2.1] at l;cases l
 rw[q7n.2.1];have b:=M.o.trans (i.mono M.o.size);have Z:=vn X b;have a5:=vv (show q8g w7 g 11 52 0 qa3 8 from Blk.below W.o b).says;obtain⟨q1,k1,rfl,-,l1,c1,a0,a1,a2,a3,a4⟩:=q6o (q41 f.o b);obtain⟨q2,k2,rfl,-,l2,c2,b0,b1,b2,b3,b4⟩:=q6o (q41 v.o b);obtain⟨q3,k3,rfl,-,l3,c3,d0,d1,d2,d3,d4⟩:=q6o (q41 V.o b);have a8:(c != 0)=qk:=by simpa using S
 clear b i S;go_wp2_with fail;refine a5.o.1.mono ?_;rintro e w8 ⟨rfl,rfl⟩;go_wp2;go_ret;exact⟨rfl,Z.o⟩
end Str
namespace Str
open Go Go.RowKit Go.Proofs.YthopehoklmgphaaGreatDoor R5 Scn Hx Rdx
theorem q38(hg0:Bg w)(ht0:qfF w)(hlow:qg w.heap.size w W)(h:q1X W M E F mode sep p q S)(hM:∀k,M k->w.heap.size<=k)
  (hq:∀d,q=qd ⟨d,0,qa⟩->w.heap.size<=d) (k x:Int) (t:ByteArray) (hs:S.size+t.size<=20000) (hsp:sep.size<=140737488351232) (Post:qc->Prop)
  (hPost:∀W' S',S'.size<=S.size+t.size->q1X W' (fun k=>(M k\/W.heap.size<=k)/\k<W'.heap.size) E F mode sep p q S'->Kt M q W W'->Post W') :
  qi qb 7 #[.pointer p,.pointer q,.agg #[.int .i64 k,.int .i64 x,.string t]] W fun e w'=>e=.returned (.bool qk)/\Post w':=by
 have J:∀(G:FuncId) (args:List qm) (V:qc) (room:Nat),qg W.heap.size W V->room<=S.size+t.size->∀e H,qer G V M E F mode sep p q args room e H->q6P G q args Post V e H:=by
  rintro G args V room f R e H ⟨v,c,N,rfl,T,U,Z⟩;refine⟨v,c,rfl,fun g j e=>?_,Z.mono ?_⟩
  ·rcases U.block g (k09.1 e).1 with i|⟨-,a0,t,i,y⟩|i
   ·exact i.trans e
   ·rw[e] at i;injection i with i;injection i with _ i;subst i;exact absurd y (by unfold RT;decide)
   ·cases i
  rintro e C ⟨u,rfl,hu,I,o,S',X,z⟩;refine⟨u,N.length,_,V.heap.size,rfl,I,o.size,T,qek V.heap.size v u E F mode N C (by omega) I hu,?_⟩;intro w3 D l r;have K:=q43 I l;have L:∀(k:Nat) (j:Array qm) (t:TypeId),t≠48->w3.heap[k]?=qd (.cells j t (0,0))->D.heap[k]?=qd (.cells j t (0,0)):=by
   intro k j t y e;refine(r.block k (k09.1 e).1 ?_).trans e;intro O;rcases K.2 with ⟨rfl,-⟩|⟨g,cap,a3,rfl,-,s,-⟩
   ·simp [Value.ownBlock] at O
   ·have e3:k=g:=by simpa [Value.ownBlock] using O
    subst e3;rw[e] at s;injection s with s;injection s with _ s;exact y s
  have Y:q1X D (fun k=>(M k\/V.heap.size<=k)/\k<C.heap.size) E F mode sep p q S':=(z.below l).blocks
   (fun k j t _ y e=>L k j t (by rintro rfl;exact absurd y (by unfold RT;decide)) e) (fun d j _ e=>L d j.toArray _ (by decide) e)
  refine hPost D S' (k06 X R) (Y.mono fun k hk ⟨a,b⟩=>⟨a.imp id fun e=>k06 f.size e,hk⟩) ⟨?_,?_,?_,?_,fun k hk=>?_⟩
  ·rw[r.os,l.os,o.os,f.os]
  ·rw[r.tape,l.tape,o.tape,f.tape]
  ·rw[r.output,l.output,o.output,f.output]
  ·exact k06 f.size (k06 o.size (k06 l.size r.size))
  ·have P:k<V.heap.size:=k01 hk f.size;have Q:k<C.heap.size:=k01 P o.size;have e4:D.heap[k]?=C.heap[k]?:=by rw[r.block k (k01 Q l.size) (fun e=>by have:=(K.lt k e.symm).1;omega),l.block k Q]
   rw[e4,<- f.block k hk];exact o.block k P
 refine qaB W p q k x t Post ?_ ?_ ?_
 ·intro _ V f;exact(q1X.feed hg0 ht0 (hlow.trans (f.mono hlow.size)) (h.below f) hM hq t hs hsp).mono (J _ _ V _ f lr)
 ·intro _ V f;exact(q1X.finish hg0 ht0 (hlow.trans (f.mono hlow.size)) (h.below f) hM hq (by omega) hsp).mono (J _ _ V _ f (Nat.le_add_right _ _))
 ·intro _ _ V f;have z:=h.below f;obtain⟨n,a1,a2⟩:=z.stand;obtain⟨m,b1,b2⟩:=z.held (hg0.below (hlow.trans (f.mono hlow.size))) (by omega) hsp;exact⟨⟨n,m,a1,a2,b1,b2⟩,hPost V S (Nat.le_add_right _ _) (z.mono fun k hk a=>⟨.inl a,hk⟩) (Kt.below f)⟩
structure ScI(w:qc)(E F:Int)(mode:Nat)(sep:ByteArray)(pa pb pc pd:Option qn)(gz r:Nat)(W:qc):Prop where
 low:qg w.heap.size w W
 few:r<=20000
 tw:∃(M1 M2:Nat->Prop) (S1 S2:ByteArray),q1X W M1 E F mode sep pa pc S1/\q1X W M2 E F mode sep pb pd S2/\S1.size<=r/\S2.size<=r/\(∀k,M1 k->w.heap.size<=k/\k<W.heap.size)/\(∀k,M2 k->w.heap.size<=k/\k<W.heap.size) /\(∀k,M1 k->¬M2 k)/\¬M1 gz/\¬M2 gz
 zero:q1X W (fun k=>k=gz) E F mode sep (qd ⟨gz,0,qa⟩) qa ⟨#[]⟩
 gz:w.heap.size<=gz/\gz<W.heap.size
theorem q1X.lone{T:ByteArray}(h:q1X W M E F mode sep (qd ⟨g,0,qa⟩) qa S):q1X W (fun k=>k=g) E F mode sep (qd ⟨g,0,qa⟩) qa T:=by
 rcases h with ⟨a,-,-⟩|⟨_,d,-,h,-⟩|⟨_,d,-,h,-⟩
 ·exact .inl ⟨a,rfl,fun g' e=>by injection e with e;injection e with e;exact e.symm⟩
 ·cases h
 ·cases h
theorem q1X.no(W:qc)(E F:Int)(mode:Nat)(sep:ByteArray):q1X W (fun _=>False) E F mode sep qa qa ⟨#[]⟩:=.inl ⟨.inl ⟨rfl,rfl,rfl⟩,rfl,fun g e=>by cases e⟩
theorem q6Y:(⟨#[]⟩:ByteArray).size=0:=rfl
theorem qde(hg0:Bg w)(ht0:qfF w)(E F:Int)(mode:Nat)(sep:ByteArray)(hsp:sep.size<=140737488351232)(pa pb pc pd:Option qn)(gz:Nat)(hcd:pc=qa/\pd=qa\/pc≠pd)
  (hc:∀d,pc=qd ⟨d,0,qa⟩->w.heap.size<=d) (hd:∀d,pd=qd ⟨d,0,qa⟩->w.heap.size<=d):Steps w pa pb pc pd gz (ScI w E F mode sep pa pb pc pd gz) where
 low:=fun r W h=>h.low
 far:=fun r A B h hb=>by obtain⟨hl,hr,⟨M1,M2,S1,S2,t1,t2,s1,s2,b1,b2,hdj,z1,z2⟩,hz,hgz⟩:=h;exact⟨hl.trans (hb.mono hl.size),hr,⟨M1,M2,S1,S2,t1.below hb,t2.below hb,s1,s2,fun k hk=>⟨(b1 k hk).1,k01 (b1 k hk).2 hb.size⟩,fun k hk=>⟨(b2 k hk).1,k01 (b2 k hk).2 hb.size⟩,hdj,z1,z2⟩,hz.below hb,hgz.1,k01 hgz.2 hb.size⟩
 stands:=fun p q hpq r W h=>by
  obtain⟨hl,hr,⟨M1,M2,S1,S2,t1,t2,s1,s2,-⟩,-,-⟩:=h;rcases hpq with ⟨e1,e2⟩|⟨e1,e2⟩
  ·rw[e1,e2];obtain⟨n,a1,a2⟩:=t1.stand;obtain⟨m,a3,a4⟩:=t1.held (hg0.below hl) (k06 s1 hr) hsp;exact⟨n,m,a1,a2,a3,a4⟩
  ·rw[e1,e2];obtain⟨n,a1,a2⟩:=t2.stand;obtain⟨m,a3,a4⟩:=t2.held (hg0.below hl) (k06 s2 hr) hsp;exact⟨n,m,a1,a2,a3,a4⟩
 one:=fun p q hpq r W k x t h hr=>by
  obtain⟨hl,-,⟨M1,M2,S1,S2,t1,t2,s1,s2,b1,b2,hdj,z1,z2⟩,hz,hgz⟩:=h;rcases hpq with ⟨e1,e2⟩|⟨e1,e2⟩|⟨e1,e2⟩|⟨e1,e2⟩
  ·rw[e1,e2];refine q38 hg0 ht0 hl t1 (fun k hk=>(b1 k hk).1) hc k x t (by omega) hsp _ ?_;intro W' S' hS' hT hK;refine⟨hl.trans (hK.low (fun k hk=>(b1 k hk).1) hc hl.size),hr,⟨_,M2,S',S2,hT,t2.keep hK (fun k _ hk h=>hdj k h hk) t1.doc (hcd.elim (fun h=>.inl h.2) (fun h=>.inr h.symm)),by omega,by omega,?_,fun k hk=>⟨(b2 k hk).1,k01 (b2 k hk).2 hK.size⟩,?_,?_,z2⟩,hz.keep hK (fun k _ hk h=>z1 (hk ▸ h)) t1.doc (.inl rfl),hgz.1,k01 hgz.2 hK.size⟩
   ·rintro k ⟨hk,hk2⟩;exact⟨hk.elim (fun h=>(b1 k h).1) (fun h=>k06 hl.size h),hk2⟩
   ·rintro k ⟨hk,-⟩ h2;rcases hk with hk|hk
    ·exact hdj k hk h2
    ·have:=(b2 k h2).2;omega
   ·rintro⟨hk,-⟩;rcases hk with hk|hk
    ·exact z1 hk
    ·have:=hgz.2;omega
  ·rw[e1,e2];refine q38 hg0 ht0 hl t2 (fun k hk=>(b2 k hk).1) hd k x t (by omega) hsp _ ?_;intro W' S' hS' hT hK;refine⟨hl.trans (hK.low (fun k hk=>(b2 k hk).1) hd hl.size),hr,⟨M1,_,S1,S',t1.keep hK (fun k _ hk h=>hdj k hk h) t2.doc (hcd.elim (fun h=>.inl h.1) .inr),hT,by omega,by omega,fun k hk=>⟨(b1 k hk).1,k01 (b1 k hk).2 hK.size⟩,?_,?_,z1,?_⟩,hz.keep hK (fun k _ hk h=>z2 (hk ▸ h)) t2.doc (.inl rfl),hgz.1,k01 hgz.2 hK.size⟩
   ·rintro k ⟨hk,hk2⟩;exact⟨hk.elim (fun h=>(b2 k h).1) (fun h=>k06 hl.size h),hk2⟩
   ·rintro k h1 ⟨hk,-⟩;rcases hk with hk|hk
    ·exact hdj k h1 hk
    ·have:=(b1 k h1).2;omega
   ·rintro⟨hk,-⟩;rcases hk with hk|hk
    ·exact z2 hk
    ·have:=hgz.2;omega
  ·rw[e1,e2];refine q38 hg0 ht0 hl (q1X.no W E F mode sep) (fun k h=>h.elim) (fun d e=>by cases e) k x t (by rw[q6Y];omega) hsp _ ?_;intro W' S' hS' hT hK;exact⟨hl.trans (hK.low (fun k h=>h.elim) (fun d e=>by cases e) hl.size),hr,⟨M1,M2,S1,S2,t1.keep hK (fun _ _ _ h=>h) (.inl rfl) (Classical.em _),t2.keep hK (fun _ _ _ h=>h) (.inl rfl) (Classical.em _),by omega,by omega,fun k hk=>⟨(b1 k hk).1,k01 (b1 k hk).2 hK.size⟩,fun k hk=>⟨(b2 k hk).1,k01 (b2 k hk).2 hK.size⟩,hdj,z1,z2⟩,hz.keep hK (fun _ _ _ h=>h) (.inl rfl) (.inl rfl),hgz.1,k01 hgz.2 hK.size⟩
  ·rw[e1,e2];refine q38 hg0 ht0 hl hz (fun k h=>h ▸ hgz.1) (fun d e=>by cases e) k x t (by rw[q6Y];omega) hsp _ ?_;intro W' S' hS' hT hK;exact⟨hl.trans (hK.low (fun k h=>h ▸ hgz.1) (fun d e=>by cases e) hl.size),hr,⟨M1,M2,S1,S2,t1.keep hK (fun _ _ hk h=>z1 (h ▸ hk)) (.inl rfl) (Classical.em _),t2.keep hK (fun _ _ hk h=>z2 (h ▸ hk)) (.inl rfl) (Classical.em _),by omega,by omega,fun k hk=>⟨(b1 k hk).1,k01 (b1 k hk).2 hK.size⟩,fun k hk=>⟨(b2 k hk).1,k01 (b2 k hk).2 hK.size⟩,hdj,z1,z2⟩,hT.lone,hgz.1,k01 hgz.2 hK.size⟩
theorem q5D(W:qc)(E F:Int)(mode:Nat)(sep:ByteArray):q1X (W.alloc (.cells q8o.toArray 35)) (fun k=>k=W.heap.size) E F mode sep (qd ⟨W.heap.size,0,qa⟩) qa ⟨#[]⟩:=.inl ⟨.inr ⟨W.heap.size,0,0,0,⟨#[]⟩,qh,qh,rfl,Blk.made W _ q8o,.inl ⟨rfl,rfl⟩⟩,rfl,fun g e=>by injection e with e;injection e with e;exact e.symm⟩
theorem q4V(h:Blk W g 35 (q3q E F mode (q0S++sep) 0 qa qh qk))(k:Blk W d 53 (Dst.drdL E F mode sep ⟨#[]⟩ 0 qh)):q1X W (fun k=>k=g) E F mode sep (qd ⟨g,0,qa⟩) (qd ⟨d,0,qa⟩) ⟨#[]⟩:=.inr (.inl ⟨g,d,rfl,rfl,⟨⟨qa,h,rfl⟩,rfl,fun t e=>by cases e⟩,k⟩)
theorem StreamScript(w:qc)(hg0:Bg w)(ht0:qfF w)(E F:Int)(mode:Nat)(sep:ByteArray)(Ad:Option qn)(n c:Nat)(C:Nat->Int × Int × ByteArray)(hC:Ops w Ad n C)(hsp:sep.size<=140737488351232):qi qb 3 #[fm E F,.int .u8 (mode:Int),.string sep,.slice Ad n c] w fun e w'=>e=.returned (.bool qk)/\qg w.heap.size w w':=by
 refine q6m w E F mode sep Ad n c C hC (q0R E F mode sep) (fun W g W'=>W.heap.size<=g/\Blk W' g 35 (q3q E F mode (q0S++sep) 0 qa qh qk)) (fun W g W'=>W.heap.size<=g/\Blk W' g 53 (Dst.drdL E F mode sep ⟨#[]⟩ 0 qh))
  (fun W a=>qej W (hg0.below a) (ht0.below a)) (fun W a=>(New E F mode sep W hsp).mono fun e w' h=>h) (fun W a=>(Dst.New E F mode sep W hsp).mono fun e w' h=>h) ?_ ?_
 ·intro _ W a;exact⟨_,qde hg0 ht0 E F mode sep hsp qa qa qa qa W.heap.size (.inl ⟨rfl,rfl⟩) (fun d e=>by cases e) (fun d e=>by cases e),a.alloc a.size _,k0d _,⟨_,_,_,_,q1X.no _ E F mode sep,q1X.no _ E F mode sep,lr,lr,fun k h=>h.elim,fun k h=>h.elim,fun k h=>h.elim,id,id⟩,q5D W E F mode sep,a.size,by simp⟩
 ·rintro _ G H I J b l m K L r ⟨M,p2⟩ s ⟨N,t⟩ o ⟨O,u⟩ i ⟨P,v⟩ f;have Q:=p2.lt;have R:=t.lt;have S:=u.lt;have T:=r.size;have U:=s.size;have V:=o.size;have X:=i.size;have Y:=f.size;have p:qg w.heap.size w b:=(((r.trans (s.mono (by omega))).trans (o.mono (by omega))).trans (i.mono (by omega))).trans (f.mono (by omega));have j:qg b.heap.size b (b.alloc (.cells q8o.toArray 35)):=(qf _ _).alloc lr _;refine⟨_,qde hg0 ht0 E F mode sep hsp _ _ _ _ b.heap.size (.inr (fun e=>by injection e with e;injection e with e;omega)) (fun d e=>by injection e with e;injection e with e;omega) (fun d e=>by injection e with e;injection e with e;omega),p.alloc p.size _,k0d _,⟨_,_,_,_,q4V ((((p2.below o).below i).below f).below j) ((u.below f).below j),q4V (((t.below i).below f).below j) (v.below j),lr,lr,?_,?_,?_,?_,?_⟩,q5D b E F mode sep,p.size,by simp⟩
  ·intro k e;have q:k=l:=e;rw[qp];exact⟨by omega,by omega⟩
  ·intro k e;have q:k=m:=e;rw[qp];exact⟨by omega,by omega⟩
  ·intro k x y;have z:k=l:=x;have D:k=m:=y;omega
  ·intro e;have q:b.heap.size=l:=e;omega
  ·intro e;have q:b.heap.size=m:=e;omega
end Str
end Go.Proofs.YthopehoklmgphaaGreatDoor
