/- Lemmas. -/
import Derived.Test.YtcdimmblnbkjjaaGreatDoorPartBO
import Derived.RangeFuncBound
import Derived.Test.YtcdimmblnbkjjaaGreatDoorPartBJ
set_option linter.all false
set_option maxHeartbeats 16000000
set_option maxRecDepth 100000
namespace Go.Proofs.YtcdimmblnbkjjaaGreatDoor.Str
open Go Go.RowKit R5 Scn Hx Rdx
theorem run(g:Nat)(s:ByteArray)(w:World):Calls Tryz.prog 38 #[.pointer (some ⟨g,0,none⟩),.string s] w fun e w' =>
  e=.returned (.func (.func 78) #[] #[.pointer (some ⟨w.heap.size+1,0,none⟩),.pointer (some ⟨w.heap.size,0,none⟩)]) /\
   w'=(w.alloc (.cells #[.pointer (some ⟨g,0,none⟩)] 50)).alloc (.cells #[.string s] 9):=by
 go_enter Tryz.func38,Tryz.ntmps38
 go_wp2;go_ret
 exact⟨rfl,rfl⟩
theorem q6E(w00:World)(hg0:Bg w00)(ht0:EType w00)(g S R mode a0:Nat)(E F:Int)(seps s:ByteArray)(tk0:Option Tk)
  (hsz:s.size<=140737488351232) (ha:a0+s.size<=140737488351232) (hge:w00.heap.size<=g) (w:World) (hw:Below w00.heap.size w00 w)
  (hS:Blk w S 9 [.string s]) (hR:Blk w R 50 [.pointer (some ⟨g,0,none⟩)]) (hr:Rdr w g E F mode seps a0 tk0) :
  qc0 Tryz.prog 78 #[.pointer (some ⟨S,0,none⟩),.pointer (some ⟨R,0,none⟩)] (fun t:Tk=>#[.agg (q1e E F mode t.1 t.2).toArray]) (fun _=>Kw g) (Kb w00.heap.size)
   (fun xs=>xs <+: (q12 seps a0 tk0 (q0b s)).2) (fun xs=>xs <+: (q12 seps a0 tk0 (q0b s)).2)
   (fun xs B=>xs=(q12 seps a0 tk0 (q0b s)).2/\Rdr B g E F mode seps (a0+s.size) (q12 seps a0 tk0 (q0b s)).1/\Below w00.heap.size w00 B) w:=by
 intro l J Jx W hW hJ _ hY h0;refine(qc7 w00 hg0 ht0 g S R l mode a0 E F seps s tk0 J Jx hsz ha hge hJ (fun pre t A hA hp=>(hY pre t A hA hp).mono ?_) W (hw.trans (hW.mono hw.size)) (hS.below hW) (hR.below hW) (hr.below hW) h0).mono ?_
 ·rintro e B (⟨h1,h2,h3,-⟩|⟨h1,h2,-⟩)
  ·exact .inl ⟨h1,h2,h3⟩
  ·exact .inr ⟨h1,h2⟩
 ·rintro e B ⟨h1,⟨h2,h3,h4⟩|⟨pre,h2,h3⟩⟩
  ·exact⟨h1,.inl ⟨_,⟨rfl,h3,h4⟩,h2⟩⟩
  ·exact⟨h1,.inr ⟨pre,h2,h3⟩⟩
def q6i(w:World)(g:Nat)(E F:Int)(mode:Nat)(pre:List Tk)(W:World):Prop:=
 Kw g w W/\∃v,Blk W w.heap.size 42 [v]/\W.ownsRow w.heap.size 49 5 v pre.length (q0m E F mode pre)
theorem q7g{w:World}{g mode B:Nat}{E F:Int}(hB:w.heap.size<=B):OwnFrom B (q6i w g E F mode):=by
 rintro pre A C row ⟨h1,v,h2,h3⟩ hg hr;have a0:∀(k:Nat) (cs:Array Value) (t:TypeId),A.heap[k]?=some (.cells cs t (0,0))->row≠some k:=by
  rintro k cs t hk rfl;obtain⟨-,o,ho,hc⟩:=hr k rfl;rw[hk] at ho;cases ho
  cases hc
 refine⟨⟨hg.os.trans h1.os,hg.tape.trans h1.tape,hg.output.trans h1.output,Nat.le_trans h1.size hg.size,fun k hk=>?_⟩,v,h2.grown hg (a0 _ _ _ h2),h3.kept hg ?_⟩
 ·rw[hg.block k (Nat.lt_of_lt_of_le hk h1.size) (fun e=>by have:=(hr k e.symm).1;omega)];exact h1.block k hk
 ·rcases h3.2 with ⟨rfl,-⟩|⟨q,cap,cur,rfl,-,hq,-⟩
  ·exact .inl rfl
  ·exact .inr (fun e=>a0 _ _ _ hq e.symm)
theorem q5C{w:World}{g mode:Nat}{E F:Int}(pre:List Tk)(A C:World)(h:q6i w g E F mode pre A)(hk:Kw g A C):q6i w g E F mode pre C:=by
 obtain⟨h1,v,h2,h3⟩:=h;exact⟨h1.trans hk,v,hk.blk h2 (by unfold RT;decide),hk.row h3 (by unfold RT;decide)⟩
attribute [local go_sem] Oper.semAt_some q2Z q1t q1s
theorem qc3(w00:World)(hg0:Bg w00)(ht0:EType w00)(g mode a0:Nat)(E F:Int)(seps s:ByteArray)(tk0:Option Tk)
  (hsz:s.size<=1099511627776) (ha:a0+s.size<=140737488351232) (hge:w00.heap.size<=g) (w:World) (hw:Below w00.heap.size w00 w) (hr:Rdr w g E F mode seps a0 tk0) :
  Calls Tryz.prog 20 #[.pointer (some ⟨g,0,none⟩),.string s] w fun e w'=>∃v,e=.returned (.tuple #[v,.int .i64 0]) /\
   w'.ownsRow w.heap.size 49 5 v (q12 seps a0 tk0 (q0b s)).2.length (q0m E F mode (q12 seps a0 tk0 (q0b s)).2) /\
   Rdr w' g E F mode seps (a0+s.size) (q12 seps a0 tk0 (q0b s)).1/\Kw g w w':=by
 obtain⟨i0,hi,d6,d7,d8⟩:=info_parts q42;obtain⟨T,b0,b8⟩:=hr.blk;have HT:=vv (q9s g E F mode seps a0 T false w b0);clear b0 b8 T;obtain⟨w1,b1⟩:=yx (w.alloc (.cells #[.slice none 0 0] 42));obtain⟨w2,a8⟩:=yx ((w1.alloc (.cells #[.pointer (some ⟨g,0,none⟩)] 50)).alloc (.cells #[.string s] 9));have b2:w1.heap.size=w.heap.size+1:=by rw[b1];simp
 have c6:w2.heap.size=w.heap.size+3:=by rw[a8];simp [b2]
 have b9:Below w1.heap.size w1 w2:=by rw[a8];exact((Below.refl _ w1).alloc lr _).alloc (by simp) _
 have b6:Below w.heap.size w w2:=((Below.refl _ w).alloc lr _:Below w.heap.size w (w.alloc (.cells #[.slice none 0 0] 42))).trans (by rw[<- b1];exact b9.mono (by omega));have hB:Blk w2 w.heap.size 42 [.slice none 0 0]:=(show Blk w1 w.heap.size _ _ by rw[b1];exact Blk.made w _ [.slice none 0 0]).below b9;have hR:Blk w2 (w.heap.size+1) 50 [.pointer (some ⟨g,0,none⟩)]:=by
  rw[a8,<- b2];exact(Blk.made w1 _ [.pointer (some ⟨g,0,none⟩)]).alloc _
 have hS:Blk w2 (w.heap.size+1+1) 9 [.string s]:=by
  have e:=Blk.made (w1.alloc (.cells #[.pointer (some ⟨g,0,none⟩)] 50)) 9 [.string s];rw[World.size_alloc,b2] at e;rw[a8];exact e
 have a5:=q6E w00 hg0 ht0 g (w.heap.size+1+1) (w.heap.size+1) mode a0 E F seps s tk0 (by omega) ha hge w2 (hw.trans (b6.mono hw.size)) hS hR (hr.below b6);have d9:Hid (q6i w g E F mode [] w2):=vv ⟨Kw.below b6,_,hB,World.ownsRow_nil _ _ _ _⟩;have b3:=vv (run g s w1);rw[<- a8] at b3;obtain⟨X,hX⟩:=yx (q12 seps a0 tk0 (q0b s));have c7:X.2.length<=1099511627776:=by rw[hX];exact Nat.le_trans (q1x _ _ _ _) (by rw[q0E];exact hsz)
 rw[<- hX] at a5 ⊢;have c0:=vv a5;have HS:=vv (And.intro b2 c6);have e0:=vv b1;have b7:=vv (And.intro hw.size hge);have HX:=vv c7;clear hX c7 a5 b1 a8 b2 c6 b9 b6 hB hR hS hr ha hsz hg0 ht0 hw hge;refine(callsIn_wide (n:=0)).1 ?_;refine callsIn_of_wp_marks Tryz.func20 rfl trivial ?_ rfl;simp only[Tryz.ntmps20,List.size_toArray,List.length_cons,List.length_nil,Nat.reduceAdd,Nat.reduceSub,Array.replicate_succ,Array.replicate_zero,List.push_toArray,List.append_toArray,List.nil_append,List.cons_append]
 gi_wp2_with fail
 refine(callsIn_wide.2 HT.o).mono ?_;rintro e w' ⟨rfl,rfl⟩
 gi_wp2_with fail
 rw[<- e0.o];refine(callsIn_wide.2 b3.o).mono ?_;rintro e w' ⟨rfl,rfl⟩
 gi_wp2_with fail
 rw[HS.o.1];refine q1H (gf:=78) (lb:=#[.pointer (some ⟨w.heap.size+1+1,0,none⟩),.pointer (some ⟨w.heap.size+1,0,none⟩)]) rfl (enters_of Tryz.func78 (by kernel_rfl) rfl) c0.o
  (fun h k=>h.trans k) (fun W l o o' hl h ho=>Kb.put o' h ho (by have:=HS.o.2;have:=b7.o.1;omega)) (fun A B k o h _ hk ho=>h.non hk ho)
  (fun xs W l o o' h hl hk ho=>⟨h.1,h.2.1.put o' hk ho,h.2.2.trans (q2s o' hk (by have:=HS.o.2;have:=b7.o.1;omega))⟩) (fun _=>rfl)
  (q6i w g E F mode) (fun _ _ _=>False) (q7g (by have:=HS.o.2;omega)) q5C (fun c s A B row h=>h.elim) (fun c s A B h=>h.elim) d9.o ?_ ?_ ?_
 ·
  intro l pre x A hI c8;obtain⟨x0,x1,x2,x3,x4,c9,a6⟩:=q1a E F mode x.1 x.2;dsimp only;rw[c9];obtain⟨hK,v,hB,a1⟩:=hI;have b4:pre.length+1<=1099511627776:=by
   have:=c8.length_le;rw[List.length_append] at this;have:=HX.o;simp at *
   omega
  have hz:Blk (A.alloc (.cells #[.int .u64 0,.int .u8 0,.int .i64 0,.int .i64 0,.int .i64 0] 49)) A.heap.size 49 [.int .u64 0,.int .u8 0,.int .i64 0,.int .i64 0,.int .i64 0]:=Blk.made A _ [.int .u64 0,.int .u8 0,.int .i64 0,.int .i64 0,.int .i64 0];have c1:[x0,x1,x2,x3,x4].all (·.oneCell')=true:=List.all_eq_true.2 a6;have HI:=vv (And.intro hK (And.intro hB a1));have c2:=vv a6;have d0:=vv b4;clear hK hB a1 a6 b4 c8
  gi_wp2_with (with_reducible refine q1g rfl 49 (.tmp 8) (.tmp 17) rfl A.heap.size [x0,x1,x2,x3,x4] rfl rfl 49 _ hz (by kernel_rfl) rfl c1 ?_)
  intro A2 d1 d2;have d3:Below A.heap.size A A2:=((Below.refl _ A).alloc lr _).grown d2 (by simp) (fun k e=>by cases e;exact lr);have e1:=vv d1;have c3:=vv d3;clear d1 d2 d3 hz
  gi_wp2
  refine⟨q2b c3.o,q41 (Nat.le_trans b7.o.1 HI.o.1.size) c3.o,q5C pre A A2 ⟨HI.o.1,v,HI.o.2⟩ (Kw.below c3.o),?_⟩;intro B e2 a2;obtain⟨d4,v',b5,a3⟩:=e2;have e3:=a2.blk e1.o;have s0:=b5.cell 0;have f0:=b5.fz 0;have sl:=b5.lt;simp only[List.getElem?_cons_zero] at s0;have a9:=vv (And.intro d4 (And.intro b5 a3));clear d4 b5 a3 a2
  gi_wp2_with (first
   | with_reducible refine q1q rfl 49 (.tmp 8) rfl A.heap.size rfl 49 _ _ e3 Tryz.underlying49 rfl (by kernel_rfl) ?_
   | (gi_at_builtin;refine wpListIn_append_own _ rfl _ _ 42 rfl w.heap.size 49 i0 (.agg #[.int .u64 0,.int .u8 0,.int .i64 0,.int .i64 0,.int .i64 0]) 5 40 Tryz.underlying42 hi d6 d7 d8 rfl (by decide) _ pre.length (q0m E F mode pre) rfl (a9.o.2.2.alloc _) ⟨B.heap.size,0,none⟩ 1 1 [x0,x1,x2,x3,x4] rfl rfl (q3n B [x0,x1,x2,x3,x4] _) c2.o (by have:=d0.o;unfold maxLen;omega) (by have:=d0.o;omega) (by have:=a9.o.1.size;simp;omega) ?_))
  intro v2 B3 a7 a4 _;obtain⟨k1,k2,k3,k4,k5,k6⟩:=q6L (lo:=w.heap.size) a9.o.1.size lr a9.o.2.1 a9.o.2.2 (by decide) a7 a4;have HE:Hid (ownPostG w'.heap.size (Kb w00.heap.size) (q6i w g E F mode) (fun _ _ _=>False) (pre++[x]) B .normal {tmps:=#[],defers:=[]} (B3.setCell ⟨w.heap.size,0,none⟩ v2)):=vv (by
   refine⟨k4.from _,⟨k5.mono b7.o.1,k4.size,fun k cs t hk ht=>k6 k cs t hk (fun e=>q5t.1 (e ▸ ht)) (fun e=>q5t.2 (e ▸ ht))⟩,a9.o.1.far k5,v2,k2,?_⟩;rw[q3h,c9,List.length_append];exact k3)
  have s0:=k1.cell 0;have f0:=k1.fz 0;have sl:=k1.lt;simp only[List.getElem?_cons_zero] at s0;obtain⟨q2,cap2,rfl⟩:=ownsRow_succ a7;clear k1 k2 k3 k4 k5 k6 a7 a4
  gi_wp2
  exact HE.o
 ·
  intro D xs W hD hS hI hK;obtain⟨rfl,hR,c4⟩:=hS;obtain⟨d5,v,hB,a1⟩:=hI;have s0:=hB.cell 0;have sl:=hB.lt;simp only[List.getElem?_cons_zero] at s0;have HR:=vv hR;have c5:=vv a1;have e4:=vv d5;have HD:=vv hD;clear hR c4 d5 hB a1 hD
  gi_wp2
  refine⟨by simp,.inl ⟨_,_,rfl,run_takeDeferred hK,?_⟩⟩;refine⟨_,results_tmp2 rfl _ _ _,v,rfl,q9A _ c5.o hK rfl,HR.o.put _ hK rfl,?_⟩;exact e4.o.far (q2s _ hK (by have:=HD.o;have:=HS.o.2;omega))
 ·intro D c pre W hD hp h;exact h.elim
def q5j(w:World)(g:Nat)(E F:Int)(mode:Nat)(seps:ByteArray)(a:Nat):Prop:=Blk w g 80 (q3A E F mode seps a none true true)
theorem qc4(w00:World)(hg0:Bg w00)(ht0:EType w00)(g mode a:Nat)(E F:Int)(seps:ByteArray)(tk:Option Tk)(hge:w00.heap.size<=g)(w:World)(hw:Below w00.heap.size w00 w)(hr:Rdr w g E F mode seps a tk):
  Calls Tryz.prog 23 #[.pointer (some ⟨g,0,none⟩)] w fun e w'=>∃v,e=.returned (.tuple #[v,.int .i64 0])/\w'.ownsRow w.heap.size 49 5 v tk.toList.length (q0m E F mode tk.toList) /\
   q5j w' g E F mode seps a/\Kw g w w':=by
 obtain⟨⟨T,hb,ht⟩,-⟩:=hr
 match tk,ht with
 | none,ht =>
  obtain rfl:T=none:=ht;refine(q8S g E F mode seps a w hb).mono ?_;rintro e w' ⟨rfl,h1,h2⟩;exact⟨_,rfl,World.ownsRow_nil _ _ _ _,h1,Kw.grown h2 lr hb (.inl rfl)⟩
 | some (L,f),⟨b,v,h1,h2,h3,h4,h5,h6⟩ =>
  subst h1;refine(q8R w00 hg0 ht0 g b g a f mode E F seps L v w hw hge hb h3 h4 h6).mono ?_;rintro e w' ⟨v',rfl,k1,k2,k3⟩;refine⟨v',rfl,?_,k2,Kw.grown k3 lr hb (.inl rfl)⟩
  simpa [q0m] using k1
structure Caught(w:World)(a b c d:Nat)(E F:Int)(mode:Nat)(sep s:ByteArray):Prop where
 form:Blk w a 23 [.int .i64 E,.int .i64 F]
 mode:Blk w b 5 [.int .u8 (mode:Int)]
 sep:Blk w c 9 [.string sep]
 body:Blk w d 9 [.string s]
theorem Caught.below{w w':World}{a b c d:Nat}{E F:Int}{mode:Nat}{sep s:ByteArray}(h:Caught w a b c d E F mode sep s)(hb:Below w.heap.size w w'):Caught w' a b c d E F mode sep s:=⟨h.form.below hb,h.mode.below hb,h.sep.below hb,h.body.below hb⟩
def q0T(E F:Int)(mode:Nat)(sep s:ByteArray):List Tk:=if q16 E F mode sep=0 then q9b (q1R++sep) 0 none (q0b s) else[]
theorem qbH(E F:Int)(mode:Nat)(sep s:ByteArray)(w:World):Calls Tryz.prog 11 #[fm E F,.int .u8 (mode:Int),.string sep,.string s] w fun e w' =>
  ∃a b c d,e=.returned (.func (.func 37) #[] #[.pointer (some ⟨a,0,none⟩),.pointer (some ⟨b,0,none⟩),.pointer (some ⟨c,0,none⟩),.pointer (some ⟨d,0,none⟩)])/\Caught w' a b c d E F mode sep s/\Below w.heap.size w w'/\w.heap.size<=a:=by
 obtain⟨w1,h1⟩:=yx (w.alloc (.cells #[.int .i64 E,.int .i64 F] 23));obtain⟨w2,h2⟩:=yx (w1.alloc (.cells #[.int .u8 (mode:Int)] 5));obtain⟨w3,h3⟩:=yx (w2.alloc (.cells #[.string sep] 9));obtain⟨w4,h4⟩:=yx (w3.alloc (.cells #[.string s] 9));have b1:Blk w1 w.heap.size 23 [.int .i64 E,.int .i64 F]:=by rw[h1];exact Blk.made w _ [.int .i64 E,.int .i64 F]
 have b2:Blk w2 w1.heap.size 5 [.int .u8 (mode:Int)]:=by rw[h2];exact Blk.made w1 _ [.int .u8 (mode:Int)]
 have b3:Blk w3 w2.heap.size 9 [.string sep]:=by rw[h3];exact Blk.made w2 _ [.string sep]
 have b4:Blk w4 w3.heap.size 9 [.string s]:=by rw[h4];exact Blk.made w3 _ [.string s]
 have s1:w1.heap.size=w.heap.size+1:=by rw[h1];simp
 have s2:w2.heap.size=w.heap.size+1+1:=by rw[h2];simp [s1]
 have s3:w3.heap.size=w.heap.size+1+1+1:=by rw[h3];simp [s2]
 have e1:Below w.heap.size w w1:=by rw[h1];exact(Below.refl _ w).alloc lr _
 have e2:Below w1.heap.size w1 w2:=by rw[h2];exact(Below.refl _ w1).alloc lr _
 have e3:Below w2.heap.size w2 w3:=by rw[h3];exact(Below.refl _ w2).alloc lr _
 have e4:Below w3.heap.size w3 w4:=by rw[h4];exact(Below.refl _ w3).alloc lr _
 have HC:Hid (Caught w4 w.heap.size (w.heap.size+1) (w.heap.size+1+1) (w.heap.size+1+1+1) E F mode sep s):=vv (by
  rw[<- s1,<- s2,<- s3] at *
  exact⟨((b1.below e2).below e3).below e4,(b2.below e3).below e4,b3.below e4,b4⟩)
 have HB:Hid (Below w.heap.size w w4):=vv (((e1.trans (e2.mono e1.size)).trans (e3.mono (Nat.le_trans e1.size e2.size))).trans (e4.mono (Nat.le_trans (Nat.le_trans e1.size e2.size) e3.size)));have HW:=vv (And.intro h1 (And.intro h2 (And.intro h3 h4)));clear h1 h2 h3 h4 b1 b2 b3 b4 s1 s2 s3 e1 e2 e3 e4;go_enter Tryz.func11,Tryz.ntmps11
 go_wp2;go_ret
 rw[<- HW.o.1,<- HW.o.2.1,<- HW.o.2.2.1,<- HW.o.2.2.2];exact⟨_,_,_,_,rfl,HC.o,HB.o,lr⟩
theorem q0K{P:Program}{w:World}{ops:Array Oper}{rest:List Oper}{o:Oper}{a:Act}{Q:Exit->Act->World->Prop}(hgd:o.guard=none)(s x:Operand)(t:TypeId)
  (ho:o.op=.call {callee:=.builtin .append,args:=#[s,x],argTypes:=#[t,t]})
  (base base2:Nat) (e:TypeId) (i:TypeInfo) (z:Value) (sz bytes:Nat) (hsz:0<sz) (ht:P.underlying t=some (.slice e)) (hi:P.info? e=some i) (hz:i.zero=some z)
  (hsize:i.size=sz) (hby:i.bytes=bytes) (hzs:z.cells.size=sz)
  (v:Value) (n:Nat) (xs:List Value) (hs:a.eval s=v) (hown:w.ownsRow base e sz v n xs)
  (v2:Value) (m:Nat) (news:List Value) (hx:a.eval x=v2) (hown2:w.ownsRow base2 e sz v2 m news) (h1:∀u∈news,u.oneCell'=true)
  (h63:n+m<=maxLen) (hbytes:(n+m)*bytes<=140737488355328) (hbase:base<=w.heap.size)
  (h:∀v' w',w'.ownsRow base e sz v' (n+m) (xs++news)->w.grownBy w' v.ownBlock->wpList P ops Q rest (a.put o.dst v') w'):wpList P ops Q (o::rest) a w:=by
 obtain⟨hl,hc⟩:=hown2;rcases hc with ⟨rfl,rfl⟩|⟨g,cap,cur,rfl,hb,hg,hc,hm,a2,a0⟩
 ·have hn:news=[]:=List.eq_nil_of_length_eq_zero (by simpa using hl);subst hn;exact wpList_append_own_none hgd s x t ho base e i sz ht hi _ n xs hs hown hx (h _ _ (by simpa using hown) (World.grownBy.refl _ _))
 ·refine wpList_append_own w hgd s x t ho base e i z sz bytes ht hi hz hsize hby hzs hsz v n xs hs hown ⟨g,0,none⟩ m cap news hx hl (fun j u hj=>?_) h1 h63 hbytes hbase (fun v' w' h2 h3 _=>h v' w' h2 h3);have a1:j<m*sz:=by
   have:=(List.getElem?_eq_some_iff.1 hj).1;omega
  rw[<- a0,List.getElem?_take,if_pos a1] at hj;have ea:Addr.add ⟨g,0,none⟩ j=⟨g,j,none⟩:=by cases j with|zero=>rfl|succ j=>simp [Addr.add]
  rw[ea,<- hj];simp only[World.cell?,hg];simp
theorem q2A(E F:Int)(mode:Nat)(ts:List Tk):∀u∈q0m E F mode ts,u.oneCell'=true:=by
 intro u hu;obtain⟨t,-,ht⟩:=List.mem_flatMap.1 hu;obtain⟨x0,x1,x2,x3,x4,h1,h2⟩:=q1a E F mode t.1 t.2;rw[h1] at ht;exact h2 u ht
theorem q24(s:ByteArray)(a b:Nat):q0b (s.extract a b)=((q0b s).drop a).take (b-a):=by
 unfold q0b;rw[q5V,<- List.map_drop,<- List.map_take,List.drop_take]
structure Ints(w:World)(A:Option Addr)(n:Nat)(C:Nat->Int):Prop where
 at_:0<n->∃b o,A=some ⟨b,o,none⟩/\b<w.heap.size/\∀i,i<n->w.cell? ⟨b,o+i,none⟩=some (.int .i64 (C i))
 lo:∀i,i<n->-9223372036854775808<=C i
 hi:∀i,i<n->C i<=9223372036854775807
theorem Rdr.says{w:World}{g mode a:Nat}{E F:Int}{seps:ByteArray}{tk:Option Tk}(h:Rdr w g E F mode seps a tk):
  Calls Tryz.prog 21 #[.pointer (some ⟨g,0,none⟩)] w (fun e w'=>e=.returned (.int .i64 (a:Int))/\w=w') /\
  ∃h:Nat,h<=a/\Calls Tryz.prog 22 #[.pointer (some ⟨g,0,none⟩)] w fun e w'=>e=.returned (.int .i64 (h:Int))/\w=w':=by
 obtain⟨⟨T,hb,ht⟩,a0⟩:=h;refine⟨At g E F mode seps a T false w hb,qb2 tk,?_,qc2 g g E F mode seps a T false tk w hb ht⟩;cases tk with
 | none=>exact Nat.zero_le _
 | some t =>
  have:=(a0 t rfl).2.1;show t.1.length<=a;omega
theorem q5j.says{w:World}{g mode a:Nat}{E F:Int}{seps:ByteArray}(h:q5j w g E F mode seps a):
  Calls Tryz.prog 21 #[.pointer (some ⟨g,0,none⟩)] w (fun e w'=>e=.returned (.int .i64 (a:Int))/\w=w') /\
  Calls Tryz.prog 22 #[.pointer (some ⟨g,0,none⟩)] w fun e w'=>e=.returned (.int .i64 0)/\w=w':=
 ⟨At g E F mode seps a none true w h,qc2 g g E F mode seps a none true none w h rfl⟩
theorem q4A{A B:World}{g mode a base n k:Nat}{E F:Int}{seps:ByteArray}{v:Value}{xs:List Value}(h:q5j A g E F mode seps a)(hr:A.ownsRow base 49 k v n xs)(hg:A.grownBy B v.ownBlock):q5j B g E F mode seps a:=
 Blk.grown h hg (q6H h hr (by decide))
def qco(w:World)(g:Nat)(E F:Int)(mode:Nat)(seps s:ByteArray)(n:Nat)(all at_ i:Value)(wr:World):Prop:=
 ∃k j:Nat,k<=s.size/\(j<=n\/(j=n+1/\k=s.size))/\at_=.int .i64 (k:Int)/\i=.int .i64 (j:Int) /\
  wr.ownsRow w.heap.size 49 5 all (q12 seps 0 none ((q0b s).take k)).2.length (q0m E F mode (q12 seps 0 none ((q0b s).take k)).2) /\
  Rdr wr g E F mode seps k (q12 seps 0 none ((q0b s).take k)).1/\Below w.heap.size w wr
def qcE(E F:Int)(mode:Nat)(sep s:ByteArray)(w:World)(e:Ending)(w':World):Prop:=
 ∃v n,e=.returned (.tuple #[v,.bool (decide (q16 E F mode sep=0))])/\w'.ownsRow w.heap.size 49 5 v n (q0m E F mode (q0T E F mode sep s))/\Below w.heap.size w w'
theorem q5F(E F:Int)(s:ByteArray)(mode:Nat)(h:(q0C E F s mode).2.2.1≠0):(q0C E F s mode).1=0/\(q0C E F s mode).2.1=0:=by
 revert h
 unfold q0C;split
 ·intro _;exact⟨rfl,rfl⟩
 split
 ·intro _;exact⟨rfl,rfl⟩
 split
 ·intro _;exact⟨rfl,rfl⟩
 unfold q2E q23
 repeat' split
 all_goals first
  | (intro _;exact⟨rfl,rfl⟩)
  | (intro h;exact absurd rfl h)
theorem q63(E F:Int)(mode:Nat)(L:List Nat)(f:Nat):q1e E F mode L f=[.int .u64 ((q0C E F (txt L) mode).1:Int),.int .u8 ((q0C E F (txt L) mode).2.1:Int),.int .i64 (q0C E F (txt L) mode).2.2.1,.int .i64 (f:Int),.int .i64 (L.length:Int)]:=by
 unfold q1e;split
 ·rename_i h;rw[h]
 ·rename_i h;rw[(q5F E F (txt L) mode h).1,(q5F E F (txt L) mode h).2]
  rfl
theorem q82{w:World}{b b' n k:Nat}{e:TypeId}{v:Value}{xs:List Value}(h:w.ownsRow b e k v n xs)(hb:b'<=b):w.ownsRow b' e k v n xs:=by
 refine⟨h.1,h.2.imp id ?_⟩;rintro⟨q,cap,cur,h1,h2,h3⟩;exact⟨q,cap,cur,h1,Nat.le_trans hb h2,h3⟩
theorem Ints.below{w w':World}{A:Option Addr}{n:Nat}{C:Nat->Int}(h:Ints w A n C)(hb:Below w.heap.size w w'):Ints w' A n C:=
 ⟨fun hn=>by
  obtain⟨b,o,h1,h2,h3⟩:=h.at_ hn;exact⟨b,o,h1,Nat.lt_of_lt_of_le h2 hb.size,fun i hi=>(hb.cell (p:=⟨b,o+i,none⟩) h2).trans (h3 i hi)⟩,h.lo,h.hi⟩
theorem Ints.nil(w:World):Ints w none 0 (fun _=>0):=⟨fun h=>by omega,fun i h=>by omega,fun i h=>by omega⟩
abbrev qcA:ByteArray:=⟨#[32,9,10,13,44]⟩
attribute [local go_sem] Oper.semAt_some q2Z q1t q1s
def ItI(J:List Tk->World->Prop)(Y l:Nat)(pre:List Tk)(X:World):Prop:=J pre X/\Blk X Y 76 [.func (.yield l) #[] #[]]
attribute [local go_sem] Oper.semAt_some q2Z q1t q1s
theorem q9z(f:Fn)(a b:Array Value)(W:World):(binOp .eql 46 (.func f a b) .nilFunc).run Tryz.prog W=.ok (.bool false) W:=by
 obtain⟨k,hk⟩:∃k,Op.maxDepth=k+1:=⟨9999,rfl⟩;have e:(Op.equal 46 (.func f a b) .nilFunc).run Tryz.prog W=.ok false W:=by
  unfold Op.equal;rw[hk];unfold Op.equalIn;rw[Sem.run_bind,run_underlying Tryz.underlying46 W]
  rfl
 show Sem.run Tryz.prog (Op.equal 46 (.func f a b) .nilFunc >>= fun r=>pure (Value.bool r)) W=_;rw[Sem.run_bind,e]
 rfl
def qcF(Q:Exit->Act->World->Prop):Exit->Act->World->Prop
 | .panic _,_,_=>False
 | .normal,a,w=>Q .normal a w
 | .ret,a,w=>Q .ret a w
 | .exit i,a,w=>Q (.exit i) a w
 | .goto l,a,w=>Q (.goto l) a w
 | .outgrown,a,w=>Q .outgrown a w
def qan(w:World)(E F:Int)(mode:Nat)(pre:List Tk)(W:World):Prop:=
 Below w.heap.size w W/\∃v,Blk W w.heap.size 42 [v]/\W.ownsRow w.heap.size 49 5 v pre.length (q0m E F mode pre)
theorem q9W{w:World}{n mode:Nat}{E F:Int}(hn:w.heap.size<=n)(pre:List Tk)(A C:World)(h:qan w E F mode pre A)(hk:Kz n A C):qan w E F mode pre C:=by
 obtain⟨h1,v,h2,h3⟩:=h;exact⟨h1.trans (hk.low hn h1.size),v,hk.blk h2 (by unfold RT;decide),hk.row h3 (by unfold RT;decide)⟩
attribute [local go_sem] Oper.semAt_some q2Z q1t q1s
def ItF(J:List Tk->World->Prop)(Y:Nat)(y:Value)(pre:List Tk)(X:World):Prop:=J pre X/\Blk X Y 76 [y]
theorem q9Q{J:List Tk->World->Prop}{n B Y:Nat}{y:Value}(hJ:∀s A B,J s A->Kz n A B->J s B)(hB:n<=B):OwnFrom B (ItF J Y y):=by
 rintro pre A C row ⟨h1,h2⟩ hg hr;refine⟨hJ _ _ _ h1 (Kz.far hg fun r e=>⟨Nat.le_trans hB (hr r e).1,(hr r e).2⟩),h2.grown hg ?_⟩;rintro rfl;obtain⟨-,o,ho,hc⟩:=hr _ rfl;rw[show A.heap[Y]?=_ from h2] at ho;cases ho
 cases hc
theorem q5y{J:List Tk->World->Prop}{n g Y:Nat}{y:Value}(hJ:∀s A B,J s A->Kz n A B->J s B)(hn:n<=g)(pre:List Tk)(A C:World)(h:ItF J Y y pre A)(hk:Kw g A C):ItF J Y y pre C:=
 ⟨hJ _ _ _ h.1 (Kz.kw hk hn),hk.blk h.2 (by unfold RT;decide)⟩
theorem qbb(w00:World)(hg0:Bg w00)(ht0:EType w00)(a b c d mode bx:Nat)(E F:Int)(sep s:ByteArray)(hsz:s.size<=1099511627776)(hsp:sep.size<=140737488351232)
  (W:World) (hW:Below w00.heap.size w00 W) (hc:Caught W a b c d E F mode sep s) (J:List Tk->World->Prop) (hJ:∀s A B,J s A->Kz W.heap.size A B->J s B)
  (hY:∀pre (x:Tk) A,J pre A->pre++[x] <+: q0T E F mode sep s->Calls Tryz.prog 42 #[.agg (q1e E F mode x.1 x.2).toArray,.pointer (some ⟨bx,0,none⟩)] A fun e B=>e=.returned (.bool true)/\J (pre++[x]) B/\Kb w00.heap.size A B/\KeepsFrom W.heap.size A B)
  (h0:J [] W) :
  Calls Tryz.prog 37 #[.func (.func 42) #[] #[.pointer (some ⟨bx,0,none⟩)],.pointer (some ⟨a,0,none⟩),.pointer (some ⟨b,0,none⟩),.pointer (some ⟨c,0,none⟩),.pointer (some ⟨d,0,none⟩)] W fun e B =>
   (∃v,e=.returned v)/\J (q0T E F mode sep s) B:=by
 obtain⟨y,d6⟩:∃y:Value,y=.func (.func 42) #[] #[.pointer (some ⟨bx,0,none⟩)]:=⟨_,rfl⟩;obtain⟨w1,c2⟩:=yx (W.alloc (.cells #[.func (.func 42) #[] #[.pointer (some ⟨bx,0,none⟩)]] 76));have b1:Below W.heap.size W w1:=by rw[c2];exact(Below.refl _ W).alloc lr _
 have e7:Blk w1 W.heap.size 76 [y]:=by rw[c2,d6];exact Blk.made W _ [.func (.func 42) #[] #[.pointer (some ⟨bx,0,none⟩)]]
 have a3:=hc.below b1;have e8:Below w00.heap.size w00 w1:=hW.trans (b1.mono hW.size);have HN:=vv (New E F mode sep w1 hsp);have g3:=vv hW.size;have e9:=vv d6;have HJ:=vv hJ;have HY:=vv hY;have H0:=vv h0;have g4:=vv c2;have c3:=vv b1;have g5:=vv e7;have g6:=vv a3;have d3:=vv e8;have HS:=vv hsz;have HG:=vv (And.intro hg0 ht0);have a0:=a3.form.cell 0;have a1:=a3.form.cell 1;have al:=a3.form.lt;have m0:=a3.mode.cell 0;have ml:=a3.mode.lt;have p0:=a3.sep.cell 0;have pl:=a3.sep.lt;simp only[List.getElem?_cons_zero,List.getElem?_cons_succ] at a0 a1 m0 p0;rw[c2] at a0 a1 al m0 ml p0 pl;clear hJ hY h0 c2 b1 e7 a3 e8 hsz hg0 ht0 hc hW d6;refine(callsIn_wide (n:=0)).1 (callsIn_of_wp_marks Tryz.func37 rfl trivial ?_ rfl);simp only[Tryz.ntmps37,List.size_toArray,List.length_cons,List.length_nil,Nat.reduceAdd,Nat.reduceSub,Array.replicate_succ,Array.replicate_zero,List.push_toArray,List.append_toArray,List.nil_append,List.cons_append];refine wpIn_wide.2 ?_;go_wp2_with fail
 rw[<- g4.o];refine HN.o.mono ?_;rintro e w2 ⟨hB,(⟨hz,rfl⟩|⟨hz,g,rfl,hg,c4⟩)⟩
 ·have HB:Hid (Below W.heap.size W w2):=vn c3 hB;have HZ:Hid (q0T E F mode sep s=[]):=vv (by unfold q0T;rw[if_neg hz]);have i7:¬((q16 E F mode sep:Nat):Int)=0:=by omega
  clear hz hB a0 a1 al m0 ml p0 pl;go_wp2;exact⟨_,results_none rfl _ _ _,⟨_,rfl⟩,(by rw[HZ.o];exact HJ.o _ _ _ H0.o (Kz.kw (Kw.below (g:=W.heap.size) HB.o) lr))⟩
 have HZ:Hid (q0T E F mode sep s=q9b (q1R++sep) 0 none (q0b s)):=vv (by unfold q0T;rw[if_pos hz]);have b9:Hid (W.heap.size<=g/\w00.heap.size<=g):=vv (by
  have h1:=c3.o.size;have h2:=d3.o.size;omega)
 have a7:Hid (Below w1.heap.size w1 w2):=vv hB;have f0:Hid (Rdr w2 g E F mode (q1R++sep) 0 none):=vv ⟨⟨none,c4,rfl⟩,fun t h=>by cases h⟩;obtain⟨seps,a5⟩:=yx (q1R++sep);rw[<- a5] at f0 HZ;clear a5 hz hB hg c4 a0 a1 al m0 ml p0 pl;have d7:=g6.o.below a7.o;have t0:=d7.body.cell 0;have tl:=d7.body.lt;simp only[List.getElem?_cons_zero] at t0;clear d7;obtain⟨w3,c1⟩:=yx ((w2.alloc (.cells #[.pointer (some ⟨g,0,none⟩)] 50)).alloc (.cells #[.string s] 9));have a8:=run g s w2;rw[<- c1] at a8;have d8:=vv a8;have g7:w3.heap.size=w2.heap.size+2:=by rw[c1];simp
 have b3:Below w2.heap.size w2 w3:=by rw[c1];exact((Below.refl _ w2).alloc lr _).alloc (by simp) _
 have f1:Blk w3 w2.heap.size 50 [.pointer (some ⟨g,0,none⟩)]:=by rw[c1];exact(Blk.made w2 _ [.pointer (some ⟨g,0,none⟩)]).alloc _
 have f2:Blk w3 (w2.heap.size+1) 9 [.string s]:=by
  have e:=Blk.made (w2.alloc (.cells #[.pointer (some ⟨g,0,none⟩)] 50)) 9 [.string s];rw[World.size_alloc] at e;rw[c1];exact e
 have a9:Below W.heap.size W w3:=(c3.o.trans (a7.o.mono c3.o.size)).trans (b3.mono (Nat.le_trans c3.o.size a7.o.size));have f3:=vv (q6E w00 HG.o.1 HG.o.2 g (w2.heap.size+1) w2.heap.size mode 0 E F seps s none (by have:=HS.o;omega) (by have:=HS.o;omega) b9.o.2 w3
  (d3.o.trans ((a7.o.trans (b3.mono a7.o.size)).mono d3.o.size)) f2 f1 (f0.o.below b3))
 have g8:Hid (ItF J W.heap.size y [] w3):=vv ⟨HJ.o _ _ _ H0.o (Kz.kw (Kw.below (g:=W.heap.size) a9) lr),((g5.o.below a7.o).below b3)⟩;have c5:=vv (And.intro a9.size (Nat.le_trans d3.o.size (Nat.le_trans a7.o.size b3.size)));obtain⟨X,hX⟩:=yx (q12 seps 0 none (q0b s));have c6:Hid (q0T E F mode sep s=X.2++X.1.toList):=vv (by rw[HZ.o,hX];rfl);rw[<- hX] at f3;clear hX c1 a8 g7 b3 f1 f2 a9;go_wp2_with fail
 refine d8.o.mono ?_;rintro e w' ⟨rfl,rfl⟩;clear t0 tl;go_wp2_with fail
 refine(wpIn_wide (n:=0)).1 ?_;refine q1H (gf:=78) (lb:=#[.pointer (some ⟨w2.heap.size+1,0,none⟩),.pointer (some ⟨w2.heap.size,0,none⟩)]) rfl (enters_of Tryz.func78 (by kernel_rfl) rfl) f3.o
  (fun h k=>h.trans k) (fun W l o o' hl h ho=>Kb.put o' h ho (Nat.le_trans c5.o.2 hl)) (fun A B k o h _ hk ho=>h.non hk ho)
  (fun xs W l o o' h hl hk ho=>⟨h.1,h.2.1.put o' hk ho,h.2.2.trans (q2s o' hk (Nat.le_trans c5.o.2 hl))⟩) (fun _=>rfl)
  (ItF J W.heap.size y) (fun _ _ _=>False) (q9Q HJ.o c5.o.1) (q5y HJ.o b9.o.1) (fun c s A B row h=>h.elim)
  (fun c s A B h=>h.elim) g8.o ?_ ?_ ?_
 ·
  intro l' pre x A hI f4;obtain⟨x0,x1,x2,x3,x4,c7,a2⟩:=q1a E F mode x.1 x.2;dsimp only;rw[c7];have hz:Blk (A.alloc (.cells #[.int .u64 0,.int .u8 0,.int .i64 0,.int .i64 0,.int .i64 0] 49)) A.heap.size 49 [.int .u64 0,.int .u8 0,.int .i64 0,.int .i64 0,.int .i64 0]:=Blk.made A _ [.int .u64 0,.int .u8 0,.int .i64 0,.int .i64 0,.int .i64 0];have b0:[x0,x1,x2,x3,x4].all (·.oneCell')=true:=List.all_eq_true.2 a2;have HI:=vv hI;have g9:=vv f4;clear hI a2 f4
  gi_wp2_with (with_reducible refine q1g rfl 49 (.tmp 8) (.tmp 25) rfl A.heap.size [x0,x1,x2,x3,x4] rfl rfl 49 _ hz (by kernel_rfl) rfl b0 ?_)
  intro A2 f5 f6;have f7:Below A.heap.size A A2:=((Below.refl _ A).alloc lr _).grown f6 (by simp) (fun k e=>by cases e;exact lr);have i0:=vv f5;have b2:=vv f7;clear f5 f6 f7 hz
  gi_wp2
  refine⟨q2b b2.o,q41 (Nat.le_trans g3.o (Nat.le_of_lt HI.o.2.lt)) b2.o,q5y HJ.o b9.o.1 pre A A2 HI.o (Kw.below b2.o),?_⟩;intro B c8 a6;have i1:=a6.blk i0.o;have s0:=c8.2.cell 0;have sl:=c8.2.lt;simp only[List.getElem?_cons_zero] at s0;have i2:=vv c8;rw[e9.o] at s0;have b4:=HY.o pre x B c8.1 (by
   obtain⟨r,hr⟩:=g9.o;exact⟨r++X.1.toList,by rw[c6.o,<- hr];simp⟩)
  rw[c7] at b4;have d9:=vv b4;clear c8 a6 b4
  gi_wp2_with (with_reducible refine q1q rfl 49 (.tmp 8) rfl A.heap.size rfl 49 _ _ i1 Tryz.underlying49 rfl (by kernel_rfl) ?_)
  refine CallsIn.mono (CallsIn.inRound l' (callsIn_wide.2 d9.o)) ?_;rintro e W3 ⟨rfl,f8,b5,b6⟩;have HE:Hid (ownPostG w'.heap.size (Kb w00.heap.size) (ItF J W.heap.size y) (fun _ _ _=>False) (pre++[x]) B .normal {tmps:=#[],defers:=[]} W3):=vv
   ⟨⟨b6.size,fun k o hB hk ho=>b6.same k o (Nat.le_trans c5.o.1 hB) hk ho⟩,b5,f8,b5.blk i2.o.2 (.inr (.inr (.inr rfl)))⟩
  clear f8 b5 b6
  gi_wp2
  exact HE.o
 ·
  intro D xs W' hD hS hI hK;obtain⟨rfl,hR,c9⟩:=hS;have e0:=vv (qc4 w00 HG.o.1 HG.o.2 g mode (0+s.size) E F seps X.1 b9.o.2 W' c9 hR);have HI:=vv hI;have HK:=vv hK;have HD:Hid (W.heap.size<=D):=vv (Nat.le_trans c5.o.1 hD);have d0:Hid (∀(V:World) (pre:List Tk) (K:List Tk->World->Prop),(∀s A B,K s A->Kz W.heap.size A B->K s B)->K pre V->V.heap[D]?=some (.deferred (some []))->K pre (V.putObj D (.deferred none))):=vv
   fun V pre K hK h hv=>hK _ _ _ h (Kz.far (grownBy_putObj' V D _) fun r e=>by cases e;exact⟨HD.o,_,hv,rfl⟩)
  clear hR c9 hI hK hD;go_wp2_with fail
  refine e0.o.mono ?_;rintro e w5 ⟨v,rfl,b7,-,e4⟩;have f9:=vv (q5y HJ.o b9.o.1 _ _ _ HI.o e4);have d4:=vv (e4.non HK.o rfl);obtain⟨A0,c0,rfl⟩:=q3g b7;have b8:=vv b7;clear b7 e4;cases hX1:X.1 with
  | none =>
   rw[hX1] at b8 c6;have a4:Hid (q0T E F mode sep s=X.2):=vv (by rw[c6.o];simp);have i3:=vv hX1;clear hX1;simp only[Option.toList_none,List.length_nil];go_wp2;go_loopw [37] (fun i wr=>i=.int .i64 0/\wr=w5) (fun _ _=>0)
   case atStart=>exact⟨rfl,rfl⟩
   case round =>
    obtain⟨rfl,rfl⟩:=hrel;go_wp2;refine⟨by simp,.inl ⟨_,_,rfl,run_takeDeferred d4.o,?_⟩⟩;exact⟨_,results_none rfl _ _ _,⟨_,rfl⟩,(by rw[a4.o];exact d0.o _ _ _ HJ.o f9.o.1 d4.o)⟩
  | some t =>
   rw[hX1] at b8 c6;have a4:Hid (q0T E F mode sep s=X.2++[t]):=vv (by rw[c6.o];rfl);have i3:=vv hX1;clear hX1;simp only[Option.toList_some,List.length_cons,List.length_nil,Nat.zero_add];obtain⟨q,cap,e1,-,i4,i5,hq⟩:=q2T b8.o (by simp)
   injection e1 with e1 e2 e3
   subst e1;have d5:=hq 0 (by simp);simp only[Option.toList_some,List.getElem_cons_zero,Nat.zero_mul] at d5;obtain⟨x0,x1,x2,x3,x4,c7,a2⟩:=q1a E F mode t.1 t.2;rw[c7] at d5;have b0:[x0,x1,x2,x3,x4].all (·.oneCell')=true:=List.all_eq_true.2 a2;clear hq a2;go_wp2;refine(wpIn_wide (n:=0)).1 ?_
   gi_loopw [37] (fun i wr=>(i=.int .i64 0/\wr=w5)\/(i=.int .i64 1/\J (X.2++[t]) wr/\wr.heap[D]?=some (.deferred (some [])))) (fun i _=>1-(intOf i).toNat)
   case atStart=>exact .inl ⟨rfl,rfl⟩
   case round =>
    rcases hrel with ⟨rfl,rfl⟩|⟨rfl,hj,hd⟩
    ·have hz:Blk (wr.alloc (.cells #[.int .u64 0,.int .u8 0,.int .i64 0,.int .i64 0,.int .i64 0] 49)) wr.heap.size 49 [.int .u64 0,.int .u8 0,.int .i64 0,.int .i64 0,.int .i64 0]:=Blk.made wr _ [.int .u64 0,.int .u8 0,.int .i64 0,.int .i64 0,.int .i64 0]
     gi_wp2_with (with_reducible first
      | refine q2L rfl 49 (.tmp 39) rfl q 0 rfl [x0,x1,x2,x3,x4] _ d5 Tryz.underlying49 rfl (by kernel_rfl) ?_
      | refine q2t rfl 49 (.tmp 12) (.tmp 40) rfl wr.heap.size [x0,x1,x2,x3,x4] rfl rfl 49 _ hz (by kernel_rfl) rfl b0 ?_)
     intro w7 g0 g1;have e5:Below wr.heap.size wr w7:=((Below.refl _ wr).alloc lr _).grown g1 (by simp) (fun k e=>by cases e;exact lr);have e6:=vv (q5y HJ.o b9.o.1 _ _ _ f9.o (Kw.below (g:=g) e5));have i6:=vv ((e5.block D (Array.getElem?_eq_some_iff.1 d4.o).1).trans d4.o);have s0:=e6.o.2.cell 0;have sl:=e6.o.2.lt;simp only[List.getElem?_cons_zero] at s0;rw[e9.o] at s0;have b4:=HY.o X.2 t w7 e6.o.1 (by rw[a4.o];exact List.prefix_rfl);rw[c7] at b4;have d9:=vv b4;clear hz e5 g1 d5 i4 b4
     gi_wp2_with (with_reducible refine q2M rfl 49 (.tmp 12) rfl wr.heap.size rfl 49 _ _ g0 Tryz.underlying49 rfl (by kernel_rfl) ?_)
     refine(callsIn_wide.2 d9.o).mono ?_;clear g0 s0 sl;rintro e W8 ⟨rfl,g2,-,d1⟩;have d2:=vv (And.intro g2 (d1.same D _ HD.o i6.o rfl));clear g2 d1
     gi_wp2
     go_roundw
     case rel=>exact .inr ⟨rfl,d2.o⟩
     case measure=>simp [intOf]
    ·have d2:=vv (And.intro hj hd);clear hj hd
     gi_wp2
     refine⟨by simp,.inl ⟨_,_,rfl,run_takeDeferred d2.o.2,?_⟩⟩;exact⟨_,results_none rfl _ _ _,⟨_,rfl⟩,(by rw[a4.o];exact d0.o _ _ _ HJ.o d2.o.1 d2.o.2)⟩
 ·intro D c pre W' hD hp h;exact h.elim
theorem q9u(w:World):Calls Tryz.prog 17 #[] w fun e w'=>e=.returned (fm 11 52)/\Below w.heap.size w w':=by
 go_enter Tryz.func17,Tryz.ntmps17
 go_wp2;refine bodyPost_ret (v:=fm 11 52) (by simp [results,Tryz.results17,go_sem,fm]) rfl ⟨rfl,(Below.refl _ _).alloc lr _⟩
theorem qb4(w5:World)(E F:Int)(mode:Nat)(pre:List Tk)(x:Tk)(A:World)(n0 B0:Nat)(hn0:n0<=w5.heap.size)(hlen:pre.length+1<=1099511627776)(hI:qan w5 E F mode pre A):
  Calls Tryz.prog 42 #[.agg (q1e E F mode x.1 x.2).toArray,.pointer (some ⟨w5.heap.size,0,none⟩)] A fun e B=>e=.returned (.bool true)/\qan w5 E F mode (pre++[x]) B/\Kb n0 A B/\KeepsFrom B0 A B:=by
 obtain⟨i0,hi,b5,b6,b7⟩:=info_parts q42;obtain⟨x0,x1,x2,x3,x4,a9,a3⟩:=q1a E F mode x.1 x.2;rw[a9];obtain⟨h1,v,hB,a6⟩:=hI;obtain⟨A1,a7⟩:=yx (A.alloc (.cells #[x0,x1,x2,x3,x4] 49));have a8:Below A.heap.size A A1:=by rw[a7];exact(Below.refl _ A).alloc lr _
 have b0:Blk A1 A.heap.size 49 [x0,x1,x2,x3,x4]:=by rw[a7];exact Blk.made A _ [x0,x1,x2,x3,x4]
 have a5:=hB.below a8;have a0:=q4n a6 a8;have b8:[x0,x1,x2,x3,x4].all (·.oneCell')=true:=List.all_eq_true.2 a3;have HI:=vv (And.intro (h1.trans (a8.mono h1.size)) (And.intro a5 a0));have b3:=vv a8;have HX:=vv b0;have HA:=vv a7;have b9:=vv h1.size;have c0:=vv a9;have s0:=a5.cell 0;have f0:=a5.fz 0;have sl:=a5.lt;simp only[List.getElem?_cons_zero] at s0;obtain⟨o0,o1,o2,o3,o4⟩:x0.oneCell'=true/\x1.oneCell'=true/\x2.oneCell'=true/\x3.oneCell'=true/\x4.oneCell'=true:=by simpa using a3
 have b4:=b0;have a1:=a0;have b1:=a5;rw[a7] at s0 sl f0 b4 a1 b1;have c1:=vv (And.intro b1 a1);have c2:Hid (w5.heap.size<=(A.alloc (.cells #[x0,x1,x2,x3,x4] 49)).heap.size):=vv (by have:=h1.size;simp;omega);have b2:=vv a3;clear h1 hB a6 a7 a8 b0 a5 a0 a9 a1 b1 a3;go_enter Tryz.func42,Tryz.ntmps42
 go_wp2_with (first
  | with_reducible refine q0x rfl 49 (.tmp 2) rfl A.heap.size rfl 49 _ _ b4 Tryz.underlying49 rfl (by kernel_rfl) ?_
  | (at_builtin;refine wpList_append_own _ rfl _ _ 42 rfl w5.heap.size 49 i0 (.agg #[.int .u64 0,.int .u8 0,.int .i64 0,.int .i64 0,.int .i64 0]) 5 40 Tryz.underlying42 hi b5 b6 b7 rfl (by decide) _ pre.length (q0m E F mode pre) rfl (c1.o.2.alloc _) ⟨A.heap.size+1,0,none⟩ 1 1 [x0,x1,x2,x3,x4] rfl rfl (fun j u h=>by have e:=q3n (A.alloc (.cells #[x0,x1,x2,x3,x4] 49)) [x0,x1,x2,x3,x4] 49 j u h;rw[World.size_alloc] at e;exact e) b2.o (by unfold maxLen;omega) (by omega) (by have:=c2.o;rw[World.size_alloc];omega) ?_))
 intro v3 B3 a4 a2 _;rw[<- HA.o] at a2;obtain⟨k1,k2,k3,k4,k5,k6⟩:=q6L (lo:=w5.heap.size) HI.o.1.size lr HI.o.2.1 HI.o.2.2 (by decide) a4 a2;have HE:Hid (qan w5 E F mode (pre++[x]) (B3.setCell ⟨w5.heap.size,0,none⟩ v3)/\Kb n0 A (B3.setCell ⟨w5.heap.size,0,none⟩ v3)/\KeepsFrom B0 A (B3.setCell ⟨w5.heap.size,0,none⟩ v3)):=vv (by
  refine⟨⟨HI.o.1.trans k5,v3,k2,?_⟩,(q41 (Nat.le_trans hn0 b9.o) b3.o).trans ⟨k5.mono hn0,k4.size,fun k cs t hk ht=>k6 k cs t hk (fun e=>q5t.1 (e ▸ ht)) (fun e=>q5t.2 (e ▸ ht))⟩,(q2b b3.o).trans (k4.from _)⟩;rw[q3h,c0.o,List.length_append];exact k3)
 have s1:=k1.cell 0;have f1:=k1.fz 0;have sl1:=k1.lt;simp only[List.getElem?_cons_zero] at s1;obtain⟨q2,cap2,rfl⟩:=ownsRow_succ a4;clear k1 k2 k3 k4 k5 k6 a4 a2 s0 f0 sl;go_wp2;go_ret
 exact⟨rfl,HE.o⟩
theorem whole(w:World)(hg0:Bg w)(ht0:EType w)(E F:Int)(mode:Nat)(sep s:ByteArray)(hsp:sep.size<=140737488351232)(hsz:s.size<=1048576):
  Calls Tryz.prog 16 #[fm E F,.int .u8 (mode:Int),.string sep,.string s] w fun e w'=>∃v,e=.returned v /\
   w'.ownsRow w.heap.size 49 5 v (q0T E F mode sep s).length (q0m E F mode (q0T E F mode sep s))/\Below w.heap.size w w':=by
 obtain⟨w1,a6⟩:=yx (w.alloc (.cells #[.int .i64 E,.int .i64 F] 23));have b1:Below w.heap.size w w1:=by rw[a6];exact(Below.refl _ w).alloc lr _
 have hf:Blk w1 w.heap.size 23 [.int .i64 E,.int .i64 F]:=by rw[a6];exact Blk.made w _ [.int .i64 E,.int .i64 F]
 have a8:=vv b1;have HW:=vv a6;have b2:=vv (And.intro (hg0.below b1) (ht0.below b1));have a0:=hf.cell 0;have a1:=hf.cell 1;have al:=hf.lt;simp only[List.getElem?_cons_zero,List.getElem?_cons_succ] at a0 a1;clear a6 b1 hf hg0 ht0;go_enter Tryz.func16,Tryz.ntmps16
 go_wp2_with fail
 rw[<- HW.o];go_wp2_with fail
 refine(qbH E F mode sep s w1).mono ?_;rintro e w5 ⟨ca,cb,cc,cd,rfl,a2,a3,-⟩;clear a0 a1 al;have b3:Hid (Below w1.heap.size w1 w5):=vv a3;obtain⟨w6,a4⟩:=yx (w5.alloc (.cells #[.slice none 0 0] 42));have a7:Below w5.heap.size w5 w6:=by rw[a4];exact(Below.refl _ w5).alloc lr _
 have b6:w6.heap.size=w5.heap.size+1:=by rw[a4];simp
 have hl:(q0T E F mode sep s).length<=1048577:=by
  unfold q0T;split
  ·have h1:=q1x (q1R++sep) (q0b s) 0 none;rw[q0E] at h1;have h2:(q12 (q1R++sep) 0 none (q0b s)).1.toList.length<=1:=by cases(q12 (q1R++sep) 0 none (q0b s)).1<;>simp
   unfold q9b;rw[List.length_append];omega
  ·simp
 have HF:=vv (qbb w1 b2.o.1 b2.o.2 ca cb cc cd mode w5.heap.size E F sep s (by omega) hsp w6 (a3.trans (a7.mono a3.size)) (a2.below a7) (qan w5 E F mode)
  (q9W (by omega)) (fun pre x A hA hp=>qb4 w5 E F mode pre x A w1.heap.size w6.heap.size a3.size (by
   have:=hp.length_le;rw[List.length_append,List.length_singleton] at this;omega) hA) ⟨a7,_,by rw[a4];exact Blk.made w5 _ [.slice none 0 0],World.ownsRow_nil _ _ _ _⟩)
 have b7:=vv a4;have b8:=q9z (.func 37) #[] #[.pointer (some ⟨ca,0,none⟩),.pointer (some ⟨cb,0,none⟩),.pointer (some ⟨cc,0,none⟩),.pointer (some ⟨cd,0,none⟩)] w5;clear a2 a3 a4 a7 b6 hl;go_wp2_with fail
 rw[<- b7.o];refine HF.o.mono ?_;rintro e w7 ⟨⟨v0,rfl⟩,b4,v,a9,a5⟩;have b9:=vv b4;have b0:=vv a5;have s0:=a9.cell 0;have sl:=a9.lt;simp only[List.getElem?_cons_zero] at s0;clear b4 a9 a5;go_wp2;go_ret
 have b5:w.heap.size<=w5.heap.size:=Nat.le_trans a8.o.size b3.o.size;exact⟨v,rfl,q82 b0.o b5,(a8.o.trans (b3.o.mono a8.o.size)).trans (b9.o.mono b5)⟩
theorem q8a(c:Nat)(hc:c<256):(0<=Lib.indexByte q5W.data.toList c.toUInt8)↔(c=43\/c=45\/c=46\/c=95\/c=40\/c=41):=by
 have h:∀d,d<256->(c.toUInt8=(d:Nat).toUInt8↔c=d):=by
  intro d hd
  constructor
  ·intro h;have:=congrArg UInt8.toNat h;simp only[Nat.toUInt8,UInt8.toNat_ofNat'] at this;omega
  ·rintro rfl;rfl
 have a1:=h 43 (by decide);have a2:=h 45 (by decide);have a3:=h 46 (by decide);have a4:=h 95 (by decide);have a5:=h 40 (by decide);have a6:=h 41 (by decide);rw[show((43:Nat).toUInt8)=(43:UInt8) from rfl] at a1;rw[show((45:Nat).toUInt8)=(45:UInt8) from rfl] at a2;rw[show((46:Nat).toUInt8)=(46:UInt8) from rfl] at a3;rw[show((95:Nat).toUInt8)=(95:UInt8) from rfl] at a4;rw[show((40:Nat).toUInt8)=(40:UInt8) from rfl] at a5;rw[show((41:Nat).toUInt8)=(41:UInt8) from rfl] at a6;rw[q2n];simp only[List.mem_cons,List.not_mem_nil,or_false,a1,a2,a3,a4,a5,a6]
theorem q6Q(c:Nat)(hc:c<256):q1K c=true↔((97<=c/\c<=122)\/(65<=c/\c<=90)\/(48<=c/\c<=57)\/127<c\/c=43\/c=45\/c=46\/c=95\/c=40\/c=41):=by
 unfold q1K;simp only[Bool.or_eq_true,Bool.and_eq_true,decide_eq_true_eq,q8a c hc]
 constructor
 ·rintro((((h|h)|h)|h)|h)
  ·exact .inl h
  ·exact .inr (.inl h)
  ·exact .inr (.inr (.inl h))
  ·exact .inr (.inr (.inr (.inl h)))
  ·exact .inr (.inr (.inr (.inr h)))
 ·rintro(h|h|h|h|h)
  ·exact .inl (.inl (.inl (.inl h)))
  ·exact .inl (.inl (.inl (.inr h)))
  ·exact .inl (.inl (.inr h))
  ·exact .inl (.inr h)
  ·exact .inr h
theorem qar(sep:ByteArray)(w:World)(hsz:sep.size<=140737488351232):
  Calls Tryz.prog 19 #[.string sep] w fun e w'=>e=.returned (.bool (q4Y sep))/\w=w':=by
 by_cases h16:16<sep.size
 ·have a3:(16:Int)<(sep.size:Int):=by omega
  have HF:Hid (q4Y sep=false):=vv (by unfold q4Y;rw[decide_eq_false (by omega)];rfl);clear h16;go_enter Tryz.func19,Tryz.ntmps19
  go_wp2;go_ret
  exact⟨q3y HF.o.symm,rfl⟩
 have a4:(sep.size:Int)<=16:=by omega
 clear hsz;go_enter Tryz.func19,Tryz.ntmps19
 go_wp2;go_loopw [3] (fun t wr=>wr=w/\∃k:Nat,k<=sep.size/\t=.int .i64 k/\(∀j (h:j<sep.size),j<k->q1K sep[j].toNat=false)) (fun t _=>sep.size-(intOf t).toNat)
 case atStart=>exact⟨rfl,0,Nat.zero_le _,rfl,fun j _ h=>absurd h (by omega)⟩
 case round =>
  obtain⟨rfl,k,hk,rfl,a0⟩:=hrel;have HA:=vv a0;clear a0;by_cases hks:k<sep.size
  ·obtain⟨c,hc⟩:=yx (sep[k].toNat);have a1:c<256:=by rw[hc];exact UInt8.toNat_lt _
   have a7:((sep[k].toNat:Nat):Int)=(c:Int):=by rw[hc]
   have hp:=q6Q c a1;cases hb:q1K c with
   | false =>
    rw[hb] at hp;have hn:¬((97<=c/\c<=122)\/(65<=c/\c<=90)\/(48<=c/\c<=57)\/127<c\/c=43\/c=45\/c=46\/c=95\/c=40\/c=41):=fun h=>by have:=hp.2 h;cases this
    have n1:¬(c:Int)=43:=by omega
    have n2:¬(c:Int)=45:=by omega
    have n3:¬(c:Int)=46:=by omega
    have n4:¬(c:Int)=95:=by omega
    have n5:¬(c:Int)=40:=by omega
    have n6:¬(c:Int)=41:=by omega
    have n7:(c:Int)<=127:=by omega
    have m1:((c:Int)==43)=false:=by simpa using n1
    have m2:((c:Int)==45)=false:=by simpa using n2
    have m3:((c:Int)==46)=false:=by simpa using n3
    have m4:((c:Int)==95)=false:=by simpa using n4
    have m5:((c:Int)==40)=false:=by simpa using n5
    have m6:((c:Int)==41)=false:=by simpa using n6
    have m7:decide ((127:Int)<(c:Int))=false:=decide_eq_false (by omega);have a5:c<48\/(58<=c/\c<65)\/(91<=c/\c<97)\/(123<=c):=by omega
    have HD:Hid (q1K sep[k].toNat=false):=vv (by rw[<- hc];exact hb);clear hp hn hb hc;rcases a5 with h|h|h|h;all_goals
     first
      | have t1:(65:Int)<=(c:Int):=by omega
      | have t1:(c:Int)<65:=by omega
     first
      | have t2:(c:Int)<=90:=by omega
      | have t2:(90:Int)<(c:Int):=by omega
     first
      | have t3:(97:Int)<=(c:Int):=by omega
      | have t3:(c:Int)<97:=by omega
     first
      | have t4:(c:Int)<=122:=by omega
      | have t4:(122:Int)<(c:Int):=by omega
     first
      | have t5:(48:Int)<=(c:Int):=by omega
      | have t5:(c:Int)<48:=by omega
     first
      | have t6:(c:Int)<=57:=by omega
      | have t6:(57:Int)<(c:Int):=by omega
     first
      | have e1:decide ((65:Int)<=(c:Int))=true:=decide_eq_true (by omega)
      | have e1:decide ((65:Int)<=(c:Int))=false:=decide_eq_false (by omega)
     first
      | have e2:decide ((c:Int)<=90)=true:=decide_eq_true (by omega)
      | have e2:decide ((c:Int)<=90)=false:=decide_eq_false (by omega)
     first
      | have e3:decide ((97:Int)<=(c:Int))=true:=decide_eq_true (by omega)
      | have e3:decide ((97:Int)<=(c:Int))=false:=decide_eq_false (by omega)
     first
      | have e4:decide ((c:Int)<=122)=true:=decide_eq_true (by omega)
      | have e4:decide ((c:Int)<=122)=false:=decide_eq_false (by omega)
     first
      | have e5:decide ((48:Int)<=(c:Int))=true:=decide_eq_true (by omega)
      | have e5:decide ((48:Int)<=(c:Int))=false:=decide_eq_false (by omega)
     first
      | have e6:decide ((c:Int)<=57)=true:=decide_eq_true (by omega)
      | have e6:decide ((c:Int)<=57)=false:=decide_eq_false (by omega)
     clear h;go_wp2;go_roundw
     case rel =>
      refine⟨by first|trivial|rfl,k+1,by omega,by go_num,fun j h hj=>?_⟩;rcases(by omega:j<k\/j=k) with h|rfl
      ·exact HA.o j _ h
      ·exact HD.o
     case measure=>simp [intOf];omega
   | true =>
    have HF:Hid (q4Y sep=false):=vv (q6Y hks (by rw[<- hc];exact hb));have hy:=hp.1 hb;clear hp hb hc;have a6:(65<=c/\c<=90)\/(97<=c/\c<=122)\/(48<=c/\c<=57)\/127<c\/c=43\/c=45\/c=46\/c=95\/c=40\/c=41:=by omega
    clear hy;rcases a6 with h|h|h|h|rfl|rfl|rfl|rfl|rfl|rfl
    iterate 4
     first
      | have t1:(65:Int)<=(c:Int):=by omega
      | have t1:(c:Int)<65:=by omega
     first
      | have t2:(c:Int)<=90:=by omega
      | have t2:(90:Int)<(c:Int):=by omega
     first
      | have t3:(97:Int)<=(c:Int):=by omega
      | have t3:(c:Int)<97:=by omega
     first
      | have t4:(c:Int)<=122:=by omega
      | have t4:(122:Int)<(c:Int):=by omega
     first
      | have t5:(48:Int)<=(c:Int):=by omega
      | have t5:(c:Int)<48:=by omega
     first
      | have t6:(c:Int)<=57:=by omega
      | have t6:(57:Int)<(c:Int):=by omega
     first
      | have t7:(127:Int)<(c:Int):=by omega
      | have t7:(c:Int)<=127:=by omega
     clear h;rotate_left
    all_goals
     go_wp2;go_ret
     exact⟨q3y HF.o.symm,rfl⟩
  ·have a2:k=sep.size:=by omega
   subst a2;have HT:Hid (q4Y sep=true):=vv (by rw[q6Z (fun j h=>HA.o j h h)];exact decide_eq_true (by omega));clear hk hks;go_wp2;go_ret
   exact⟨q3y HT.o.symm,rfl⟩
theorem q7S:q0T 11 52 0 ⟨#[44]⟩ ⟨#[49,44,50,32,120]⟩=[([49],0),([50],2),([120],4)]:=by decide +kernel
theorem q6y:(q0C 11 52 (txt [49]) 0).1=4607182418800017408/\(q0C 11 52 (txt [120]) 0).2.2.1≠0:=by decide +kernel
theorem qa7(C:Int)(d:Nat)(hd:0<d):∃(t:Int) (m:Nat),Int.tmod C (d:Int)=t/\m<d/\((t<0 /\ -t=(m:Int))\/(¬t<0/\t=(m:Int))):=by
 refine⟨_,(Int.tmod C (d:Int)).natAbs,rfl,?_,?_⟩
 ·rw[Int.natAbs_tmod];exact Nat.mod_lt _ (by simpa using hd)
 ·by_cases h:Int.tmod C (d:Int)<0
  ·exact .inl ⟨h,by omega⟩
  ·exact .inr ⟨h,by omega⟩
theorem q3a{w:World}{lo n k:Nat}{e:TypeId}{v:Value}{xs:List Value}(h:w.ownsRow lo e k v n xs):∀q,v.ownBlock=some q->lo<=q:=by
 intro q e1;rcases h.2 with ⟨e2,-⟩|⟨q1,cap,cur,e2,h1,-⟩
 ·rw[e2] at e1;cases e1
 ·rw[e2] at e1;cases e1;exact h1
theorem q81{A B C:World}{lo n m k k':Nat}{e e':TypeId}{v v':Value}{xs ys:List Value}(h:B.ownsRow A.heap.size e k v m ys)(hr:A.ownsRow lo e' k' v' n xs)(hg:B.grownBy C v'.ownBlock):C.ownsRow A.heap.size e k v m ys:=by
 refine h.kept hg ?_;rcases h.2 with ⟨rfl,-⟩|⟨q,cap,cur,rfl,hq,-⟩
 ·exact .inl rfl
 ·refine .inr fun e1=>?_
  rcases hr.2 with ⟨rfl,-⟩|⟨q',cap',cur',rfl,-,a0,-⟩
  ·cases e1
  ·simp only[Value.ownBlock,Option.some.injEq] at e1;have:=(Array.getElem?_eq_some_iff.1 a0).1;omega
theorem TopPieces(w:World)(hg0:Bg w)(ht0:EType w)(E F:Int)(mode:Nat)(sep s:ByteArray)(A:Option Addr)(n c:Nat)(C:Nat->Int)(hC:Ints w A n C)
  (hsp:sep.size<=1048576) (hsz:s.size<=1048576) (hn:n<=1048576) :
  Calls Tryz.prog 5 #[fm E F,.int .u8 (mode:Int),.string sep,.string s,.slice A n c] w fun e w'=>e=.returned (.bool true)/\Below w.heap.size w w':=by
 obtain⟨i0,hi,i4,i5,i6⟩:=info_parts q42;obtain⟨w1,g2⟩:=yx (w.alloc (.cells #[.int .i64 E,.int .i64 F] 23));have b1:Below w.heap.size w w1:=by rw[g2];exact(Below.refl _ w).alloc lr _
 have hf:Blk w1 w.heap.size 23 [.int .i64 E,.int .i64 F]:=by rw[g2];exact Blk.made w _ [.int .i64 E,.int .i64 F]
 have c2:=vv b1;have i7:=vv hf;have HW:=vv g2;have m3:=vv (hC.below b1);have b8:=vv (And.intro (hg0.below b1) (ht0.below b1));have m4:(s.size:Int)<=1048576:=by omega
 have o3:(n:Int)<=1048576:=by omega
 clear g2 b1 hf hC hg0 ht0;go_enter Tryz.func5,Tryz.ntmps5
 go_wp2_with fail
 rw[<- HW.o];refine(q9u w1).mono ?_;rintro e w2 ⟨rfl,g3⟩;have k4:=vv (whole w2 (b8.o.1.below g3) (b8.o.2.below g3) 11 52 0 ⟨#[44]⟩ ⟨#[49,44,50,32,120]⟩ (by decide) (by decide));rw[q7S] at k4;have i8:Hid (Below w1.heap.size w1 w2):=vv g3;clear g3;go_wp2_with fail
 refine k4.o.mono ?_;rintro e w3 ⟨v0,rfl,k5,k6⟩;have g4:Hid (Below w1.heap.size w1 w3):=vn i8 k6;obtain⟨q,cap,rfl,-,m5,i9,hq⟩:=q2T k5 (by decide);have h0:=hq 0 (by decide);have h2:=hq 2 (by decide);simp only[List.getElem_cons_zero,List.getElem_cons_succ,q63] at h0 h2;have k0:w3.cell? ⟨q,0,none⟩=some (.int .u64 4607182418800017408):=by
  have:=h0 0 _ rfl;rw[q6y.1] at this;exact this
 obtain⟨cd,j0⟩:=yx ((q0C 11 52 (txt [120]) 0).2.2.1);have k1:w3.cell? ⟨q,12,none⟩=some (.int .i64 cd):=by
  have:=h2 2 _ rfl;rw[<- j0] at this;exact this
 have k2:w3.cell? ⟨q,13,none⟩=some (.int .i64 4):=h2 3 _ rfl;have o4:(cd != 0)=true:=by rw[j0];simpa using q6y.2
 have g5:=i7.o.below g4.o;have f0:=g5.cell 0;have f1:=g5.cell 1;have fl:=g5.lt;simp only[List.getElem?_cons_zero,List.getElem?_cons_succ] at f0 f1;simp only[List.length_cons,List.length_nil,Nat.zero_add,Nat.reduceAdd] at i9 ⊢;clear k5 k6 hq h0 h2 g5 j0;have g7:=vv (R3.Check E F w3);cases hform:R3.formOk E F with
 | false =>
  rw[R3.chk_no hform] at g7;clear hform;go_wp2_with fail
  refine g7.o.mono ?_;rintro e w4 ⟨rfl,d9⟩;have d0:=vv (c2.o.trans ((g4.o.trans (d9.mono g4.o.size)).mono c2.o.size));clear d9;go_wp2;go_ret
  exact⟨rfl,d0.o⟩
 | true =>
  rw[R3.chk_ok hform] at g7;have m6:=vv hform;clear hform;go_wp2_with fail
  refine g7.o.mono ?_;rintro e w4 ⟨rfl,d9⟩;have d0:Hid (Below w1.heap.size w1 w4):=vn g4 d9;clear d9 k0 k1 k2 f0 f1 fl;by_cases hm:4<mode
  ·have m7:(4:Int)<(mode:Int):=by omega
   clear hm;go_wp2;go_ret
   exact⟨rfl,c2.o.trans (d0.o.mono c2.o.size)⟩
  have m7:(mode:Int)<=4:=by omega
  have o5:decide ((4:Int)<(mode:Int))=false:=decide_eq_false (by omega);have HP:=vv (qar sep w4 (by omega));cases hy:q4Y sep with
  | false =>
   rw[hy] at HP;clear hy hm;go_wp2_with fail
   refine HP.o.mono ?_;rintro e w5 ⟨rfl,rfl⟩;go_wp2;go_ret
   exact⟨rfl,c2.o.trans (d0.o.mono c2.o.size)⟩
  | true =>
   rw[hy] at HP;have e0:Hid (q16 E F mode sep=0):=vv (by unfold q16;rw[if_neg (by rw[m6.o];decide),if_neg hm,if_neg (by rw[hy];decide)]);clear hy hm;go_wp2_with fail
   refine HP.o.mono ?_;rintro e w5 ⟨rfl,rfl⟩;have HN:=vv (New E F mode sep w4 (by omega));have g8:=i7.o.below d0.o;have f0:=g8.cell 0;have f1:=g8.cell 1;have fl:=g8.lt;simp only[List.getElem?_cons_zero,List.getElem?_cons_succ] at f0 f1;clear g8;go_wp2_with fail
   refine HN.o.mono ?_;rintro e w5 ⟨hB,(⟨hz,-⟩|⟨-,g,rfl,hg,e7⟩)⟩
   ·exact absurd e0.o hz
   have m8:Hid (Below w1.heap.size w1 w5):=vn d0 hB;have d5:Hid (w1.heap.size<=g):=vv (Nat.le_trans d0.o.size hg);have k7:Hid (Rdr w5 g E F mode (q1R++sep) 0 none):=vv ⟨⟨none,e7,rfl⟩,fun t h=>by cases h⟩;obtain⟨seps,b5⟩:=yx (q1R++sep);rw[<- b5] at k7;have m9:Hid (q0T E F mode sep s=q9b seps 0 none (q0b s)):=vv (by unfold q0T;rw[if_pos e0.o,b5]);clear b5 hB hg e7 f0 f1 fl m5;go_wp2;go_loopw [15,16,17] (qco w1 g E F mode seps s n) (fun _ _ i _=>n+1-(intOf i).toNat)
   case atStart=>exact⟨0,0,Nat.zero_le _,.inl (Nat.zero_le _),rfl,rfl,by simpa [q12,q0m] using World.ownsRow_nil _ _ _ _,by simpa [q12] using k7.o,m8.o⟩
   case round =>
    obtain⟨k,j,hk,hj,rfl,rfl,d1,hR,hB⟩:=hrel;obtain⟨X,hX⟩:=yx (q12 seps 0 none ((q0b s).take k));rw[<- hX] at d1 hR;have HX:=vv hX;have e8:=vv d1;have k8:=vv hR;have c3:=vv hB;have k9:X.2.length<=1048576:=by
     rw[hX];refine Nat.le_trans (q1x _ _ _ _) ?_;rw[List.length_take,q0E];omega
    have o6:=vv k9;have o7:(j:Int)<=1048577:=by omega
    have o8:(k:Int)<=(s.size:Int):=by omega
    clear hX d1 hR hB k9;by_cases hexit:j<n/\j<1000
    ·obtain⟨tm,m,n0,l0,n1⟩:=qa7 (C j) (s.size-k+1) (by omega);obtain⟨r,hr⟩:=yx (s.size-k);have o9:(s.size:Int)-(k:Int)=(r:Int):=by omega
     obtain⟨d,hd⟩:=yx (s.size-k+1);have p0:(r:Int)+1=(d:Int):=by omega
     rw[<- hd] at n0 l0;have p1:((d:Int)==0)=false:=by rw[beq_eq_false_iff_ne];omega
     have p2:¬(d:Int)=0:=by omega
     have p3:(d:Int)<=1048577:=by omega
     have e9:-1048577<=tm/\tm<=1048577:=by omega
     obtain⟨e9,p4⟩:=e9;obtain⟨M,hM⟩:=yx (k+m);have p5:(k:Int)+(m:Int)=(M:Int):=by omega
     have p6:(k:Int)<=(M:Int):=by omega
     have p7:(M:Int)<=(s.size:Int):=by omega
     have d6:(s.extract k M).size=m:=by rw[ByteArray.size_extract];omega
     obtain⟨Y,hY⟩:=yx (q12 seps k X.1 (q0b (s.extract k M)));have d7:q12 seps 0 none ((q0b s).take M)=(Y.1,X.2++Y.2):=by
      have e:(q0b s).take M=(q0b s).take k++q0b (s.extract k M):=by
       rw[q24,hM,List.take_add,show k+m-k=m by omega]
      rw[e,q1b,<- HX.o,hY,List.length_take,q0E,show min k s.size=k by omega,Nat.zero_add]
     have d2:=qc3 w1 b8.o.1 b8.o.2 g mode k E F seps (s.extract k M) X.1 (by omega) (by omega) d5.o wr c3.o k8.o;rw[<- hY,d6,<- hM] at d2;have f2:X.2.length+Y.2.length<=1048576:=by
      have h1:=q1x seps ((q0b s).take M) 0 none;rw[d7,List.length_append,List.length_take,q0E] at h1;omega
     have j1:=vv d2;have f3:=vv d7;have c4:=vv f2;have n2:Hid (M<=s.size):=vv (by omega);have HJ:Hid (j<n):=vv hexit.1;have t1:(j:Int)<(n:Int):=by omega
     have t2:(j:Int)<1000:=by omega
     obtain⟨b,o,rfl,j2,c5⟩:=m3.o.at_ (by omega);have p8:=(c3.o.cell (p:=⟨b,o+j,none⟩) j2).trans (c5 j hexit.1);have p9:=Nat.lt_of_lt_of_le j2 c3.o.size;have q0:=vv (And.intro hd (And.intro hr hM));clear d2 d7 f2 hY d6 hj hM hexit j2 c5 hd hr l0;rcases n1 with ⟨n3,q3⟩|⟨n3,rfl⟩;all_goals
      go_wp2_with fail
      refine j1.o.mono ?_;rintro e w6 ⟨v3,rfl,a7,d8,a9⟩;have f4:=vv a7;have f5:=vv d8;have a6:=vv (a9.row e8.o (by unfold RT;decide));have d3:=vv (c3.o.trans (a9.low2 d5.o c3.o.size));clear a7 d8 a9;go_wp2_with (at_builtin;refine q0K rfl _ _ 42 rfl w1.heap.size wr.heap.size 49 i0 (.agg #[.int .u64 0,.int .u8 0,.int .i64 0,.int .i64 0,.int .i64 0]) 5 40 (by decide) Tryz.underlying42 hi i4 i5 i6 rfl _ X.2.length (q0m E F mode X.2) rfl a6.o _ Y.2.length (q0m E F mode Y.2) rfl f4.o (q2A E F mode _) (by have:=c4.o;unfold maxLen;omega) (by have:=c4.o;omega) d3.o.size ?_)
      intro v4 w7 a8 a5;have f6:=vv (f5.o.grown a6.o (by unfold RT;decide) a5);have f7:Hid (Below w1.heap.size w1 w7):=vv (d3.o.grown a5 d3.o.size (q3a a6.o));have f8:Hid (w7.ownsRow w1.heap.size 49 5 v4 (X.2++Y.2).length (q0m E F mode (X.2++Y.2))):=vv (by rw[q1z,List.length_append];exact a8);obtain⟨l1,h,n4,l2⟩:=f6.o.says;have n5:=vv l1;have n6:=vv l2;have h1:(h:Int)<=(M:Int):=by omega
      clear l1 l2 a8 a5 n4;go_wp2_with fail
      refine n5.o.mono ?_;rintro e w8 ⟨rfl,rfl⟩;go_wp2_with fail
      refine n6.o.mono ?_;rintro e w8 ⟨rfl,rfl⟩;go_wp2;go_roundw
      case rel =>
       refine⟨M,j+1,n2.o,.inl (by have:=HJ.o;omega),rfl,by go_num,?_,?_,f7.o⟩
       ·rw[f3.o];exact f8.o
       ·rw[f3.o];exact f6.o
      case measure =>
       have q4:=HJ.o;simp only[intOf];omega
    ·
     obtain⟨Y,hY⟩:=yx (q12 seps k X.1 (q0b (s.extract k s.size)));have d6:(s.extract k s.size).size=s.size-k:=by rw[ByteArray.size_extract];omega
     have d7:q0T E F mode sep s=X.2++Y.2++Y.1.toList:=by
      have e:q0b s=(q0b s).take k++q0b (s.extract k s.size):=by
       rw[q24,List.take_of_length_le (l:=(q0b s).drop k) (by rw[List.length_drop,q0E];exact lr),List.take_append_drop]
      have e2:q9b seps 0 none (q0b s)=X.2++(Y.2++Y.1.toList):=by
       rw[e,q5d,<- HX.o,hY,List.length_take,q0E,show min k s.size=k by omega,Nat.zero_add]
       rfl
      rw[m9.o,e2,List.append_assoc]
     have d2:=qc3 w1 b8.o.1 b8.o.2 g mode k E F seps (s.extract k s.size) X.1 (by omega) (by omega) d5.o wr c3.o k8.o;rw[<- hY,d6,show k+(s.size-k)=s.size by omega] at d2;have f2:X.2.length+Y.2.length<=1048576:=by
      have h1:=q1x seps (q0b (s.extract k s.size)) k X.1;rw[<- hY,q0E,d6] at h1;have h2:=q1x seps ((q0b s).take k) 0 none;rw[<- HX.o,List.length_take,q0E] at h2;omega
     have j1:=vv d2;have f3:=vv d7;have c4:=vv f2;have d4:Hid (Y.1.toList.length<=1):=vv (by cases Y.1<;>simp);have g9:(¬j<n)\/(j<n/\¬j<1000):=by omega
     clear hexit d2 d7 f2 hY d6;rcases g9 with g9|⟨g9,j3⟩;have t1:¬(j:Int)<(n:Int):=by omega
     rotate_left;have t1:(j:Int)<(n:Int):=by omega
     have t2:¬(j:Int)<1000:=by omega
     clear j3;rotate_left;all_goals
      clear g9;go_wp2_with fail
      refine j1.o.mono ?_;rintro e w6 ⟨v3,rfl,a7,d8,a9⟩;have f4:=vv a7;have f5:=vv d8;have a6:=vv (a9.row e8.o (by unfold RT;decide));have d3:=vv (c3.o.trans (a9.low2 d5.o c3.o.size));have j4:=vv (qc4 w1 b8.o.1 b8.o.2 g mode s.size E F seps Y.1 d5.o w6 d3.o d8);clear a7 d8 a9;go_wp2_with fail
      refine j4.o.mono ?_;rintro e w7 ⟨v5,rfl,c6,c9,b9⟩;have j5:=vv c6;have n7:=vv c9;have f4:=vv (b9.row f4.o (by unfold RT;decide));have b6:=vv (b9.row a6.o (by unfold RT;decide));have f7:=vv (d3.o.trans (b9.low2 d5.o d3.o.size));clear c6 c9 b9;go_wp2_with (at_builtin;refine q0K rfl _ _ 42 rfl w1.heap.size wr.heap.size 49 i0 (.agg #[.int .u64 0,.int .u8 0,.int .i64 0,.int .i64 0,.int .i64 0]) 5 40 (by decide) Tryz.underlying42 hi i4 i5 i6 rfl _ X.2.length (q0m E F mode X.2) rfl b6.o _ Y.2.length (q0m E F mode Y.2) rfl f4.o (q2A E F mode _) (by have:=c4.o;unfold maxLen;omega) (by have:=c4.o;omega) f7.o.size ?_)
      intro v6 w8 a8 a5;have b7:Hid (w8.ownsRow w1.heap.size 49 5 v6 (X.2++Y.2).length (q0m E F mode (X.2++Y.2))):=vv (by rw[q1z,List.length_append];exact a8);have n8:=vv (q4A n7.o b6.o a5);have j6:Hid (Below w1.heap.size w1 w8):=vv (f7.o.grown a5 f7.o.size (q3a b6.o));have j5:=vv (q81 j5.o a6.o a5);clear a8 a5;go_wp2_with (at_builtin;refine q0K rfl _ _ 42 rfl w1.heap.size w6.heap.size 49 i0 (.agg #[.int .u64 0,.int .u8 0,.int .i64 0,.int .i64 0,.int .i64 0]) 5 40 (by decide) Tryz.underlying42 hi i4 i5 i6 rfl _ (X.2++Y.2).length (q0m E F mode (X.2++Y.2)) rfl b7.o _ Y.1.toList.length (q0m E F mode Y.1.toList) rfl j5.o (q2A E F mode _) (by have:=c4.o;have:=d4.o;rw[List.length_append];unfold maxLen;omega) (by have:=c4.o;have:=d4.o;rw[List.length_append];omega) j6.o.size ?_)
      intro v7 w9 a8 a5;obtain⟨ts,i1⟩:=yx (q0T E F mode sep s);have e9:ts.length<=1048577:=by
       rw[i1,f3.o,List.length_append,List.length_append];have:=c4.o;have:=d4.o;omega
      have f9:Hid (w9.ownsRow w1.heap.size 49 5 v7 ts.length (q0m E F mode ts)):=vv (by rw[i1,f3.o,q1z,List.length_append,List.length_append];exact a8);have n9:=vv (q4A n8.o b7.o a5);have i2:Hid (Below w1.heap.size w1 w9):=vv (j6.o.grown a5 j6.o.size (q3a b7.o));have l3:=vv (whole w9 (b8.o.1.below i2.o) (b8.o.2.below i2.o) E F mode sep s (by omega) (by omega));rw[<- i1] at l3;have o0:=vv e9;have i3:=i7.o.below i2.o;have f0:=i3.cell 0;have f1:=i3.cell 1;have fl:=i3.lt;simp only[List.getElem?_cons_zero,List.getElem?_cons_succ] at f0 f1;clear a8 a5 i1 e9 i3;go_wp2_with fail
      refine l3.o.mono ?_;rintro e w10 ⟨v8,rfl,l4,c0⟩;have l5:=vv (q4n f9.o c0);have g0:=vv l4;have g1:=vn i2 c0;have j7:=vv (show q5j w10 g E F mode seps s.size from Blk.below n9.o c0);obtain⟨A7,c7,rfl⟩:=q3g l5.o;obtain⟨A8,c8,rfl⟩:=q3g g0.o;have o1:(ts.length:Int)<=1048577:=by have:=o0.o;omega
      clear l4 c0 f0 f1 fl;go_wp2;go_loopw [25,26] (fun sm i wq=>∃i':Nat,i'<=ts.length/\sm=.bool true/\i=.int .i64 (i':Int)/\Below w10.heap.size w10 wq) (fun _ i _=>ts.length-(intOf i).toNat)
      case atStart=>exact⟨0,Nat.zero_le _,by simp,rfl,Below.refl _ _⟩
      case round =>
       obtain⟨i',o2,rfl,rfl,l6⟩:=hrel;have c1:=vv l6;clear l6;by_cases hil:i'<ts.length
       ·obtain⟨q1,cap1,e1,-,j8,l7,l8⟩:=q2T l5.o (by omega);obtain⟨q2,cap2,e2,-,j9,l9,m0⟩:=q2T g0.o (by omega)
        injection e1 with e1 e3 e4
        injection e2 with e2 e5 e6
        subst e1 e2;obtain⟨x0,x1,x2,k3⟩:=q62 E F mode ts[i'].1 ts[i'].2;obtain⟨x3,m1⟩:∃x:Int,x=(ts[i'].2:Int):=⟨_,rfl⟩;obtain⟨x4,m2⟩:∃x:Int,x=(ts[i'].1.length:Int):=⟨_,rfl⟩;rw[<- m1,<- m2] at k3;have ra:=q2j c1.o j8 (l8 i' hil);have rb:=q2j c1.o j9 (m0 i' hil);rw[k3] at ra rb;have a0:wr.cell? ⟨q1,i'*5,none⟩=some (.int .u64 x0):=ra 0 _ rfl;have a1:wr.cell? ⟨q1,i'*5+1,none⟩=some (.int .u8 x1):=ra 1 _ rfl;have a2:wr.cell? ⟨q1,i'*5+2,none⟩=some (.int .i64 x2):=ra 2 _ rfl;have a3:wr.cell? ⟨q1,i'*5+3,none⟩=some (.int .i64 x3):=ra 3 _ rfl;have a4:wr.cell? ⟨q1,i'*5+4,none⟩=some (.int .i64 x4):=ra 4 _ rfl;have b0:wr.cell? ⟨q2,i'*5,none⟩=some (.int .u64 x0):=rb 0 _ rfl;have b1:wr.cell? ⟨q2,i'*5+1,none⟩=some (.int .u8 x1):=rb 1 _ rfl;have b2:wr.cell? ⟨q2,i'*5+2,none⟩=some (.int .i64 x2):=rb 2 _ rfl;have b3:wr.cell? ⟨q2,i'*5+3,none⟩=some (.int .i64 x3):=rb 3 _ rfl;have b4:wr.cell? ⟨q2,i'*5+4,none⟩=some (.int .i64 x4):=rb 4 _ rfl;have g6:(i':Int)<(ts.length:Int):=by omega
        clear ra rb m1 m2 k3 l8 m0 e3 e4 e5 e6;go_wp2_with fail
        go_quiet (fail)
        clear a0 a1 a2 a3 a4 b0 b1 b2 b3 b4;have i8:Hid (Below w10.heap.size w10 (wr.drewN nq)):=vv ⟨c1.o.os,c1.o.tape,c1.o.output,c1.o.size,c1.o.block⟩;go_wp2;go_roundw
        case rel=>exact⟨i'+1,by omega,by simp,by go_num,i8.o⟩
        case measure=>simp [intOf];omega
       ·obtain rfl:i'=ts.length:=by omega
        have HEq:=vv (show q5j wr g E F mode seps s.size from Blk.below j7.o c1.o).says;have g6:¬(ts.length:Int)<(ts.length:Int):=by omega
        clear hil o2;go_wp2_with fail
        refine HEq.o.1.mono ?_;rintro e w11 ⟨rfl,rfl⟩;go_wp2_with fail
        refine HEq.o.2.mono ?_;rintro e w11 ⟨rfl,rfl⟩;go_wp2;go_ret
        exact⟨rfl,c2.o.trans ((g1.o.trans (c1.o.mono g1.o.size)).mono c2.o.size)⟩
end Go.Proofs.YtcdimmblnbkjjaaGreatDoor.Str
