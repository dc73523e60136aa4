/- Lemmas. -/
import Derived.Test.YtcdimmblnbkjjaaGreatDoorPartBO
import Derived.RangeFuncBound
import Derived.Test.YtcdimmblnbkjjaaGreatDoorPartBJ
set_option linter.all false
set_option maxHeartbeats 16000000
set_option maxRecDepth 100000
namespace Go.Proofs.YtcdimmblnbkjjaaGreatDoor.Str
open Go Go.RowKit R5 Scn Hx Rdx
theorem run(g:Nat)(s:ByteArray)(w:World):Calls Tryz.prog 38 #[.pointer (some ⟨g,0,none⟩),.string s] w fun e w' =>
  e=.returned (.func (.func 78) #[] #[.pointer (some ⟨w.heap.size+1,0,none⟩),.pointer (some ⟨w.heap.size,0,none⟩)]) /\
   w'=(w.alloc (.cells #[.pointer (some ⟨g,0,none⟩)] 50)).alloc (.cells #[.string s] 9):=by
 go_enter Tryz.func38,Tryz.ntmps38
 go_wp2;go_ret
 exact⟨rfl,rfl⟩
theorem q6Q(w00:World)(hg0:Bg w00)(ht0:EType w00)(g S R mode a0:Nat)(E F:Int)(seps s:ByteArray)(tk0:Option Tk)
  (hsz:s.size<=140737488351232) (ha:a0+s.size<=140737488351232) (hge:w00.heap.size<=g) (w:World) (hw:Below w00.heap.size w00 w)
  (hS:Blk w S 9 [.string s]) (hR:Blk w R 50 [.pointer (some ⟨g,0,none⟩)]) (hr:Rdr w g E F mode seps a0 tk0) :
  qbN Tryz.prog 78 #[.pointer (some ⟨S,0,none⟩),.pointer (some ⟨R,0,none⟩)] (fun t:Tk=>#[.agg (q12 E F mode t.1 t.2).toArray]) (fun _=>Kw g) (Kb w00.heap.size)
   (fun xs=>xs <+: (q11 seps a0 tk0 (q0a s)).2) (fun xs=>xs <+: (q11 seps a0 tk0 (q0a s)).2)
   (fun xs B=>xs=(q11 seps a0 tk0 (q0a s)).2/\Rdr B g E F mode seps (a0+s.size) (q11 seps a0 tk0 (q0a s)).1/\Below w00.heap.size w00 B) w:=by
 intro l J Jx W hW hJ _ hY h0;refine(qcl w00 hg0 ht0 g S R l mode a0 E F seps s tk0 J Jx hsz ha hge hJ (fun pre t A hA hp=>(hY pre t A hA hp).mono ?_) W (hw.trans (hW.mono hw.size)) (hS.below hW) (hR.below hW) (hr.below hW) h0).mono ?_
 ·rintro e B (⟨h1,h2,h3,-⟩|⟨h1,h2,-⟩)
  ·exact .inl ⟨h1,h2,h3⟩
  ·exact .inr ⟨h1,h2⟩
 ·rintro e B ⟨h1,⟨h2,h3,h4⟩|⟨pre,h2,h3⟩⟩
  ·exact⟨h1,.inl ⟨_,⟨rfl,h3,h4⟩,h2⟩⟩
  ·exact⟨h1,.inr ⟨pre,h2,h3⟩⟩
def q6s(w:World)(g:Nat)(E F:Int)(mode:Nat)(pre:List Tk)(W:World):Prop:=
 Kw g w W/\∃v,Blk W w.heap.size 42 [v]/\W.ownsRow w.heap.size 49 5 v pre.length (q0l E F mode pre)
theorem q7r{w:World}{g mode B:Nat}{E F:Int}(hB:w.heap.size<=B):OwnFrom B (q6s w g E F mode):=by
 rintro pre A C row ⟨h1,v,h2,h3⟩ hg hr;have a0:∀(k:Nat) (cs:Array Value) (t:TypeId),A.heap[k]?=some (.cells cs t (0,0))->row≠some k:=by
  rintro k cs t hk rfl;obtain⟨-,o,ho,hc⟩:=hr k rfl;rw[hk] at ho;cases ho
  cases hc
 refine⟨⟨hg.os.trans h1.os,hg.tape.trans h1.tape,hg.output.trans h1.output,Nat.le_trans h1.size hg.size,fun k hk=>?_⟩,v,h2.grown hg (a0 _ _ _ h2),h3.kept hg ?_⟩
 ·rw[hg.block k (Nat.lt_of_lt_of_le hk h1.size) (fun e=>by have:=(hr k e.symm).1;omega)];exact h1.block k hk
 ·rcases h3.2 with ⟨rfl,-⟩|⟨q,cap,cur,rfl,-,hq,-⟩
  ·exact .inl rfl
  ·exact .inr (fun e=>a0 _ _ _ hq e.symm)
theorem q5J{w:World}{g mode:Nat}{E F:Int}(pre:List Tk)(A C:World)(h:q6s w g E F mode pre A)(hk:Kw g A C):q6s w g E F mode pre C:=by
 obtain⟨h1,v,h2,h3⟩:=h;exact⟨h1.trans hk,v,hk.blk h2 (by unfold RT;decide),hk.row h3 (by unfold RT;decide)⟩
attribute [local go_sem] Oper.semAt_some wide_fn wide_depth wide_round
theorem qbW(w00:World)(hg0:Bg w00)(ht0:EType w00)(g mode a0:Nat)(E F:Int)(seps s:ByteArray)(tk0:Option Tk)
  (hsz:s.size<=1099511627776) (ha:a0+s.size<=140737488351232) (hge:w00.heap.size<=g) (w:World) (hw:Below w00.heap.size w00 w) (hr:Rdr w g E F mode seps a0 tk0) :
  Calls Tryz.prog 20 #[.pointer (some ⟨g,0,none⟩),.string s] w fun e w'=>∃v,e=.returned (.tuple #[v,.int .i64 0]) /\
   w'.ownsRow w.heap.size 49 5 v (q11 seps a0 tk0 (q0a s)).2.length (q0l E F mode (q11 seps a0 tk0 (q0a s)).2) /\
   Rdr w' g E F mode seps (a0+s.size) (q11 seps a0 tk0 (q0a s)).1/\Kw g w w':=by
 obtain⟨i0,hi,d6,d7,d8⟩:=info_parts q44;obtain⟨T,b0,b8⟩:=hr.blk;have HT:=vv (q6K g E F mode seps a0 T false w b0);clear b0 b8 T;obtain⟨w1,b1⟩:=yx (w.alloc (.cells #[.slice none 0 0] 42));obtain⟨w2,a8⟩:=yx ((w1.alloc (.cells #[.pointer (some ⟨g,0,none⟩)] 50)).alloc (.cells #[.string s] 9));have b2:w1.heap.size=w.heap.size+1:=by rw[b1];simp
 have c6:w2.heap.size=w.heap.size+3:=by rw[a8];simp [b2]
 have b9:Below w1.heap.size w1 w2:=by rw[a8];exact((Below.refl _ w1).alloc lr _).alloc (by simp) _
 have b6:Below w.heap.size w w2:=((Below.refl _ w).alloc lr _:Below w.heap.size w (w.alloc (.cells #[.slice none 0 0] 42))).trans (by rw[<- b1];exact b9.mono (by omega));have hB:Blk w2 w.heap.size 42 [.slice none 0 0]:=(show Blk w1 w.heap.size _ _ by rw[b1];exact Blk.made w _ [.slice none 0 0]).below b9;have hR:Blk w2 (w.heap.size+1) 50 [.pointer (some ⟨g,0,none⟩)]:=by
  rw[a8,<- b2];exact(Blk.made w1 _ [.pointer (some ⟨g,0,none⟩)]).alloc _
 have hS:Blk w2 (w.heap.size+1+1) 9 [.string s]:=by
  have e:=Blk.made (w1.alloc (.cells #[.pointer (some ⟨g,0,none⟩)] 50)) 9 [.string s];rw[World.size_alloc,b2] at e;rw[a8];exact e
 have a5:=q6Q w00 hg0 ht0 g (w.heap.size+1+1) (w.heap.size+1) mode a0 E F seps s tk0 (by omega) ha hge w2 (hw.trans (b6.mono hw.size)) hS hR (hr.below b6);have d9:Hid (q6s w g E F mode [] w2):=vv ⟨Kw.below b6,_,hB,World.ownsRow_nil _ _ _ _⟩;have b3:=vv (run g s w1);rw[<- a8] at b3;obtain⟨X,hX⟩:=yx (q11 seps a0 tk0 (q0a s));have c7:X.2.length<=1099511627776:=by rw[hX];exact Nat.le_trans (q2m _ _ _ _) (by rw[q0w];exact hsz)
 rw[<- hX] at a5 ⊢;have c0:=vv a5;have HS:=vv (And.intro b2 c6);have e0:=vv b1;have b7:=vv (And.intro hw.size hge);have HX:=vv c7;clear hX c7 a5 b1 a8 b2 c6 b9 b6 hB hR hS hr ha hsz hg0 ht0 hw hge;refine(callsIn_wide (n:=0)).1 ?_;refine callsIn_of_wp_marks Tryz.func20 rfl trivial ?_ rfl;simp only[Tryz.ntmps20,List.size_toArray,List.length_cons,List.length_nil,Nat.reduceAdd,Nat.reduceSub,Array.replicate_succ,Array.replicate_zero,List.push_toArray,List.append_toArray,List.nil_append,List.cons_append]
 gi_wp2_with fail
 refine(callsIn_wide.2 HT.o).mono ?_;rintro e w' ⟨rfl,rfl⟩
 gi_wp2_with fail
 rw[<- e0.o];refine(callsIn_wide.2 b3.o).mono ?_;rintro e w' ⟨rfl,rfl⟩
 gi_wp2_with fail
 rw[HS.o.1];refine q1g (gf:=78) (lb:=#[.pointer (some ⟨w.heap.size+1+1,0,none⟩),.pointer (some ⟨w.heap.size+1,0,none⟩)]) rfl (enters_of Tryz.func78 (by kernel_rfl) rfl) c0.o
  (fun h k=>h.trans k) (fun W l o o' hl h ho=>Kb.put o' h ho (by have:=HS.o.2;have:=b7.o.1;omega)) (fun A B k o h _ hk ho=>h.non hk ho)
  (fun xs W l o o' h hl hk ho=>⟨h.1,h.2.1.put o' hk ho,h.2.2.trans (q1v o' hk (by have:=HS.o.2;have:=b7.o.1;omega))⟩) (fun _=>rfl)
  (q6s w g E F mode) (fun _ _ _=>False) (q7r (by have:=HS.o.2;omega)) q5J (fun c s A B row h=>h.elim) (fun c s A B h=>h.elim) d9.o ?_ ?_ ?_
 ·
  intro l pre x A hI c8;obtain⟨x0,x1,x2,x3,x4,c9,a6⟩:=q1f E F mode x.1 x.2;dsimp only;rw[c9];obtain⟨hK,v,hB,a1⟩:=hI;have b4:pre.length+1<=1099511627776:=by
   have:=c8.length_le;rw[List.length_append] at this;have:=HX.o;simp at *
   omega
  have hz:Blk (A.alloc (.cells #[.int .u64 0,.int .u8 0,.int .i64 0,.int .i64 0,.int .i64 0] 49)) A.heap.size 49 [.int .u64 0,.int .u8 0,.int .i64 0,.int .i64 0,.int .i64 0]:=Blk.made A _ [.int .u64 0,.int .u8 0,.int .i64 0,.int .i64 0,.int .i64 0];have c1:[x0,x1,x2,x3,x4].all (·.oneCell')=true:=List.all_eq_true.2 a6;have HI:=vv (And.intro hK (And.intro hB a1));have c2:=vv a6;have d0:=vv b4;clear hK hB a1 a6 b4 c8
  gi_wp2_with (with_reducible refine q0W rfl 49 (.tmp 8) (.tmp 17) rfl A.heap.size [x0,x1,x2,x3,x4] rfl rfl 49 _ hz (by kernel_rfl) rfl c1 ?_)
  intro A2 d1 d2;have d3:Below A.heap.size A A2:=((Below.refl _ A).alloc lr _).grown d2 (by simp) (fun k e=>by cases e;exact lr);have e1:=vv d1;have c3:=vv d3;clear d1 d2 d3 hz
  gi_wp2
  refine⟨q2e c3.o,q43 (Nat.le_trans b7.o.1 HI.o.1.size) c3.o,q5J pre A A2 ⟨HI.o.1,v,HI.o.2⟩ (Kw.below c3.o),?_⟩;intro B e2 a2;obtain⟨d4,v',b5,a3⟩:=e2;have e3:=a2.blk e1.o;have s0:=b5.cell 0;have f0:=b5.fz 0;have sl:=b5.lt;simp only[List.getElem?_cons_zero] at s0;have a9:=vv (And.intro d4 (And.intro b5 a3));clear d4 b5 a3 a2
  gi_wp2_with (first
   | with_reducible refine q15 rfl 49 (.tmp 8) rfl A.heap.size rfl 49 _ _ e3 Tryz.underlying49 rfl (by kernel_rfl) ?_
   | (gi_at_builtin;refine wpListIn_append_own _ rfl _ _ 42 rfl w.heap.size 49 i0 (.agg #[.int .u64 0,.int .u8 0,.int .i64 0,.int .i64 0,.int .i64 0]) 5 40 Tryz.underlying42 hi d6 d7 d8 rfl (by decide) _ pre.length (q0l E F mode pre) rfl (a9.o.2.2.alloc _) ⟨B.heap.size,0,none⟩ 1 1 [x0,x1,x2,x3,x4] rfl rfl (q3p B [x0,x1,x2,x3,x4] _) c2.o (by have:=d0.o;unfold maxLen;omega) (by have:=d0.o;omega) (by have:=a9.o.1.size;simp;omega) ?_))
  intro v2 B3 a7 a4 _;obtain⟨k1,k2,k3,k4,k5,k6⟩:=q6X (lo:=w.heap.size) a9.o.1.size lr a9.o.2.1 a9.o.2.2 (by decide) a7 a4;have HE:Hid (ownPostG w'.heap.size (Kb w00.heap.size) (q6s w g E F mode) (fun _ _ _=>False) (pre++[x]) B .normal {tmps:=#[],defers:=[]} (B3.setCell ⟨w.heap.size,0,none⟩ v2)):=vv (by
   refine⟨k4.from _,⟨k5.mono b7.o.1,k4.size,fun k cs t hk ht=>k6 k cs t hk (fun e=>q5A.1 (e ▸ ht)) (fun e=>q5A.2 (e ▸ ht))⟩,a9.o.1.far k5,v2,k2,?_⟩;rw[q3j,c9,List.length_append];exact k3)
  have s0:=k1.cell 0;have f0:=k1.fz 0;have sl:=k1.lt;simp only[List.getElem?_cons_zero] at s0;obtain⟨q2,cap2,rfl⟩:=ownsRow_succ a7;clear k1 k2 k3 k4 k5 k6 a7 a4
  gi_wp2
  exact HE.o
 ·
  intro D xs W hD hS hI hK;obtain⟨rfl,hR,c4⟩:=hS;obtain⟨d5,v,hB,a1⟩:=hI;have s0:=hB.cell 0;have sl:=hB.lt;simp only[List.getElem?_cons_zero] at s0;have HR:=vv hR;have c5:=vv a1;have e4:=vv d5;have HD:=vv hD;clear hR c4 d5 hB a1 hD
  gi_wp2
  refine⟨by simp,.inl ⟨_,_,rfl,run_takeDeferred hK,?_⟩⟩;refine⟨_,results_tmp2 rfl _ _ _,v,rfl,q9O _ c5.o hK rfl,HR.o.put _ hK rfl,?_⟩;exact e4.o.far (q1v _ hK (by have:=HD.o;have:=HS.o.2;omega))
 ·intro D c pre W hD hp h;exact h.elim
def q6t(w:World)(g:Nat)(E F:Int)(mode:Nat)(seps:ByteArray)(a:Nat):Prop:=Blk w g 80 (q3b E F mode seps a none true true)
theorem qbX(w00:World)(hg0:Bg w00)(ht0:EType w00)(g mode a:Nat)(E F:Int)(seps:ByteArray)(tk:Option Tk)(hge:w00.heap.size<=g)(w:World)(hw:Below w00.heap.size w00 w)(hr:Rdr w g E F mode seps a tk):
  Calls Tryz.prog 23 #[.pointer (some ⟨g,0,none⟩)] w fun e w'=>∃v,e=.returned (.tuple #[v,.int .i64 0])/\w'.ownsRow w.heap.size 49 5 v tk.toList.length (q0l E F mode tk.toList) /\
   q6t w' g E F mode seps a/\Kw g w w':=by
 obtain⟨⟨T,hb,ht⟩,-⟩:=hr
 match tk,ht with
 | none,ht =>
  obtain rfl:T=none:=ht;refine(q97 g E F mode seps a w hb).mono ?_;rintro e w' ⟨rfl,h1,h2⟩;exact⟨_,rfl,World.ownsRow_nil _ _ _ _,h1,Kw.grown h2 lr hb (.inl rfl)⟩
 | some (L,f),⟨b,v,h1,h2,h3,h4,h5,h6⟩ =>
  subst h1;refine(q96 w00 hg0 ht0 g b g a f mode E F seps L v w hw hge hb h3 h4 h6).mono ?_;rintro e w' ⟨v',rfl,k1,k2,k3⟩;refine⟨v',rfl,?_,k2,Kw.grown k3 lr hb (.inl rfl)⟩
  simpa [q0l] using k1
structure Caught(w:World)(a b c d:Nat)(E F:Int)(mode:Nat)(sep s:ByteArray):Prop where
 form:Blk w a 23 [.int .i64 E,.int .i64 F]
 mode:Blk w b 5 [.int .u8 (mode:Int)]
 sep:Blk w c 9 [.string sep]
 body:Blk w d 9 [.string s]
theorem Caught.below{w w':World}{a b c d:Nat}{E F:Int}{mode:Nat}{sep s:ByteArray}(h:Caught w a b c d E F mode sep s)(hb:Below w.heap.size w w'):Caught w' a b c d E F mode sep s:=⟨h.form.below hb,h.mode.below hb,h.sep.below hb,h.body.below hb⟩
def q0S(E F:Int)(mode:Nat)(sep s:ByteArray):List Tk:=if q0H E F mode sep=0 then q3t (q0I++sep) 0 none (q0a s) else[]
theorem qbU(E F:Int)(mode:Nat)(sep s:ByteArray)(w:World):Calls Tryz.prog 11 #[fm E F,.int .u8 (mode:Int),.string sep,.string s] w fun e w' =>
  ∃a b c d,e=.returned (.func (.func 37) #[] #[.pointer (some ⟨a,0,none⟩),.pointer (some ⟨b,0,none⟩),.pointer (some ⟨c,0,none⟩),.pointer (some ⟨d,0,none⟩)])/\Caught w' a b c d E F mode sep s/\Below w.heap.size w w'/\w.heap.size<=a:=by
 obtain⟨w1,h1⟩:=yx (w.alloc (.cells #[.int .i64 E,.int .i64 F] 23));obtain⟨w2,h2⟩:=yx (w1.alloc (.cells #[.int .u8 (mode:Int)] 5));obtain⟨w3,h3⟩:=yx (w2.alloc (.cells #[.string sep] 9));obtain⟨w4,h4⟩:=yx (w3.alloc (.cells #[.string s] 9));have b1:Blk w1 w.heap.size 23 [.int .i64 E,.int .i64 F]:=by rw[h1];exact Blk.made w _ [.int .i64 E,.int .i64 F]
 have b2:Blk w2 w1.heap.size 5 [.int .u8 (mode:Int)]:=by rw[h2];exact Blk.made w1 _ [.int .u8 (mode:Int)]
 have b3:Blk w3 w2.heap.size 9 [.string sep]:=by rw[h3];exact Blk.made w2 _ [.string sep]
 have b4:Blk w4 w3.heap.size 9 [.string s]:=by rw[h4];exact Blk.made w3 _ [.string s]
 have s1:w1.heap.size=w.heap.size+1:=by rw[h1];simp
 have s2:w2.heap.size=w.heap.size+1+1:=by rw[h2];simp [s1]
 have s3:w3.heap.size=w.heap.size+1+1+1:=by rw[h3];simp [s2]
 have e1:Below w.heap.size w w1:=by rw[h1];exact(Below.refl _ w).alloc lr _
 have e2:Below w1.heap.size w1 w2:=by rw[h2];exact(Below.refl _ w1).alloc lr _
 have e3:Below w2.heap.size w2 w3:=by rw[h3];exact(Below.refl _ w2).alloc lr _
 have e4:Below w3.heap.size w3 w4:=by rw[h4];exact(Below.refl _ w3).alloc lr _
 have HC:Hid (Caught w4 w.heap.size (w.heap.size+1) (w.heap.size+1+1) (w.heap.size+1+1+1) E F mode sep s):=vv (by
  rw[<- s1,<- s2,<- s3] at *
  exact⟨((b1.below e2).below e3).below e4,(b2.below e3).below e4,b3.below e4,b4⟩)
 have HB:Hid (Below w.heap.size w w4):=vv (((e1.trans (e2.mono e1.size)).trans (e3.mono (Nat.le_trans e1.size e2.size))).trans (e4.mono (Nat.le_trans (Nat.le_trans e1.size e2.size) e3.size)));have HW:=vv (And.intro h1 (And.intro h2 (And.intro h3 h4)));clear h1 h2 h3 h4 b1 b2 b3 b4 s1 s2 s3 e1 e2 e3 e4;go_enter Tryz.func11,Tryz.ntmps11
 go_wp2;go_ret
 rw[<- HW.o.1,<- HW.o.2.1,<- HW.o.2.2.1,<- HW.o.2.2.2];exact⟨_,_,_,_,rfl,HC.o,HB.o,lr⟩
theorem q1h{P:Program}{w:World}{ops:Array Oper}{rest:List Oper}{o:Oper}{a:Act}{Q:Exit->Act->World->Prop}(hgd:o.guard=none)(s x:Operand)(t:TypeId)
  (ho:o.op=.call {callee:=.builtin .append,args:=#[s,x],argTypes:=#[t,t]})
  (base base2:Nat) (e:TypeId) (i:TypeInfo) (z:Value) (sz bytes:Nat) (hsz:0<sz) (ht:P.underlying t=some (.slice e)) (hi:P.info? e=some i) (hz:i.zero=some z)
  (hsize:i.size=sz) (hby:i.bytes=bytes) (hzs:z.cells.size=sz)
  (v:Value) (n:Nat) (xs:List Value) (hs:a.eval s=v) (hown:w.ownsRow base e sz v n xs)
  (v2:Value) (m:Nat) (news:List Value) (hx:a.eval x=v2) (hown2:w.ownsRow base2 e sz v2 m news) (h1:∀u∈news,u.oneCell'=true)
  (h63:n+m<=maxLen) (hbytes:(n+m)*bytes<=140737488355328) (hbase:base<=w.heap.size)
  (h:∀v' w',w'.ownsRow base e sz v' (n+m) (xs++news)->w.grownBy w' v.ownBlock->wpList P ops Q rest (a.put o.dst v') w'):wpList P ops Q (o::rest) a w:=by
 obtain⟨hl,hc⟩:=hown2;rcases hc with ⟨rfl,rfl⟩|⟨g,cap,cur,rfl,hb,hg,hc,hm,a2,a0⟩
 ·have hn:news=[]:=List.eq_nil_of_length_eq_zero (by simpa using hl);subst hn;exact wpList_append_own_none hgd s x t ho base e i sz ht hi _ n xs hs hown hx (h _ _ (by simpa using hown) (World.grownBy.refl _ _))
 ·refine wpList_append_own w hgd s x t ho base e i z sz bytes ht hi hz hsize hby hzs hsz v n xs hs hown ⟨g,0,none⟩ m cap news hx hl (fun j u hj=>?_) h1 h63 hbytes hbase (fun v' w' h2 h3 _=>h v' w' h2 h3);have a1:j<m*sz:=by
   have:=(List.getElem?_eq_some_iff.1 hj).1;omega
  rw[<- a0,List.getElem?_take,if_pos a1] at hj;have ea:Addr.add ⟨g,0,none⟩ j=⟨g,j,none⟩:=by cases j with|zero=>rfl|succ j=>simp [Addr.add]
  rw[ea,<- hj];simp only[World.cell?,hg];simp
theorem q3M(E F:Int)(mode:Nat)(ts:List Tk):∀u∈q0l E F mode ts,u.oneCell'=true:=by
 intro u hu;obtain⟨t,-,ht⟩:=List.mem_flatMap.1 hu;obtain⟨x0,x1,x2,x3,x4,h1,h2⟩:=q1f E F mode t.1 t.2;rw[h1] at ht;exact h2 u ht
theorem q27(s:ByteArray)(a b:Nat):q0a (s.extract a b)=((q0a s).drop a).take (b-a):=by
 unfold q0a;rw[q64,<- List.map_drop,<- List.map_take,List.drop_take]
structure Ints(w:World)(A:Option Addr)(n:Nat)(C:Nat->Int):Prop where
 at_:0<n->∃b o,A=some ⟨b,o,none⟩/\b<w.heap.size/\∀i,i<n->w.cell? ⟨b,o+i,none⟩=some (.int .i64 (C i))
 lo:∀i,i<n->-9223372036854775808<=C i
 hi:∀i,i<n->C i<=9223372036854775807
theorem Rdr.says{w:World}{g mode a:Nat}{E F:Int}{seps:ByteArray}{tk:Option Tk}(h:Rdr w g E F mode seps a tk):
  Calls Tryz.prog 21 #[.pointer (some ⟨g,0,none⟩)] w (fun e w'=>e=.returned (.int .i64 (a:Int))/\w=w') /\
  ∃h:Nat,h<=a/\Calls Tryz.prog 22 #[.pointer (some ⟨g,0,none⟩)] w fun e w'=>e=.returned (.int .i64 (h:Int))/\w=w':=by
 obtain⟨⟨T,hb,ht⟩,a0⟩:=h;refine⟨At g E F mode seps a T false w hb,qaa tk,?_,qbV g g E F mode seps a T false tk w hb ht⟩;cases tk with
 | none=>exact Nat.zero_le _
 | some t =>
  have:=(a0 t rfl).2.1;show t.1.length<=a;omega
theorem q6t.says{w:World}{g mode a:Nat}{E F:Int}{seps:ByteArray}(h:q6t w g E F mode seps a):
  Calls Tryz.prog 21 #[.pointer (some ⟨g,0,none⟩)] w (fun e w'=>e=.returned (.int .i64 (a:Int))/\w=w') /\
  Calls Tryz.prog 22 #[.pointer (some ⟨g,0,none⟩)] w fun e w'=>e=.returned (.int .i64 0)/\w=w':=
 ⟨At g E F mode seps a none true w h,qbV g g E F mode seps a none true none w h rfl⟩
theorem q7v{A B:World}{g mode a base n k:Nat}{E F:Int}{seps:ByteArray}{v:Value}{xs:List Value}(h:q6t A g E F mode seps a)(hr:A.ownsRow base 49 k v n xs)(hg:A.grownBy B v.ownBlock):q6t B g E F mode seps a:=
 Blk.grown h hg (q6T h hr (by decide))
def qcD(w:World)(g:Nat)(E F:Int)(mode:Nat)(seps s:ByteArray)(n:Nat)(all at_ i:Value)(wr:World):Prop:=
 ∃k j:Nat,k<=s.size/\(j<=n\/(j=n+1/\k=s.size))/\at_=.int .i64 (k:Int)/\i=.int .i64 (j:Int) /\
  wr.ownsRow w.heap.size 49 5 all (q11 seps 0 none ((q0a s).take k)).2.length (q0l E F mode (q11 seps 0 none ((q0a s).take k)).2) /\
  Rdr wr g E F mode seps k (q11 seps 0 none ((q0a s).take k)).1/\Below w.heap.size w wr
def qcC(E F:Int)(mode:Nat)(sep s:ByteArray)(w:World)(e:Ending)(w':World):Prop:=
 ∃v n,e=.returned (.tuple #[v,.bool (decide (q0H E F mode sep=0))])/\w'.ownsRow w.heap.size 49 5 v n (q0l E F mode (q0S E F mode sep s))/\Below w.heap.size w w'
theorem fed(w:World)(hg0:Bg w)(ht0:EType w)(E F:Int)(mode:Nat)(sep s:ByteArray)(A:Option Addr)(n c:Nat)(C:Nat->Int)(hC:Ints w A n C)
  (hsp:sep.size<=140737488351232) (hsz:s.size<=1048576) (hn:n<=1048576) :
  Calls Tryz.prog 10 #[fm E F,.int .u8 (mode:Int),.string sep,.string s,.slice A n c] w (qcC E F mode sep s w):=by
 obtain⟨i0,hi,d6,d7,d8⟩:=info_parts q44;obtain⟨w1,c5⟩:=yx (w.alloc (.cells #[.int .i64 E,.int .i64 F] 23));have b1:Below w.heap.size w w1:=by rw[c5];exact(Below.refl _ w).alloc lr _
 have hf:Blk w1 w.heap.size 23 [.int .i64 E,.int .i64 F]:=by rw[c5];exact Blk.made w _ [.int .i64 E,.int .i64 F]
 have HN:=vv (New E F mode sep w1 hsp);have c6:=vv b1;have HW:=vv c5;have HC:=vv hC;have HG:=vv (And.intro hg0 ht0);have a0:=hf.cell 0;have a1:=hf.cell 1;have al:=hf.lt;simp only[List.getElem?_cons_zero,List.getElem?_cons_succ] at a0 a1;have f3:(s.size:Int)<=1048576:=by omega
 have g9:(n:Int)<=1048576:=by omega
 clear c5 b1 hf hC hg0 ht0 hsp;go_enter Tryz.func10,Tryz.ntmps10
 go_wp2_with fail
 rw[<- HW.o];go_wp2_with fail
 refine HN.o.mono ?_;rintro e w2 ⟨hB,(⟨hz,rfl⟩|⟨hz,g,rfl,hg,b8⟩)⟩
 ·have HZ:=vv hz;have HB:=vv hB;have i1:¬((q0H E F mode sep:Nat):Int)=0:=by omega
  clear hz hB a0 a1 al;go_wp2;go_ret2
  refine⟨.slice none 0 0,0,?_,?_,c6.o.trans (HB.o.mono c6.o.size)⟩
  ·rw[decide_eq_false HZ.o]
   rfl
  ·unfold q0S;rw[if_neg HZ.o];exact World.ownsRow_nil _ _ _ _
 have HZ:=vv hz;have f4:Hid (Below w.heap.size w w2):=vn c6 hB;have c7:Hid (w.heap.size<=g):=vv (Nat.le_trans c6.o.size hg);have d9:Hid (Rdr w2 g E F mode (q0I++sep) 0 none):=vv ⟨⟨none,b8,rfl⟩,fun t h=>by cases h⟩;obtain⟨seps,a5⟩:=yx (q0I++sep);rw[<- a5] at d9;have f5:Hid (q0S E F mode sep s=q3t seps 0 none (q0a s)):=vv (by unfold q0S;rw[if_pos HZ.o,a5]);clear a5 hz hB hg b8 a0 a1 al;go_wp2;go_loopw [14,15,16] (qcD w g E F mode seps s n) (fun _ _ i _=>n+1-(intOf i).toNat)
 case atStart=>exact⟨0,0,Nat.zero_le _,.inl (Nat.zero_le _),rfl,rfl,by simpa [q11,q0l] using World.ownsRow_nil _ _ _ _,by simpa [q11] using d9.o,f4.o⟩
 case round =>
  obtain⟨k,j,hk,hj,rfl,rfl,b4,hR,hB⟩:=hrel;obtain⟨X,hX⟩:=yx (q11 seps 0 none ((q0a s).take k));rw[<- hX] at b4 hR;have HX:=vv hX;have b9:=vv b4;have e0:=vv hR;have a9:=vv hB;have e2:X.2.length<=1048576:=by
   rw[hX];refine Nat.le_trans (q2m _ _ _ _) ?_;rw[List.length_take,q0w];omega
  have e3:=vv e2;clear hX b4 hR hB e2;by_cases hexit:k<s.size\/j<n
  ·obtain⟨m,f6,hm⟩:∃m:Nat,k+m<=s.size/\((j<n/\min (max (C j) 0) ((s.size:Int)-(k:Int))=(m:Int))\/(¬j<n/\(s.size:Int)-(k:Int)=(m:Int)/\k+m=s.size)):=by
    by_cases b0:j<n
    ·exact⟨(min (max (C j) 0) ((s.size:Int)-(k:Int))).toNat,by omega,.inl ⟨b0,by omega⟩⟩
    ·exact⟨s.size-k,by omega,.inr ⟨b0,by omega,by omega⟩⟩
   obtain⟨M,hM⟩:=yx (k+m);have i2:(k:Int)+(m:Int)=(M:Int):=by omega
   have i3:(k:Int)<=(M:Int):=by omega
   have i4:(M:Int)<=(s.size:Int):=by omega
   have e4:(s.extract k M).size=m:=by rw[ByteArray.size_extract];omega
   obtain⟨Y,hY⟩:=yx (q11 seps k X.1 (q0a (s.extract k M)));have c8:q11 seps 0 none ((q0a s).take M)=(Y.1,X.2++Y.2):=by
    have e:(q0a s).take M=(q0a s).take k++q0a (s.extract k M):=by
     rw[q27,hM,List.take_add,show k+m-k=m by omega]
    rw[e,q1z,<- HX.o,hY,List.length_take,q0w,show min k s.size=k by omega,Nat.zero_add]
   have c9:=qbW w HG.o.1 HG.o.2 g mode k E F seps (s.extract k M) X.1 (by omega) (by omega) c7.o wr a9.o e0.o;rw[<- hY,e4,<- hM] at c9;have e5:X.2.length+Y.2.length<=1048576:=by
    have h1:=q2m seps ((q0a s).take M) 0 none;rw[c8,List.length_append,List.length_take,q0w] at h1;omega
   have f7:=vv c9;have e6:=vv c8;have e7:=vv e5;have i5:(j:Int)<=1048577:=by omega
   have f8:Hid (M<=s.size):=vv (by omega);have HJ:Hid (j<=n/\(j<n\/M=s.size)):=vv (by
    rcases hm with ⟨h1,-⟩|⟨h1,-,h2⟩
    ·exact⟨by omega,.inl h1⟩
    ·exact⟨by omega,.inr (by omega)⟩)
   clear c9 c8 e5 hY e4 hj f6 hM;have h3:(j<n/\k<s.size/\min (max (C j) 0) ((s.size:Int)-(k:Int))=(m:Int))\/(j<n/\¬k<s.size/\min (max (C j) 0) ((s.size:Int)-(k:Int))=(m:Int))\/(¬j<n/\k<s.size/\(s.size:Int)-(k:Int)=(m:Int)):=by
    rcases hm with ⟨h1,h2⟩|⟨h1,h2,-⟩<;>omega
   clear hm hexit;rcases h3 with ⟨b0,d0,hm⟩|⟨b0,d0,hm⟩|⟨b0,d0,hm⟩;obtain⟨b,o,rfl,b5,a3⟩:=HC.o.at_ (by omega);have f9:=(a9.o.cell (p:=⟨b,o+j,none⟩) b5).trans (a3 j b0);have g0:=Nat.lt_of_lt_of_le b5 a9.o.size;have t1:(k:Int)<(s.size:Int):=by omega
   have t2:(j:Int)<(n:Int):=by omega
   clear b5 a3;rotate_left;obtain⟨b,o,rfl,b5,a3⟩:=HC.o.at_ (by omega);have f9:=(a9.o.cell (p:=⟨b,o+j,none⟩) b5).trans (a3 j b0);have g0:=Nat.lt_of_lt_of_le b5 a9.o.size;have t1:¬(k:Int)<(s.size:Int):=by omega
   have t2:(j:Int)<(n:Int):=by omega
   clear b5 a3;rotate_left;have t1:(k:Int)<(s.size:Int):=by omega
   have t2:¬(j:Int)<(n:Int):=by omega
   rotate_left;all_goals
    clear b0 d0;go_wp2_with fail
    refine f7.o.mono ?_;rintro e w3 ⟨v3,rfl,b2,e8,b6⟩;have g1:=vv b2;have d1:=vv e8;have a6:=vv (b6.row b9.o (by unfold RT;decide));have d2:=vv (a9.o.trans (b6.low2 c7.o a9.o.size));clear b2 e8 b6;go_wp2_with (at_builtin;refine q1h rfl _ _ 42 rfl w.heap.size wr.heap.size 49 i0 (.agg #[.int .u64 0,.int .u8 0,.int .i64 0,.int .i64 0,.int .i64 0]) 5 40 (by decide) Tryz.underlying42 hi d6 d7 d8 rfl _ X.2.length (q0l E F mode X.2) rfl a6.o _ Y.2.length (q0l E F mode Y.2) rfl g1.o (q3M E F mode Y.2) (by have:=e7.o;unfold maxLen;omega) (by have:=e7.o;omega) d2.o.size ?_)
    intro v4 w4 a7 a2;have c0:=vv (d1.o.grown a6.o (by unfold RT;decide) a2);have g2:Hid (Below w.heap.size w w4):=vv (d2.o.grown a2 d2.o.size (fun q e=>by
     rcases a6.o.2 with ⟨e1,-⟩|⟨q1,cap,cur,e1,h1,-⟩
     ·rw[e1] at e;cases e
     ·rw[e1] at e;cases e;exact h1))
    have c1:Hid (w4.ownsRow w.heap.size 49 5 v4 (X.2++Y.2).length (q0l E F mode (X.2++Y.2))):=vv (by rw[q2q,List.length_append];exact a7);obtain⟨e9,h,g3,f0⟩:=c0.o.says;have g4:=vv e9;have f1:=vv f0;have h1:(h:Int)<=(M:Int):=by omega
    have h2:¬(h:Int)<0:=by omega
    clear e9 f0 a7 a2 g3;go_wp2_with fail
    refine g4.o.mono ?_;rintro e w5 ⟨rfl,rfl⟩;go_wp2_with fail
    refine f1.o.mono ?_;rintro e w5 ⟨rfl,rfl⟩;go_wp2_with fail
    refine f1.o.mono ?_;rintro e w5 ⟨rfl,rfl⟩;go_wp2;go_roundw
    case rel =>
     refine⟨M,j+1,f8.o,?_,rfl,by go_num,?_,?_,g2.o⟩
     ·rcases HJ.o.2 with h|h
      ·exact .inl (by omega)
      ·rcases Nat.lt_or_ge j n with h'|h'
       ·exact .inl (by omega)
       ·exact .inr ⟨by have:=HJ.o.1;omega,h⟩
     ·rw[e6.o];exact c1.o
     ·rw[e6.o];exact c0.o
    case measure =>
     have b0:=HJ.o.1;simp only[intOf];omega
  ·obtain rfl:k=s.size:=by omega
   have t1:¬(s.size:Int)<(s.size:Int):=by omega
   have t2:¬(j:Int)<(n:Int):=by omega
   have g5:Hid (q0S E F mode sep s=X.2++X.1.toList):=vv (by
    have e:=HX.o;rw[List.take_of_length_le (by rw[q0w];exact lr)] at e;rw[f5.o,e]
    rfl)
   have d3:=vv (qbX w HG.o.1 HG.o.2 g mode s.size E F seps X.1 c7.o wr a9.o e0.o);have c2:Hid (X.1.toList.length<=1):=vv (by cases X.1<;>simp);clear hexit hj hk;go_wp2_with fail
   refine d3.o.mono ?_;rintro e w5 ⟨v5,rfl,b3,a4,b7⟩;have g6:=vv b3;have g7:=vv a4;have a8:=vv (b7.row b9.o (by unfold RT;decide));have d4:=vv (a9.o.trans (b7.low2 c7.o a9.o.size));have i6:=vv a4.says;have d5:=vv (q7W g E F mode seps s.size none w5 a4);clear b3 a4 b7;go_wp2_with fail
   refine d5.o.mono ?_;rintro e w6 ⟨rfl,rfl⟩;go_wp2_with (at_builtin;refine q1h rfl _ _ 42 rfl w.heap.size wr.heap.size 49 i0 (.agg #[.int .u64 0,.int .u8 0,.int .i64 0,.int .i64 0,.int .i64 0]) 5 40 (by decide) Tryz.underlying42 hi d6 d7 d8 rfl _ X.2.length (q0l E F mode X.2) rfl a8.o _ X.1.toList.length (q0l E F mode X.1.toList) rfl g6.o (q3M E F mode _) (by have:=e3.o;have:=c2.o;unfold maxLen;omega) (by have:=e3.o;have:=c2.o;omega) d4.o.size ?_)
   intro v6 w6 a7 a2;have c3:Hid (w6.ownsRow w.heap.size 49 5 v6 (X.2++X.1.toList).length (q0l E F mode (X.2++X.1.toList))):=vv (by rw[q2q,List.length_append];exact a7);have f2:=q7v g7.o a8.o a2;have c4:=vv f2.says;have g8:Hid (Below w.heap.size w w6):=vv (d4.o.grown a2 d4.o.size (fun q e=>by
    rcases a8.o.2 with ⟨e1,-⟩|⟨q1,cap,cur,e1,h1,-⟩
    ·rw[e1] at e;cases e
    ·rw[e1] at e;cases e;exact h1))
   clear a7 a2 f2;go_wp2_with fail
   refine c4.o.2.mono ?_;rintro e w7 ⟨rfl,rfl⟩;go_wp2_with fail
   refine c4.o.1.mono ?_;rintro e w7 ⟨rfl,rfl⟩;go_wp2;go_ret2
   refine⟨v6,(X.2++X.1.toList).length,?_,?_,g8.o⟩
   ·rw[decide_eq_true HZ.o]
    rfl
   ·rw[g5.o];exact c3.o
theorem q7K(s:ByteArray)(k:Nat)(hk:k<s.size):(q0a s)[k]'(by rw[q0w];exact hk)=s[k].toNat:=by
 unfold q0a;simp only[List.getElem_map]
 rfl
theorem q5j(sep s:ByteArray)(k:Nat)(hk:k<s.size):q4i (q0I++sep) ((q0a s)[k]'(by rw[q0w];exact hk))=q1N sep s[k].toNat:=by
 rw[q7K,q6l _ _ (UInt8.toNat_lt _)]
theorem q5V(s:ByteArray):txt (q0a s)=s:=by
 unfold txt q0a;rw[List.map_map];have:(UInt8.ofNat ∘ fun(x:UInt8)=>x.toNat)=id:=by funext x;simp
 rw[this,List.map_id]
theorem q6H{sep s:ByteArray}{p:Nat}{ts:List Tk}{t:Tk}(h:q3t (q0I++sep) p none ((q0a s).drop p)=t::ts):
  p<=t.2/\0<t.1.length/\t.2+t.1.length<=s.size/\(∀k (hk:k<s.size),p<=k->k<t.2->q1N sep s[k].toNat=true) /\
  (∀k (hk:k<s.size),t.2<=k->k<t.2+t.1.length->q1N sep s[k].toNat=false)/\s.extract t.2 (t.2+t.1.length)=txt t.1 /\
  q3t (q0I++sep) (t.2+t.1.length) none ((q0a s).drop (t.2+t.1.length))=ts:=by
 obtain⟨gap,rest,h1,h2,h3,h4,h5,h6⟩:=q4M _ _ _ _ _ h;have hl:=congrArg List.length h1;rw[List.length_drop,q0w,List.length_append,List.length_append] at hl;have hd:∀j,(q0a s)[p+j]?=(gap++(t.1++rest))[j]?:=by
  intro j;rw[<- h1,List.getElem?_drop]
 have a0:(q0a s).drop (t.2+t.1.length)=rest:=by
  rw[h5,show p+gap.length+t.1.length=p+(gap.length+t.1.length) by omega,<- List.drop_drop,h1,<- List.append_assoc,List.drop_left' (by rw[List.length_append])]
 refine⟨by omega,h3,by omega,fun k hk ha hb=>?_,fun k hk ha hb=>?_,?_,by rw[a0,h5];exact h6⟩
 ·have e:=hd (k-p);rw[show p+(k-p)=k by omega,List.getElem?_append_left (by omega),List.getElem?_eq_getElem (by rw[q0w];exact hk)] at e;rw[<- q5j sep s k hk];exact h2 _ (List.mem_of_getElem? e.symm)
 ·have e:=hd (k-p);rw[show p+(k-p)=k by omega,List.getElem?_append_right (by omega),List.getElem?_append_left (by omega),List.getElem?_eq_getElem (by rw[q0w];exact hk)] at e;rw[<- q5j sep s k hk];exact h4 _ (List.mem_of_getElem? e.symm)
 ·rw[<- q5V (s.extract _ _),q27,h5,show p+gap.length+t.1.length-(p+gap.length)=t.1.length by omega,<- List.drop_drop,h1,List.drop_left,List.take_left]
theorem q7w{sep s:ByteArray}{p:Nat}(h:q3t (q0I++sep) p none ((q0a s).drop p)=[])(k:Nat)(hk:k<s.size)(hp:p<=k):q1N sep s[k].toNat=true:=by
 have e:=q4L _ _ _ h;rw[<- q5j sep s k hk];refine e _ (List.mem_of_getElem? (i:=k-p) ?_);rw[List.getElem?_drop,show p+(k-p)=k by omega,List.getElem?_eq_getElem (by rw[q0w];exact hk)]
theorem q5M(E F:Int)(s:ByteArray)(mode:Nat)(h:(q0A E F s mode).2.2.1≠0):(q0A E F s mode).1=0/\(q0A E F s mode).2.1=0:=by
 revert h
 unfold q0A;split
 ·intro _;exact⟨rfl,rfl⟩
 split
 ·intro _;exact⟨rfl,rfl⟩
 split
 ·intro _;exact⟨rfl,rfl⟩
 unfold q2G q26
 repeat' split
 all_goals first
  | (intro _;exact⟨rfl,rfl⟩)
  | (intro h;exact absurd rfl h)
theorem q6b(E F:Int)(mode:Nat)(L:List Nat)(f:Nat):q12 E F mode L f=[.int .u64 ((q0A E F (txt L) mode).1:Int),.int .u8 ((q0A E F (txt L) mode).2.1:Int),.int .i64 (q0A E F (txt L) mode).2.2.1,.int .i64 (f:Int),.int .i64 (L.length:Int)]:=by
 unfold q12;split
 ·rename_i h;rw[h]
 ·rename_i h;rw[(q5M E F (txt L) mode h).1,(q5M E F (txt L) mode h).2]
  rfl
theorem q5v{w:World}{b b' n k:Nat}{e:TypeId}{v:Value}{xs:List Value}(h:w.ownsRow b e k v n xs)(hb:b'<=b):w.ownsRow b' e k v n xs:=by
 refine⟨h.1,h.2.imp id ?_⟩;rintro⟨q,cap,cur,h1,h2,h3⟩;exact⟨q,cap,cur,h1,Nat.le_trans hb h2,h3⟩
theorem Ints.below{w w':World}{A:Option Addr}{n:Nat}{C:Nat->Int}(h:Ints w A n C)(hb:Below w.heap.size w w'):Ints w' A n C:=
 ⟨fun hn=>by
  obtain⟨b,o,h1,h2,h3⟩:=h.at_ hn;exact⟨b,o,h1,Nat.lt_of_lt_of_le h2 hb.size,fun i hi=>(hb.cell (p:=⟨b,o+i,none⟩) h2).trans (h3 i hi)⟩,h.lo,h.hi⟩
theorem Ints.nil(w:World):Ints w none 0 (fun _=>0):=⟨fun h=>by omega,fun i h=>by omega,fun i h=>by omega⟩
theorem q6r(g:Nat)(E F:Int)(mode:Nat)(seps s:ByteArray)(at_:Nat)(tok:Option Addr)(w:World)
  (h:Blk w g 80 (q3b E F mode seps at_ tok true true)) :
  Calls Tryz.prog 20 #[.pointer (some ⟨g,0,none⟩),.string s] w fun e w'=>e=.returned (.tuple #[.slice none 0 0,.int .i64 240])/\w=w':=by
 have HT:=vv (q6K g E F mode seps at_ tok true w h);clear h;go_enter Tryz.func20,Tryz.ntmps20
 go_wp2_with fail
 refine HT.o.mono ?_;rintro e w' ⟨rfl,rfl⟩;go_wp2;go_ret2
 exact⟨rfl,rfl⟩
theorem q9o(w:World):Calls Tryz.prog 36 #[] w fun e w'=>e=.returned (fm 11 52)/\Below w.heap.size w w':=by
 go_enter Tryz.func36,Tryz.ntmps36
 go_wp2;refine bodyPost_ret (v:=fm 11 52) (by simp [results,Tryz.results36,go_sem,fm]) rfl ⟨rfl,(Below.refl _ _).alloc lr _⟩
abbrev q80:ByteArray:=⟨#[32,9,10,13,44]⟩
theorem q4c:q0A 11 52 (txt [49,46,53]) 0=(4609434218613702656,0,0,0)/\q0A 11 52 (txt [50,53]) 0=(4627730092099895296,0,0,0)/\(q0A 11 52 (txt [120]) 0).2.2.1≠0:=by decide +kernel
theorem q5O:q0H 11 52 0 ⟨#[44]⟩=0/\q0H 11 52 0 ⟨#[49]⟩=2/\q0I++(⟨#[44]⟩:ByteArray)=q80:=by decide +kernel
theorem q9r:q11 q80 0 none (q0a ⟨#[49,46,53,44,50]⟩)=(some ([50],4),[([49,46,53],0)])/\q11 q80 5 (some ([50],4)) (q0a ⟨#[53,32,120]⟩)=(some ([120],7),[([50,53],4)]):=by decide +kernel
theorem q4b:q12 11 52 0 [49,46,53] 0=[.int .u64 4609434218613702656,.int .u8 0,.int .i64 0,.int .i64 0,.int .i64 3]/\q12 11 52 0 [50,53] 4=[.int .u64 4627730092099895296,.int .u8 0,.int .i64 0,.int .i64 4,.int .i64 2] /\
  ∃c:Int,c≠0/\q12 11 52 0 [120] 7=[.int .u64 0,.int .u8 0,.int .i64 c,.int .i64 7,.int .i64 1]:=by
 refine⟨?_,?_,_,q4c.2.2,?_⟩
 ·unfold q12;rw[q4c.1];rfl
 ·unfold q12;rw[q4c.2.1];rfl
 ·unfold q12;rw[if_neg q4c.2.2];rfl
theorem q1D(E F:Int)(mode:Nat)(t:Tk):q0l E F mode [t]=q12 E F mode t.1 t.2:=by simp [q0l]
theorem q51{w:World}{base:Nat}{v:Value}{x0 x1 x2 x3 x4:Value}(h:w.ownsRow base 49 5 v 1 [x0,x1,x2,x3,x4]):
  ∃q cap,v=.slice (some ⟨q,0,none⟩) 1 cap/\base<=q/\q<w.heap.size/\1<=cap/\w.cell? ⟨q,0,none⟩=some x0/\w.cell? ⟨q,1,none⟩=some x1/\w.cell? ⟨q,2,none⟩=some x2/\w.cell? ⟨q,3,none⟩=some x3/\w.cell? ⟨q,4,none⟩=some x4:=by
 rcases h.2 with ⟨-,h0⟩|⟨q,cap,cur,h1,h2,h3,h4,h5,h6,h7⟩
 ·omega
 have hc:∀j u,[x0,x1,x2,x3,x4][j]?=some u->w.cell? ⟨q,j,none⟩=some u:=by
  intro j u hu;have hj:j<5:=by
   have:=(List.getElem?_eq_some_iff.1 hu).1
   simpa using this
  rw[<- h7,List.getElem?_take,if_pos (by omega)] at hu;simp only[World.cell?,h3]
  simpa using hu
 exact⟨q,cap,h1,h2,(Array.getElem?_eq_some_iff.1 h3).1,h4,hc 0 _ rfl,hc 1 _ rfl,hc 2 _ rfl,hc 3 _ rfl,hc 4 _ rfl⟩
theorem qbK(w:World)(hg0:Bg w)(ht0:EType w):Calls Tryz.prog 9 #[] w fun e w'=>e=.returned (.bool true)/\Below w.heap.size w w':=by
 have HN:=vv fun w'=>New 11 52 0 ⟨#[44]⟩ w' (by decide)
 have e5:=vv fun w'=>New 11 52 0 ⟨#[49]⟩ w' (by decide)
 have HG:=vv (And.intro hg0 ht0);clear hg0 ht0;go_enter Tryz.func9,Tryz.ntmps9
 go_wp2_with fail
 refine(q9o _).mono ?_;rintro e w1 ⟨rfl,c9⟩;have d5:=vv c9;clear c9;go_wp2_with fail
 refine(HN.o _).mono ?_;rintro e w2 ⟨hB,(⟨hz,-⟩|⟨-,g,rfl,hg,a6⟩)⟩
 ·exact absurd q5O.1 hz
 rw[q5O.2.2] at a6;have b6:=vn d5 hB;have a7:Hid (w.heap.size<=g):=vv (Nat.le_trans d5.o.size hg);have e6:Hid (Rdr w2 g 11 52 0 q80 0 none):=vv ⟨⟨none,a6,rfl⟩,fun t h=>by cases h⟩;have d6:=vv (qbW w HG.o.1 HG.o.2 g 0 0 11 52 q80 ⟨#[49,46,53,44,50]⟩ none (by decide) (by decide) a7.o w2 b6.o e6.o);rw[q9r.1] at d6;clear hB hg a6;go_wp2_with fail
 refine d6.o.mono ?_;rintro e w3 ⟨v1,rfl,b7,a9,d7⟩;rw[q1D,q4b.1] at b7;have f3:=vv a9;have b8:=vv (b6.o.trans (d7.low2 a7.o b6.o.size));have a8:=vv b7;have d8:=vv a9.blk;have d9:=vv (qbW w HG.o.1 HG.o.2 g 0 5 11 52 q80 ⟨#[53,32,120]⟩ (some ([50],4)) (by decide) (by decide) a7.o w3 b8.o a9);rw[q9r.2] at d9;clear b7 a9 d7;obtain⟨T3,e0,e1⟩:=d8.o;have HH:=vv (qbV g g 11 52 0 q80 5 T3 false (some ([50],4)) w3 e0 e1);rw[show((qaa (some ([50],4)):Nat):Int)=1 from rfl] at HH;clear e0 e1 d8;go_wp2_with fail
 refine HH.o.mono ?_;rintro e w4 ⟨rfl,rfl⟩;go_wp2_with fail
 refine d9.o.mono ?_;rintro e w4 ⟨v2,rfl,b9,c0,c4⟩;rw[q1D,q4b.2.1] at b9;have a8:=vv (c4.row a8.o (by unfold RT;decide));have c5:=vv b9;have f4:=vv c0;have c6:=vv (b8.o.trans (c4.low2 a7.o b8.o.size));have HE:=vv (qbX w HG.o.1 HG.o.2 g 0 8 11 52 q80 (some ([120],7)) a7.o w4 c6.o c0);clear b9 c0 c4;go_wp2_with fail
 refine HE.o.mono ?_;rintro e w5 ⟨v3,rfl,c7,c8,b5⟩;obtain⟨c,hc,e2⟩:=q4b.2.2;rw[Option.toList_some,q1D,e2] at c7;have a8:=vv (b5.row a8.o (by unfold RT;decide));have c5:=vv (b5.row c5.o (by unfold RT;decide));have e7:=vv c7;have e8:=vv c8;have e9:=vv (c6.o.trans (b5.low2 a7.o c6.o.size));have f0:=vv (q6r g 11 52 0 q80 ⟨#[49]⟩ 8 none w5 c8);clear c7 c8 b5 e2;go_wp2_with fail
 refine f0.o.mono ?_;rintro e w6 ⟨rfl,rfl⟩;go_wp2_with fail
 refine(q9o _).mono ?_;rintro e w6 ⟨rfl,e3⟩;have e4:=vv e3;clear e3;go_wp2_with fail
 refine(e5.o _).mono ?_;rintro e w7 ⟨hB,(⟨-,rfl⟩|⟨hz,-⟩)⟩;rotate_left
 ·rw[q5O.2.1] at hz;cases hz
 rw[q5O.2.1];have a5:=e4.o.trans (hB.mono e4.o.size);have f1:=vn e9 a5;have f2:=vv (show q6t w7 g 11 52 0 q80 8 from Blk.below e8.o a5).says;obtain⟨q1,k1,rfl,-,l1,c1,a0,a1,a2,a3,a4⟩:=q51 (q0K a8.o a5);obtain⟨q2,k2,rfl,-,l2,c2,b0,b1,b2,b3,b4⟩:=q51 (q0K c5.o a5);obtain⟨q3,k3,rfl,-,l3,c3,d0,d1,d2,d3,d4⟩:=q51 (q0K e7.o a5);have f5:(c != 0)=true:=by simpa using hc
 clear a5 hB hc;go_wp2_with fail
 refine f2.o.1.mono ?_;rintro e w8 ⟨rfl,rfl⟩;go_wp2;go_ret
 exact⟨rfl,f1.o⟩
attribute [local go_sem] Oper.semAt_some wide_fn wide_depth wide_round
def ItI(J:List Tk->World->Prop)(Y l:Nat)(pre:List Tk)(X:World):Prop:=J pre X/\Blk X Y 76 [.func (.yield l) #[] #[]]
theorem qa6{J:List Tk->World->Prop}{n B Y l:Nat}(hJ:∀s A B,J s A->Kz n A B->J s B)(hB:n<=B):OwnFrom B (ItI J Y l):=by
 rintro pre A C row ⟨h1,h2⟩ hg hr;refine⟨hJ _ _ _ h1 (Kz.far hg fun r e=>⟨Nat.le_trans hB (hr r e).1,(hr r e).2⟩),h2.grown hg ?_⟩;rintro rfl;obtain⟨-,o,ho,hc⟩:=hr _ rfl;rw[show A.heap[Y]?=_ from h2] at ho;cases ho
 cases hc
theorem q5F{J:List Tk->World->Prop}{n g Y l:Nat}(hJ:∀s A B,J s A->Kz n A B->J s B)(hn:n<=g)(pre:List Tk)(A C:World)(h:ItI J Y l pre A)(hk:Kw g A C):ItI J Y l pre C:=
 ⟨hJ _ _ _ h.1 (Kz.kw hk hn),hk.blk h.2 (by unfold RT;decide)⟩
theorem q7P{J:List Tk->World->Prop}{n B:Nat}(hJ:∀s A B,J s A->Kz n A B->J s B)(hB:n<=B):OwnFrom B J:=fun pre A C row h hg hr=>hJ _ _ _ h (Kz.far hg fun r e=>⟨Nat.le_trans hB (hr r e).1,(hr r e).2⟩)
theorem qbm(w00:World)(hg0:Bg w00)(ht0:EType w00)(a b c d mode:Nat)(E F:Int)(sep s:ByteArray)(hsz:s.size<=1099511627776)(hsp:sep.size<=140737488351232)
  (w:World) (hw:Below w00.heap.size w00 w) (hc:Caught w a b c d E F mode sep s) :
  qbN Tryz.prog 37 #[.pointer (some ⟨a,0,none⟩),.pointer (some ⟨b,0,none⟩),.pointer (some ⟨c,0,none⟩),.pointer (some ⟨d,0,none⟩)] (fun t:Tk=>#[.agg (q12 E F mode t.1 t.2).toArray])
   Kz (Kb w00.heap.size) (fun xs=>xs <+: q0S E F mode sep s) (fun _=>True) (fun xs _=>xs=q0S E F mode sep s) w:=by
 intro l J Jx W hW hJ e8 hY h0;obtain⟨w1,c5⟩:=yx (W.alloc (.cells #[.func (.yield l) #[] #[]] 76));have b1:Below W.heap.size W w1:=by rw[c5];exact(Below.refl _ W).alloc lr _
 have e9:Blk w1 W.heap.size 76 [.func (.yield l) #[] #[]]:=by rw[c5];exact Blk.made W _ [.func (.yield l) #[] #[]]
 have a5:=(hc.below hW).below b1;have f0:Below w00.heap.size w00 w1:=(hw.trans (hW.mono hw.size)).trans (b1.mono (Nat.le_trans hw.size hW.size));have HN:=vv (New E F mode sep w1 hsp);have g6:=vv (Nat.le_trans hw.size hW.size);have HJ:=vv hJ;have d5:=vv e8;have HY:=vv hY;have H0:=vv h0;have g7:=vv c5;have c6:=vv b1;have g8:=vv e9;have g9:=vv a5;have d6:=vv f0;have HS:=vv hsz;have HG:=vv (And.intro hg0 ht0);have a0:=a5.form.cell 0;have a1:=a5.form.cell 1;have al:=a5.form.lt;have m0:=a5.mode.cell 0;have ml:=a5.mode.lt;have p0:=a5.sep.cell 0;have pl:=a5.sep.lt;simp only[List.getElem?_cons_zero,List.getElem?_cons_succ] at a0 a1 m0 p0;rw[c5] at a0 a1 al m0 ml p0 pl;clear hJ e8 hY h0 c5 b1 e9 a5 f0 hsz hg0 ht0 hw hc hW;refine(callsIn_wide (n:=0)).1 (callsIn_of_wp_marks Tryz.func37 rfl trivial ?_ rfl);simp only[Tryz.ntmps37,List.size_toArray,List.length_cons,List.length_nil,Nat.reduceAdd,Nat.reduceSub,Array.replicate_succ,Array.replicate_zero,List.push_toArray,List.append_toArray,List.nil_append,List.cons_append];refine wpIn_wide.2 ?_;go_wp2_with fail
 rw[<- g7.o];refine HN.o.mono ?_;rintro e w2 ⟨hB,(⟨hz,rfl⟩|⟨hz,g,rfl,hg,c7⟩)⟩
 ·have HB:Hid (Below W.heap.size W w2):=vn c6 hB;have HZ:Hid (q0S E F mode sep s=[]):=vv (by unfold q0S;rw[if_neg hz]);have j0:¬((q0H E F mode sep:Nat):Int)=0:=by omega
  clear hz hB a0 a1 al m0 ml p0 pl;go_wp2;exact⟨_,results_none rfl _ _ _,⟨_,rfl⟩,.inl ⟨[],HZ.o.symm,HJ.o _ _ _ H0.o (Kz.kw (Kw.below (g:=W.heap.size) HB.o) lr)⟩⟩
 have HZ:Hid (q0S E F mode sep s=q3t (q0I++sep) 0 none (q0a s)):=vv (by unfold q0S;rw[if_pos hz]);have b2:Hid (W.heap.size<=g/\w00.heap.size<=g):=vv (by
  have h1:=c6.o.size;have h2:=d6.o.size;omega)
 have b4:Hid (Below w1.heap.size w1 w2):=vv hB;have f1:Hid (Rdr w2 g E F mode (q0I++sep) 0 none):=vv ⟨⟨none,c7,rfl⟩,fun t h=>by cases h⟩;obtain⟨seps,a8⟩:=yx (q0I++sep);rw[<- a8] at f1 HZ;clear a8 hz hB hg c7 a0 a1 al m0 ml p0 pl;have d9:=g9.o.below b4.o;have t0:=d9.body.cell 0;have tl:=d9.body.lt;simp only[List.getElem?_cons_zero] at t0;clear d9;obtain⟨w3,c4⟩:=yx ((w2.alloc (.cells #[.pointer (some ⟨g,0,none⟩)] 50)).alloc (.cells #[.string s] 9));have b5:=run g s w2;rw[<- c4] at b5;have e0:=vv b5;have i0:w3.heap.size=w2.heap.size+2:=by rw[c4];simp
 have b3:Below w2.heap.size w2 w3:=by rw[c4];exact((Below.refl _ w2).alloc lr _).alloc (by simp) _
 have f2:Blk w3 w2.heap.size 50 [.pointer (some ⟨g,0,none⟩)]:=by rw[c4];exact(Blk.made w2 _ [.pointer (some ⟨g,0,none⟩)]).alloc _
 have f3:Blk w3 (w2.heap.size+1) 9 [.string s]:=by
  have e:=Blk.made (w2.alloc (.cells #[.pointer (some ⟨g,0,none⟩)] 50)) 9 [.string s];rw[World.size_alloc] at e;rw[c4];exact e
 have b6:Below W.heap.size W w3:=(c6.o.trans (b4.o.mono c6.o.size)).trans (b3.mono (Nat.le_trans c6.o.size b4.o.size));have f4:=vv (q6Q w00 HG.o.1 HG.o.2 g (w2.heap.size+1) w2.heap.size mode 0 E F seps s none (by have:=HS.o;omega) (by have:=HS.o;omega) b2.o.2 w3
  (d6.o.trans ((b4.o.trans (b3.mono b4.o.size)).mono d6.o.size)) f3 f2 (f1.o.below b3))
 have i1:Hid (ItI J W.heap.size l [] w3):=vv ⟨HJ.o _ _ _ H0.o (Kz.kw (Kw.below (g:=W.heap.size) b6) lr),((g8.o.below b4.o).below b3)⟩;have a9:=vv (And.intro b6.size (Nat.le_trans d6.o.size (Nat.le_trans b4.o.size b3.size)));obtain⟨X,hX⟩:=yx (q11 seps 0 none (q0a s));have c8:Hid (q0S E F mode sep s=X.2++X.1.toList):=vv (by rw[HZ.o,hX];rfl);rw[<- hX] at f4;clear hX c4 b5 i0 b3 f2 f3 b6;go_wp2_with fail
 refine e0.o.mono ?_;rintro e w' ⟨rfl,rfl⟩;clear t0 tl;go_wp2_with fail
 refine(wpIn_wide (n:=0)).1 ?_;refine q1g (gf:=78) (lb:=#[.pointer (some ⟨w2.heap.size+1,0,none⟩),.pointer (some ⟨w2.heap.size,0,none⟩)]) rfl (enters_of Tryz.func78 (by kernel_rfl) rfl) f4.o
  (fun h k=>h.trans k) (fun W l o o' hl h ho=>Kb.put o' h ho (Nat.le_trans a9.o.2 hl)) (fun A B k o h _ hk ho=>h.non hk ho)
  (fun xs W l o o' h hl hk ho=>⟨h.1,h.2.1.put o' hk ho,h.2.2.trans (q1v o' hk (Nat.le_trans a9.o.2 hl))⟩) (fun _=>rfl)
  (ItI J W.heap.size l) (fun c pre X=>c=.ret/\Jx pre X) (qa6 HJ.o a9.o.1) (q5F HJ.o b2.o.1) (fun c s A B row h hg hr=>⟨h.1,q7P d5.o a9.o.1 _ _ _ _ h.2 hg hr⟩)
  (fun c s A B h hk=>⟨h.1,d5.o _ _ _ h.2 (Kz.kw hk b2.o.1)⟩) i1.o ?_ ?_ ?_
 ·
  intro l' pre x A hI f5;obtain⟨x0,x1,x2,x3,x4,c9,a3⟩:=q1f E F mode x.1 x.2;dsimp only;rw[c9];have hz:Blk (A.alloc (.cells #[.int .u64 0,.int .u8 0,.int .i64 0,.int .i64 0,.int .i64 0] 49)) A.heap.size 49 [.int .u64 0,.int .u8 0,.int .i64 0,.int .i64 0,.int .i64 0]:=Blk.made A _ [.int .u64 0,.int .u8 0,.int .i64 0,.int .i64 0,.int .i64 0];have b7:[x0,x1,x2,x3,x4].all (·.oneCell')=true:=List.all_eq_true.2 a3;have HI:=vv hI;have i2:=vv f5;clear hI a3 f5
  gi_wp2_with (with_reducible refine q0W rfl 49 (.tmp 8) (.tmp 25) rfl A.heap.size [x0,x1,x2,x3,x4] rfl rfl 49 _ hz (by kernel_rfl) rfl b7 ?_)
  intro A2 f6 f7;have f8:Below A.heap.size A A2:=((Below.refl _ A).alloc lr _).grown f7 (by simp) (fun k e=>by cases e;exact lr);have i3:=vv f6;have b8:=vv f8;clear f6 f7 f8 hz
  gi_wp2
  refine⟨q2e b8.o,q43 (Nat.le_trans g6.o (Nat.le_of_lt HI.o.2.lt)) b8.o,q5F HJ.o b2.o.1 pre A A2 HI.o (Kw.below b8.o),?_⟩;intro B d0 b0;have i4:=b0.blk i3.o;have s0:=d0.2.cell 0;have sl:=d0.2.lt;simp only[List.getElem?_cons_zero] at s0;have i5:=vv d0;obtain⟨fn,tmps,assign,body,hy,d1⟩:=HY.o pre x B d0.1 (by
   obtain⟨r,hr⟩:=i2.o;exact⟨r++X.1.toList,by rw[c8.o,<- hr];simp⟩)
  rw[c9] at hy;clear d0 b0
  gi_wp2_with (with_reducible refine q15 rfl 49 (.tmp 8) rfl A.heap.size rfl 49 _ _ i4 Tryz.underlying49 rfl (by kernel_rfl) ?_)
  refine RoundIn.mono (F:=Fence.wide.inRound l') d1 ?_;clear hy d1;rintro e W3 (⟨rfl,f9,b9,a2⟩|⟨rfl,d2,a2⟩)
  ·have HE:Hid (ownPostG w'.heap.size (Kb w00.heap.size) (ItI J W.heap.size l) (fun c pre X=>c=.ret/\Jx pre X) (pre++[x]) B .normal {tmps:=#[],defers:=[]} W3):=vv
    ⟨⟨a2.size,fun k o hB hk ho=>a2.same k o (Nat.le_trans a9.o.1 hB) hk ho⟩,b9,f9,b9.blk i5.o.2 (.inr (.inr (.inr rfl)))⟩
   clear f9 b9 a2
   gi_wp2
   exact HE.o
  ·have HE:Hid (ownPostG w'.heap.size (Kb w00.heap.size) (ItI J W.heap.size l) (fun c pre X=>c=.ret/\Jx pre X) (pre++[x]) B .ret {tmps:=#[],defers:=[]} W3):=vv
    ⟨⟨a2.size,fun k o hB hk ho=>a2.same k o (Nat.le_trans a9.o.1 hB) hk ho⟩,rfl,d2⟩
   clear d2 a2
   gi_wp2
   exact HE.o
 ·
  intro D xs W' hD hS hI hK;obtain⟨rfl,hR,d3⟩:=hS;have e4:=vv (qbX w00 HG.o.1 HG.o.2 g mode (0+s.size) E F seps X.1 b2.o.2 W' d3 hR);have HI:=vv hI;have HK:=vv hK;have HD:Hid (W.heap.size<=D):=vv (Nat.le_trans a9.o.1 hD);have c1:Hid (∀(V:World) (pre:List Tk) (K:List Tk->World->Prop),(∀s A B,K s A->Kz W.heap.size A B->K s B)->K pre V->V.heap[D]?=some (.deferred (some []))->K pre (V.putObj D (.deferred none))):=vv
   fun V pre K hK h hv=>hK _ _ _ h (Kz.far (grownBy_putObj' V D _) fun r e=>by cases e;exact⟨HD.o,_,hv,rfl⟩)
  clear hR d3 hI hK hD;go_wp2_with fail
  refine e4.o.mono ?_;rintro e w5 ⟨v,rfl,c2,-,e5⟩;have g0:=vv (q5F HJ.o b2.o.1 _ _ _ HI.o e5);have d7:=vv (e5.non HK.o rfl);obtain⟨A0,c0,rfl⟩:=q1Q c2;have c3:=vv c2;clear c2 e5;cases hX1:X.1 with
  | none =>
   rw[hX1] at c3 c8;have a6:Hid (q0S E F mode sep s=X.2):=vv (by rw[c8.o];simp);have i6:=vv hX1;clear hX1;simp only[Option.toList_none,List.length_nil];go_wp2;go_loopw [37] (fun i wr=>i=.int .i64 0/\wr=w5) (fun _ _=>0)
   case atStart=>exact⟨rfl,rfl⟩
   case round =>
    obtain⟨rfl,rfl⟩:=hrel;go_wp2;refine⟨by simp,.inl ⟨_,_,rfl,run_takeDeferred d7.o,?_⟩⟩;exact⟨_,results_none rfl _ _ _,⟨_,rfl⟩,.inl ⟨X.2,a6.o.symm,c1.o _ _ _ HJ.o g0.o.1 d7.o⟩⟩
  | some t =>
   rw[hX1] at c3 c8;have a6:Hid (q0S E F mode sep s=X.2++[t]):=vv (by rw[c8.o];rfl);have i6:=vv hX1;clear hX1;simp only[Option.toList_some,List.length_cons,List.length_nil,Nat.zero_add];obtain⟨q,cap,e1,-,i7,i8,hq⟩:=q2X c3.o (by simp)
   injection e1 with e1 e2 e3
   subst e1;have d8:=hq 0 (by simp);simp only[Option.toList_some,List.getElem_cons_zero,Nat.zero_mul] at d8;obtain⟨x0,x1,x2,x3,x4,c9,a3⟩:=q1f E F mode t.1 t.2;rw[c9] at d8;have b7:[x0,x1,x2,x3,x4].all (·.oneCell')=true:=List.all_eq_true.2 a3;clear hq a3;go_wp2;refine(wpIn_wide (n:=0)).1 ?_
   gi_loopw [37] (fun i wr=>(i=.int .i64 0/\wr=w5)\/(i=.int .i64 1/\J (X.2++[t]) wr/\wr.heap[D]?=some (.deferred (some [])))) (fun i _=>1-(intOf i).toNat)
   case atStart=>exact .inl ⟨rfl,rfl⟩
   case round =>
    rcases hrel with ⟨rfl,rfl⟩|⟨rfl,hj,hd⟩
    ·have hz:Blk (wr.alloc (.cells #[.int .u64 0,.int .u8 0,.int .i64 0,.int .i64 0,.int .i64 0] 49)) wr.heap.size 49 [.int .u64 0,.int .u8 0,.int .i64 0,.int .i64 0,.int .i64 0]:=Blk.made wr _ [.int .u64 0,.int .u8 0,.int .i64 0,.int .i64 0,.int .i64 0]
     gi_wp2_with (with_reducible first
      | refine q2N rfl 49 (.tmp 39) rfl q 0 rfl [x0,x1,x2,x3,x4] _ d8 Tryz.underlying49 rfl (by kernel_rfl) ?_
      | refine q2w rfl 49 (.tmp 12) (.tmp 40) rfl wr.heap.size [x0,x1,x2,x3,x4] rfl rfl 49 _ hz (by kernel_rfl) rfl b7 ?_)
     intro w7 g1 g2;have e6:Below wr.heap.size wr w7:=((Below.refl _ wr).alloc lr _).grown g2 (by simp) (fun k e=>by cases e;exact lr);have e7:=vv (q5F HJ.o b2.o.1 _ _ _ g0.o (Kw.below (g:=g) e6));have g3:=vv ((e6.block D (Array.getElem?_eq_some_iff.1 d7.o).1).trans d7.o);have s0:=e7.o.2.cell 0;have sl:=e7.o.2.lt;simp only[List.getElem?_cons_zero] at s0;obtain⟨fn,tmps,assign,body,hy,d1⟩:=HY.o X.2 t w7 e7.o.1 (by rw[a6.o];exact List.prefix_rfl);rw[c9] at hy;clear hz e6 g2 d8 i7
     gi_wp2_with (with_reducible refine q2O rfl 49 (.tmp 12) rfl wr.heap.size rfl 49 _ _ g1 Tryz.underlying49 rfl (by kernel_rfl) ?_)
     refine d1.mono ?_;clear hy d1 g1 s0 sl;rintro e W8 (⟨rfl,g4,-,a4⟩|⟨rfl,d4,a4⟩)
     ·have a7:=vv (And.intro g4 (a4.same D _ HD.o g3.o rfl));clear g4 a4
      gi_wp2
      go_roundw
      case rel=>exact .inr ⟨rfl,a7.o⟩
      case measure=>simp [intOf]
     ·have a7:=vv (And.intro d4 (a4.same D _ HD.o g3.o rfl));clear d4 a4
      gi_wp2
      refine⟨by simp,.inl ⟨_,_,rfl,run_takeDeferred a7.o.2,?_⟩⟩;exact⟨_,results_none rfl _ _ _,⟨_,rfl⟩,.inr ⟨_,trivial,c1.o _ _ _ d5.o a7.o.1 a7.o.2⟩⟩
    ·have a7:=vv (And.intro hj hd);clear hj hd
     gi_wp2
     refine⟨by simp,.inl ⟨_,_,rfl,run_takeDeferred a7.o.2,?_⟩⟩;exact⟨_,results_none rfl _ _ _,⟨_,rfl⟩,.inl ⟨_,a6.o.symm,c1.o _ _ _ HJ.o a7.o.1 a7.o.2⟩⟩
 ·rintro D c pre W' hD hp ⟨rfl,g5⟩ hK;have HD:Hid (W.heap.size<=D):=vv (Nat.le_trans a9.o.1 hD);have i9:=vv g5;clear g5 hD
  gi_wp2
  refine⟨by simp,.inl ⟨_,_,rfl,run_takeDeferred hK,?_⟩⟩;exact⟨_,results_none rfl _ _ _,⟨_,rfl⟩,.inr ⟨pre,trivial,d5.o _ _ _ i9.o (Kz.far (grownBy_putObj' W' D _) fun r e=>by cases e;exact⟨HD.o,_,hK,rfl⟩)⟩⟩
attribute [local go_sem] Oper.semAt_some wide_fn wide_depth wide_round
theorem q9N(f:Fn)(a b:Array Value)(W:World):(binOp .eql 46 (.func f a b) .nilFunc).run Tryz.prog W=.ok (.bool false) W:=by
 obtain⟨k,hk⟩:∃k,Op.maxDepth=k+1:=⟨9999,rfl⟩;have e:(Op.equal 46 (.func f a b) .nilFunc).run Tryz.prog W=.ok false W:=by
  unfold Op.equal;rw[hk];unfold Op.equalIn;rw[Sem.run_bind,run_underlying Tryz.underlying46 W]
  rfl
 show Sem.run Tryz.prog (Op.equal 46 (.func f a b) .nilFunc >>= fun r=>pure (Value.bool r)) W=_;rw[Sem.run_bind,e]
 rfl
def qch(Q:Exit->Act->World->Prop):Exit->Act->World->Prop
 | .panic _,_,_=>False
 | .normal,a,w=>Q .normal a w
 | .ret,a,w=>Q .ret a w
 | .exit i,a,w=>Q (.exit i) a w
 | .goto l,a,w=>Q (.goto l) a w
 | .outgrown,a,w=>Q .outgrown a w
theorem qap{P:Program}{c:Code}{Q:Exit->Act->World->Prop}{a:Act}{w:World}(h:c.wp P (qch Q) a w):c.wp P Q a w:=
 Code.wp_mono (fun e a w h=>by cases e<;>first|exact h|exact h.elim) h
def qaD(w:World)(E F:Int)(mode:Nat)(pre:List Tk)(W:World):Prop:=
 Below w.heap.size w W/\∃v,Blk W w.heap.size 42 [v]/\W.ownsRow w.heap.size 49 5 v pre.length (q0l E F mode pre)
theorem q8H{w:World}{mode B:Nat}{E F:Int}(hB:w.heap.size<=B):OwnFrom B (qaD w E F mode):=by
 rintro pre A C row ⟨h1,v,h2,h3⟩ hg hr;have a0:∀(k:Nat) (cs:Array Value) (t:TypeId),A.heap[k]?=some (.cells cs t (0,0))->row≠some k:=by
  rintro k cs t hk rfl;obtain⟨-,o,ho,hc⟩:=hr k rfl;rw[hk] at ho;cases ho
  cases hc
 refine⟨h1.grown hg h1.size (fun k e=>Nat.le_trans hB (hr k e).1),v,h2.grown hg (a0 _ _ _ h2),h3.kept hg ?_⟩;rcases h3.2 with ⟨rfl,-⟩|⟨q,cap,cur,rfl,-,hq,-⟩
 ·exact .inl rfl
 ·exact .inr (fun e=>a0 _ _ _ hq e.symm)
theorem q7p{w:World}{n mode:Nat}{E F:Int}(hn:w.heap.size<=n)(pre:List Tk)(A C:World)(h:qaD w E F mode pre A)(hk:Kz n A C):qaD w E F mode pre C:=by
 obtain⟨h1,v,h2,h3⟩:=h;exact⟨h1.trans (hk.low hn h1.size),v,hk.blk h2 (by unfold RT;decide),hk.row h3 (by unfold RT;decide)⟩
theorem StreamPieces(w:World)(hg0:Bg w)(ht0:EType w)(E F:Int)(mode:Nat)(sep s:ByteArray)(A:Option Addr)(n c:Nat)(C:Nat->Int)(hC:Ints w A n C)
  (hsp:sep.size<=140737488351232) (hsz:s.size<=140737488351232) (hn:n<=140737488351232) :
  Calls Tryz.prog 4 #[fm E F,.int .u8 (mode:Int),.string sep,.string s,.slice A n c] w fun e w'=>e=.returned (.bool true)/\Below w.heap.size w w':=by
 obtain⟨i0,hi,n0,n3,n4⟩:=info_parts q44;obtain⟨w1,e9⟩:=yx (w.alloc (.cells #[.int .i64 E,.int .i64 F] 23));have b1:Below w.heap.size w w1:=by rw[e9];exact(Below.refl _ w).alloc lr _
 have hf:Blk w1 w.heap.size 23 [.int .i64 E,.int .i64 F]:=by rw[e9];exact Blk.made w _ [.int .i64 E,.int .i64 F]
 have n5:=vv (qbK w1 (hg0.below b1) (ht0.below b1));have b5:=vv b1;have d5:=vv hf;have HW:=vv e9;have n6:=vv (hC.below b1);have b6:=vv (And.intro (hg0.below b1) (ht0.below b1));have n7:(s.size:Int)<=140737488351232:=by omega
 have p8:(n:Int)<=140737488351232:=by omega
 clear e9 b1 hf hC hg0 ht0;refine(callsIn_wide (n:=0)).1 (callsIn_of_wp_marks Tryz.func4 rfl trivial ?_ rfl);simp only[Tryz.ntmps4,List.size_toArray,List.length_cons,List.length_nil,Nat.reduceAdd,Nat.reduceSub,Array.replicate_succ,Array.replicate_zero,List.push_toArray,List.append_toArray,List.nil_append,List.cons_append];refine wpIn_wide.2 ?_;go_wp2_with fail
 rw[<- HW.o];refine n5.o.mono ?_;rintro e w2 ⟨rfl,j5⟩;have c6:Hid (Below w1.heap.size w1 w2):=vv j5;clear j5;by_cases hbig:20000<s.size\/2000<n
 ·have h2:(20000<s.size)\/(¬20000<s.size/\2000<n):=by omega
  clear hbig;rcases h2 with h|⟨h,h'⟩;have t1:(20000:Int)<(s.size:Int):=by omega
  rotate_left;have t1:¬(20000:Int)<(s.size:Int):=by omega
  have t2:(2000:Int)<(n:Int):=by omega
  rotate_left;all_goals
   clear h;go_wp2;exact⟨_,results_tmp rfl _ _ _,rfl,b5.o.trans (c6.o.mono b5.o.size)⟩
 have j6:s.size<=20000:=by omega
 have j7:n<=2000:=by omega
 have t1:¬(20000:Int)<(s.size:Int):=by omega
 have t2:¬(2000:Int)<(n:Int):=by omega
 have n8:=vv (fed w2 (b6.o.1.below c6.o) (b6.o.2.below c6.o) E F mode sep s A n c C (n6.o.below c6.o) hsp (by omega) (by omega));have i2:=vv (And.intro j6 j7);have f2:=d5.o.below c6.o;have f0:=f2.cell 0;have f1:=f2.cell 1;have fl:=f2.lt;simp only[List.getElem?_cons_zero,List.getElem?_cons_succ] at f0 f1;clear hbig f2 j6 j7;go_wp2_with fail
 refine n8.o.mono ?_;rintro e w3 ⟨v1,n1,rfl,j8,j9⟩;clear f0 f1 fl;have d6:Hid (Below w1.heap.size w1 w3):=vn c6 j9;have a6:Hid (w3.ownsRow w1.heap.size 49 5 v1 n1 (q0l E F mode (q0S E F mode sep s))):=vv (q5v j8 c6.o.size);have i3:=vv (fed w3 (b6.o.1.below d6.o) (b6.o.2.below d6.o) E F mode sep s none 0 0 (fun _=>0) (Ints.nil w3) hsp (by have:=i2.o;omega) (by omega));have f3:=d5.o.below d6.o;have f0:=f3.cell 0;have f1:=f3.cell 1;have fl:=f3.lt;simp only[List.getElem?_cons_zero,List.getElem?_cons_succ] at f0 f1;clear j8 j9 f3;go_wp2_with fail
 refine i3.o.mono ?_;rintro e w4 ⟨v2,n2,rfl,k0,i4⟩;clear f0 f1 fl;have k7:Hid (Below w1.heap.size w1 w4):=vn d6 i4;have a6:=vv (q0K a6.o i4);have c7:Hid (w4.ownsRow w1.heap.size 49 5 v2 n2 (q0l E F mode (q0S E F mode sep s))):=vv (q5v k0 d6.o.size);have f4:=d5.o.below k7.o;have f0:=f4.cell 0;have f1:=f4.cell 1;have fl:=f4.lt;simp only[List.getElem?_cons_zero,List.getElem?_cons_succ] at f0 f1;clear k0 i4 f4;obtain⟨ok,i5⟩:=yx (decide (q0H E F mode sep=0));rw[<- i5];have k8:=vv i5;clear i5;go_wp2_with fail
 refine(qbU E F mode sep s w4).mono ?_;rintro e w5 ⟨ca,cb,cc,cd,rfl,d7,f5,-⟩;clear f0 f1 fl;have b7:Hid (Below w1.heap.size w1 w5):=vn k7 f5;have a6:=vv (q0K a6.o f5);have c7:=vv (q0K c7.o f5);obtain⟨w6,d8⟩:=yx (w5.alloc (.cells #[.slice none 0 0] 42));have f6:Below w5.heap.size w5 w6:=by rw[d8];exact(Below.refl _ w5).alloc lr _
 have k9:w6.heap.size=w5.heap.size+1:=by rw[d8];simp
 have n9:Hid (qaD w5 E F mode [] w6):=vv ⟨f6,_,by rw[d8];exact Blk.made w5 _ [.slice none 0 0],World.ownsRow_nil _ _ _ _⟩;have l0:=qbm w1 b6.o.1 b6.o.2 ca cb cc cd mode E F sep s (by have:=i2.o.1;omega) hsp w6 (b7.o.trans (f6.mono b7.o.size)) (d7.below f6);have l1:=vv l0;have o0:=vv d8;have d9:=vv k9;obtain⟨ts,c8⟩:=yx (q0S E F mode sep s);have f7:ts.length<=20001:=by
  rw[c8];unfold q0S;split
  ·have h1:=q2m (q0I++sep) (q0a s) 0 none;rw[q0w] at h1;have h2:(q11 (q0I++sep) 0 none (q0a s)).2.length+(q11 (q0I++sep) 0 none (q0a s)).1.toList.length<=s.size+1:=by
    have:(q11 (q0I++sep) 0 none (q0a s)).1.toList.length<=1:=by cases(q11 (q0I++sep) 0 none (q0a s)).1<;>simp
    omega
   unfold q3t;rw[List.length_append];have h3:=i2.o.1;omega
  ·simp
 rw[<- c8] at l1 a6 c7;have l2:=vv c8;have f8:=vv f7;have o1:=q9N (.func 37) #[] #[.pointer (some ⟨ca,0,none⟩),.pointer (some ⟨cb,0,none⟩),.pointer (some ⟨cc,0,none⟩),.pointer (some ⟨cd,0,none⟩)] w5;clear d7 f5 d8 f6 k9 l0 c8 f7;go_wp2_with fail
 rw[<- o0.o];refine(wpIn_wide (n:=0)).1 ?_;refine q1g (gf:=37) (lb:=#[.pointer (some ⟨ca,0,none⟩),.pointer (some ⟨cb,0,none⟩),.pointer (some ⟨cc,0,none⟩),.pointer (some ⟨cd,0,none⟩)]) rfl (enters_of Tryz.func37 (by kernel_rfl) rfl) l1.o
  (fun h k=>h.trans k) (fun W l o o' hl h ho=>Kb.put o' h ho (by have:=d9.o;have:=b7.o.size;omega)) (fun X Y k o h hk ho _=>h.non hk ho)
  (fun xs W l o o' h hl hk ho=>h) (fun _=>rfl)
  (qaD w5 E F mode) (fun _ _ _=>False) (q8H (by have:=d9.o;omega)) (q7p (by have:=d9.o;omega)) (fun c s A B row h=>h.elim) (fun c s A B h=>h.elim) n9.o ?_ ?_ ?_
 ·
  intro l pre x A1 hI l3;obtain⟨x0,x1,x2,x3,x4,l4,d0⟩:=q1f E F mode x.1 x.2;dsimp only;rw[l4];have e0:pre.length+1<=20001:=by
   have:=l3.length_le;rw[List.length_append] at this;have:=f8.o;simp at *
   omega
  have hz:Blk (A1.alloc (.cells #[.int .u64 0,.int .u8 0,.int .i64 0,.int .i64 0,.int .i64 0] 49)) A1.heap.size 49 [.int .u64 0,.int .u8 0,.int .i64 0,.int .i64 0,.int .i64 0]:=Blk.made A1 _ [.int .u64 0,.int .u8 0,.int .i64 0,.int .i64 0,.int .i64 0];have b4:[x0,x1,x2,x3,x4].all (·.oneCell')=true:=List.all_eq_true.2 d0;have HI:=vv hI;have i6:=vv d0;have l5:=vv e0;clear hI d0 e0 l3
  gi_wp2_with (with_reducible refine q0W rfl 49 (.tmp 18) (.tmp 73) rfl A1.heap.size [x0,x1,x2,x3,x4] rfl rfl 49 _ hz (by kernel_rfl) rfl b4 ?_)
  intro A2 l6 l7;have l8:Below A1.heap.size A1 A2:=((Below.refl _ A1).alloc lr _).grown l7 (by simp) (fun k e=>by cases e;exact lr);have o2:=vv l6;have d1:=vv l8;clear l6 l7 l8 hz
  gi_wp2
  refine⟨q2e d1.o,q43 (Nat.le_trans b7.o.size HI.o.1.size) d1.o,q7p lr pre A1 A2 HI.o (Kz.kw (Kw.below (g:=w5.heap.size) d1.o) lr),?_⟩;intro B o3 b8;obtain⟨l9,v',e4,b9⟩:=o3;have o4:=b8.blk o2.o;have s0:=e4.cell 0;have f0:=e4.fz 0;have sl:=e4.lt;simp only[List.getElem?_cons_zero] at s0;have d4:=vv (And.intro l9 (And.intro e4 b9));clear l9 e4 b9 b8
  gi_wp2_with (first
   | with_reducible refine q15 rfl 49 (.tmp 18) rfl A1.heap.size rfl 49 _ _ o4 Tryz.underlying49 rfl (by kernel_rfl) ?_
   | (gi_at_builtin;refine wpListIn_append_own _ rfl _ _ 42 rfl w5.heap.size 49 i0 (.agg #[.int .u64 0,.int .u8 0,.int .i64 0,.int .i64 0,.int .i64 0]) 5 40 Tryz.underlying42 hi n0 n3 n4 rfl (by decide) _ pre.length (q0l E F mode pre) rfl (d4.o.2.2.alloc _) ⟨B.heap.size,0,none⟩ 1 1 [x0,x1,x2,x3,x4] rfl rfl (q3p B [x0,x1,x2,x3,x4] _) i6.o (by have:=l5.o;unfold maxLen;omega) (by have:=l5.o;omega) (by have:=d4.o.1.size;simp;omega) ?_))
  intro v3 B3 d2 c2 _;obtain⟨k1,k2,k3,k4,k5,k6⟩:=q6X (lo:=w5.heap.size) d4.o.1.size lr d4.o.2.1 d4.o.2.2 (by decide) d2 c2;have HE:Hid (ownPostG w6.heap.size (Kb w1.heap.size) (qaD w5 E F mode) (fun _ _ _=>False) (pre++[x]) B .normal {tmps:=#[],defers:=[]} (B3.setCell ⟨w5.heap.size,0,none⟩ v3)):=vv (by
   refine⟨k4.from _,⟨k5.mono b7.o.size,k4.size,fun k cs t hk ht=>k6 k cs t hk (fun e=>q5A.1 (e ▸ ht)) (fun e=>q5A.2 (e ▸ ht))⟩,d4.o.1.trans k5,v3,k2,?_⟩;rw[q3j,l4,List.length_append];exact k3)
  have s0:=k1.cell 0;have f0:=k1.fz 0;have sl:=k1.lt;simp only[List.getElem?_cons_zero] at s0;obtain⟨q2,cap2,rfl⟩:=ownsRow_succ d2;clear k1 k2 k3 k4 k5 k6 d2 c2
  gi_wp2
  exact HE.o
 ·
  intro D xs W hD hS hI hK;obtain rfl:xs=ts:=hS;obtain⟨f9,v3,m0,c3⟩:=hI;have a7:Hid (Below w1.heap.size w1 W):=vn b7 f9;have a6:=vv (q0K a6.o f9);have c7:=vv (q0K c7.o f9);have i7:=vv c3;have g7:=vv m0;have HK:=vv hK;have HD:=vv hD;clear f9 m0 c3 hK hD;cases ok with
  | false =>
   have hz:q0H E F mode sep≠0:=by
    have:=k8.o;intro h;rw[decide_eq_true h] at this;cases this
   have c8:xs=[]:=by rw[l2.o];unfold q0S;rw[if_neg hz]
   have HN:=vv (New E F mode sep W hsp);have g8:=d5.o.below a7.o;have g0:=g8.cell 0;have g1:=g8.cell 1;have gl:=g8.lt;simp only[List.getElem?_cons_zero,List.getElem?_cons_succ] at g0 g1;rw[c8] at i7;have HZ:=vv hz;clear c8 hz g8;go_wp2_with fail
   refine HN.o.mono ?_;rintro e w8 ⟨b3,(⟨hz,rfl⟩|⟨hz,-⟩)⟩;rotate_left
   ·exact absurd hz HZ.o
   have o5:¬((q0H E F mode sep:Nat):Int)=0:=by omega
   have a5:=g7.o.below b3;obtain⟨A9,c9,rfl⟩:=q1Q i7.o;have s0:=a5.cell 0;have sl:=a5.lt;simp only[List.getElem?_cons_zero] at s0;have m1:=vv ((b3.block D (Array.getElem?_eq_some_iff.1 HK.o).1).trans HK.o);have i8:=vn a7 b3;clear b3 a5 g0 g1 gl hz;go_wp2;refine⟨by simp,.inl ⟨_,_,rfl,run_takeDeferred m1.o,?_⟩⟩;refine⟨_,results_tmp rfl _ _ _,?_,(b5.o.trans (i8.o.mono b5.o.size)).trans (q1v _ m1.o (by have:=HD.o;have:=d9.o;have:=b7.o.size;have:=b5.o.size;omega))⟩;show Ending.returned (Value.bool _)=_;exact q2Q (by simpa using o5)
  | true =>
   have hz:q0H E F mode sep=0:=by
    have:=k8.o;by_cases h:q0H E F mode sep=0
    ·exact h
    ·rw[decide_eq_false h] at this;cases this
   have m2:xs=q3t (q0I++sep) 0 none (q0a s):=by rw[l2.o];unfold q0S;rw[if_pos hz]
   have o6:=vv m2;obtain rfl:n1=xs.length:=q1C a6.o;obtain rfl:n2=xs.length:=q1C c7.o;have o7:=vv (qcf w1.heap.size w1.heap.size xs.length v1 v2 E F mode xs W (by have:=f8.o;omega) a6.o c7.o);have s0:=g7.o.cell 0;have sl:=g7.o.lt;simp only[List.getElem?_cons_zero] at s0;clear hz m2;go_wp2_with fail
   refine o7.o.mono ?_;rintro e w8 ⟨rfl,b3⟩;clear s0 sl;have i8:=vv b3;have a5:=g7.o.below b3;have s0:=a5.cell 0;have sl:=a5.lt;simp only[List.getElem?_cons_zero] at s0;have o8:=vv (qcf w1.heap.size w5.heap.size xs.length v1 v3 E F mode xs w8 (by have:=f8.o;omega) (q0K a6.o b3) (q0K i7.o b3));clear b3 a5;go_wp2_with fail
   refine o8.o.mono ?_;rintro e w9 ⟨rfl,m3⟩;have o9:=vn i8 m3;obtain⟨A1,c1,rfl⟩:=q1Q a6.o;have f7:=f8.o;have p9:(xs.length:Int)<=20001:=by omega
   clear s0 sl m3 f7;go_wp2;go_loopw [21,22] (fun nx i wr=>∃p k:Nat,k<=xs.length/\p<=s.size/\nx=.int .i64 (p:Int)/\i=.int .i64 (k:Int)/\q3t (q0I++sep) p none ((q0a s).drop p)=xs.drop k/\Below W.heap.size W wr) (fun _ i _=>xs.length+1-(intOf i).toNat)
   case atStart=>exact⟨0,0,Nat.zero_le _,Nat.zero_le _,rfl,rfl,by rw[o6.o];rfl,o9.o⟩
   case round =>
    obtain⟨p,k,hk,hp,rfl,rfl,b4,m4⟩:=hrel;have a8:=vv m4;have e5:=vv b4;clear m4 b4;have q0:(k:Int)<=20001:=by omega
    by_cases hkl:k<xs.length
    ·obtain⟨tk,i9⟩:=yx (xs[k]);have a9:=e5.o;rw[List.drop_eq_getElem_cons hkl,<- i9] at a9;obtain⟨h1,h2,h3,h4,h5,h6,h7⟩:=q6H a9;obtain⟨q,cap,e1,-,j0,p0,hq⟩:=q2X a6.o (by omega)
     injection e1 with e1 e2 e3
     subst e1;have c4:=q1A a8.o j0 (hq k hkl);rw[<- i9,q6b] at c4;obtain⟨en,g9⟩:=yx (tk.2);obtain⟨ln,i1⟩:=yx (tk.1.length);obtain⟨N,hN⟩:=yx (en+ln);obtain⟨O,hO⟩:=yx (q0A E F (txt tk.1) mode);rw[<- hO,<- g9,<- i1] at c4;rw[<- i1,<- g9,<- hN] at h3 h5 h6 h7;rw[<- i1] at h2;rw[<- g9] at h1 h4;have a0:wr.cell? ⟨q,k*5,none⟩=some (.int .u64 (O.1:Int)):=c4 0 _ rfl;have a1:wr.cell? ⟨q,k*5+1,none⟩=some (.int .u8 (O.2.1:Int)):=c4 1 _ rfl;have a2:wr.cell? ⟨q,k*5+2,none⟩=some (.int .i64 O.2.2.1):=c4 2 _ rfl;have a3:wr.cell? ⟨q,k*5+3,none⟩=some (.int .i64 (en:Int)):=c4 3 _ rfl;have a4:wr.cell? ⟨q,k*5+4,none⟩=some (.int .i64 (ln:Int)):=c4 4 _ rfl;have j1:=Nat.lt_of_lt_of_le j0 a8.o.size;have q1:(en:Int)+(ln:Int)=(N:Int):=by omega
     have g1:¬(ln:Int)<1:=by omega
     have g2:¬(en:Int)<(p:Int):=by omega
     have g3:(N:Int)<=(s.size:Int):=by omega
     have g4:(en:Int)<=(N:Int):=by omega
     have g5:(p:Int)<=(en:Int):=by omega
     have g6:(k:Int)<(xs.length:Int):=by omega
     have H4:=vv h4;have H5:=vv h5;have H6:=vv (And.intro h6 h7);have HO:=vv hO;have j2:=vv (And.intro a0 (And.intro a1 a2));clear a9 hq c4 i9 g9 i1 h4 h5 h6 h7 hO e2 e3 j0 a0 a1 a2 hN;go_wp2;go_loop [24] (fun t=>∃j:Nat,p<=j/\j<=en/\t=.int .i64 (j:Int)) (fun t=>en-(intOf t).toNat)
     case atStart=>exact⟨p,lr,h1,rfl⟩
     case round =>
      obtain⟨j,e6,hj,rfl⟩:=hrel;by_cases hjs:j<en
      ·have p1:j<s.size:=by omega
       have c5:=vv (parts sep s[j].toNat wr (UInt8.toNat_lt _) hsp);rw[H4.o j p1 e6 hjs] at c5;go_wp2_with fail
       refine c5.o.mono ?_;rintro e w' ⟨rfl,rfl⟩;go_wp2;go_round
       case rel=>exact⟨j+1,by omega,by omega,by go_num⟩
       case measure=>simp [intOf];omega
      ·obtain rfl:j=en:=by omega
       clear hj hjs e6;go_wp2;go_loop [25] (fun t=>∃i:Nat,j<=i/\i<=N/\t=.int .i64 (i:Int)) (fun t=>N-(intOf t).toNat)
       case atStart=>exact⟨j,lr,by omega,rfl⟩
       case round =>
        obtain⟨i,m5,p2,rfl⟩:=hrel;by_cases his:i<N
        ·have p3:i<s.size:=by omega
         have c5:=vv (parts sep s[i].toNat wr (UInt8.toNat_lt _) hsp);rw[H5.o i p3 m5 his] at c5;go_wp2_with fail
         refine c5.o.mono ?_;rintro e w' ⟨rfl,rfl⟩;go_wp2;go_round
         case rel=>exact⟨i+1,by omega,by omega,by go_num⟩
         case measure=>simp [intOf];omega
        ·obtain rfl:i=N:=by omega
         clear p2 his m5;go_wp2_with fail
         have hF:=(d5.o.below a7.o).below a8.o;have c0:=hF.cell 0;have c1:=hF.cell 1;have cl:=hF.lt;simp only[List.getElem?_cons_zero,List.getElem?_cons_succ] at c0 c1;have HF:=vv hF;clear hF;refine qap ?_;refine q01 (fun w'=>w'.cell? ⟨w.heap.size,0,none⟩=some (.int .i64 E)/\w'.cell? ⟨w.heap.size,1,none⟩=some (.int .i64 F)) 14
          (.still 0 (.still 1 (.still 2 (.still 3 (.still 4 (.still 5 (.one 6 (.still 7 (.still 8 (.still 9 (.still 10 (.still 11 (.still 12 (.still 13 .done)))))))))))))) (by kernel_rfl) (by kernel_rfl) (fun _ _ d _ _ h=>h) ⟨c0,c1⟩ (fun hS0=>?_)
         iterate 6
          refine q00 (v:=?_) rfl (by rfl) ?_ ?_;rotate_left
          ·intro w p4;go_simp;with_reducible rfl
          simp only[Act.put,sa,sb,sc]
         obtain⟨wd,j3⟩:=yx (wr.drew);have j4:Hid (Below wr.heap.size wr wd):=vv (by rw[j3];exact q04 (Below.refl _ _));rw[<- j3] at hS0 ⊢;clear j3 c0 c1 cl;refine q06 rfl (by rfl) (fun K hK=>?_);go_simp;rw[H6.o.1];refine(qci E F (txt tk.1) mode wd (b6.o.1.below ((a7.o.trans (a8.o.mono a7.o.size)).trans (j4.o.mono (Nat.le_trans a7.o.size a8.o.size)))) (b6.o.2.below ((a7.o.trans (a8.o.mono a7.o.size)).trans (j4.o.mono (Nat.le_trans a7.o.size a8.o.size))))).mono ?_;rw[<- HO.o];rintro e wb ⟨v,rfl,hE,m6⟩;have e7:=vn j4 m6;have hF:=HF.o.below e7.o;refine hK.out _ _ ⟨hF.cell 0,hF.cell 1⟩ (fun e8=>?_);clear hK hS0 hF m6
         iterate 7
          refine q00 (v:=?_) rfl (by rfl) ?_ ?_;rotate_left
          ·intro w p4;go_simp;with_reducible rfl
          simp only[Act.put,sa,sb,sc]
         refine q0J rfl ?_;clear e8;simp only[qch];have b0:wb.cell? ⟨q,k*5,none⟩=some (.int .u64 (O.1:Int)):=(e7.o.cell (p:=⟨q,k*5,none⟩) j1).trans j2.o.1;have b1:wb.cell? ⟨q,k*5+1,none⟩=some (.int .u8 (O.2.1:Int)):=(e7.o.cell (p:=⟨q,k*5+1,none⟩) j1).trans j2.o.2.1;have b2:wb.cell? ⟨q,k*5+2,none⟩=some (.int .i64 O.2.2.1):=(e7.o.cell (p:=⟨q,k*5+2,none⟩) j1).trans j2.o.2.2;obtain⟨cd,m7⟩:=yx (O.2.2.1);rw[<- m7] at b2 hE;clear a3 a4 m7;rcases hE with ⟨rfl,rfl⟩|⟨m8,gw,gf,rfl,-⟩;all_goals have p5:Hid (∀m,Below W.heap.size W (wb.drewN m)):=vv fun m=>(a8.o.trans (e7.o.mono a8.o.size)).trans ⟨rfl,rfl,rfl,lr,fun _ _=>rfl⟩
         rotate_left;have q3:(cd==0)=false:=by simpa using m8
         clear m8;rotate_left;all_goals
          go_wp2_with fail
          go_quiet (fail)
          have p6:=vv (p5.o nq);go_wp2;go_roundw
          case rel=>exact⟨i,k+1,by omega,by omega,rfl,by go_num,H6.o.2,p6.o⟩
          case measure=>simp [intOf];omega
    ·obtain rfl:k=xs.length:=by omega
     have d3:=e5.o;rw[List.drop_length] at d3;have p7:=vv (q7w d3);have q4:(p:Int)<=(s.size:Int):=by omega
     clear d3 hk hkl;go_wp2;go_loop [24] (fun t=>∃j:Nat,p<=j/\j<=s.size/\t=.int .i64 (j:Int)) (fun t=>s.size-(intOf t).toNat)
     case atStart=>exact⟨p,lr,hp,rfl⟩
     case round =>
      obtain⟨j,e6,hj,rfl⟩:=hrel;by_cases hjs:j<s.size
      ·have c5:=vv (parts sep s[j].toNat wr (UInt8.toNat_lt _) hsp);rw[p7.o j hjs e6] at c5;go_wp2_with fail
       refine c5.o.mono ?_;rintro e w' ⟨rfl,rfl⟩;go_wp2;go_round
       case rel=>exact⟨j+1,by omega,by omega,by go_num⟩
       case measure=>simp [intOf];omega
      ·obtain rfl:j=s.size:=by omega
       clear hj hjs e6;have m9:=vv ((a8.o.block D (Array.getElem?_eq_some_iff.1 HK.o).1).trans HK.o);go_wp2;refine⟨by simp,.inl ⟨_,_,rfl,run_takeDeferred m9.o,?_⟩⟩;exact⟨_,results_tmp rfl _ _ _,rfl,(b5.o.trans ((a7.o.trans (a8.o.mono a7.o.size)).mono b5.o.size)).trans (q1v _ m9.o (by have:=HD.o;have:=d9.o;have:=b7.o.size;have:=b5.o.size;omega))⟩
 ·intro D c pre W hD hp h;exact h.elim
end Go.Proofs.YtcdimmblnbkjjaaGreatDoor.Str
