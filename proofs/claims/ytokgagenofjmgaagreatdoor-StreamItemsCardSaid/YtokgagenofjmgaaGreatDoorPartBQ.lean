/- Lemmas. -/
import Derived.Test.YtokgagenofjmgaaGreatDoorPartBN
import Derived.RangeFuncBox
import Derived.LoopNIn
import Derived.LoopIn
import Derived.OwnWalkIn
set_option linter.all false
set_option maxRecDepth 100000
open Go.Proofs.Tryz
open Option renaming none->qa,some->qd
open Go renaming World.grownBy.refl->qb,World->qe
open Decidable renaming decide->qc
namespace Go.Proofs.YtokgagenofjmgaaGreatDoor
namespace Str
open Go Go.RowKit R5 Scn Hx Rdx
def q0h(s:ByteArray):List Nat:=s.data.toList.map (·.toNat)
structure Rdr(w:qe)(g:Nat)(E F:Int)(mode:Nat)(seps:ByteArray)(a:Nat)(tk:Option Tk):Prop where
 blk:∃T,Blk w g 52 (q4E E F mode seps a T false true)/\q9Z w g T tk
 ok:∀t,tk=qd t->qey seps a t
attribute [local go_sem] q3x q1P q1O
set_option maxHeartbeats 16000000 in
theorem qfj(w00:qe)(hg0:Bg w00)(ht0:q2B w00)(g S R l mode a0:Nat)(E F:Int)(seps s:ByteArray)(tk0:Option Tk)(J Jx:List Tk->qe->Prop)
  (hsz:s.size<=140737488351232) (ha:a0+s.size<=140737488351232) (hge:w00.heap.size<=g)
  (hJ:∀pre W W',J pre W->Kw g W W'->J pre W')
  (hY:∀pre (t:Tk) W,J pre W->pre++[t] <+: (q1e seps a0 tk0 (q0h s)).2->YieldAt Fence.wide 0 Tryz.prog l #[.agg (q1h E F mode t.1 t.2).toArray] W fun e W'=>(e=.returned (.bool true)/\J (pre++[t]) W'/\Kb w00.heap.size W W')\/(e=.returned (.bool false)/\Jx (pre++[t]) W'))
  (w:qe) (hw:Below w00.heap.size w00 w) (hS:Blk w S 9 [.string s]) (hR:Blk w R 35 [.pointer (qd ⟨g,0,qa⟩)])
  (hr:Rdr w g E F mode seps a0 tk0) (h0:J [] w) :
  Calls Tryz.prog 26 #[.func (.yield l) #[] #[],.pointer (qd ⟨S,0,qa⟩),.pointer (qd ⟨R,0,qa⟩)] w fun e w' =>(∃v,e=.returned v)/\((J (q1e seps a0 tk0 (q0h s)).2 w'/\Rdr w' g E F mode seps (a0+s.size) (q1e seps a0 tk0 (q0h s)).1/\Below w00.heap.size w00 w')\/∃pre,pre <+: (q1e seps a0 tk0 (q0h s)).2/\Jx pre w'):=by
 obtain⟨i0,g4,g5,g6,g7⟩:=info_parts q83;have e0:=vv (And.intro hg0 ht0);have HJ:=vv hJ;have HY:=vv hY;have HS:=vv hS;have HR:=vv hR;have c0:=hS.cell 0;have cl:=hS.lt;simp only[k04] at c0;have H0:=vv (And.intro hw (And.intro hr h0));have j0:(s.size:Int)<=140737488351232:=by omega
 clear hJ hY hS hR hw hr h0 hg0 ht0;go_enter func26,ntmps26;go_wp2;go_loopw [10] (fun i wr=>∃k:Nat,k<=s.size/\i=.int .i64 (k:Int)/\Below w00.heap.size w00 wr/\Blk wr S 9 [.string s]/\Blk wr R 35 [.pointer (qd ⟨g,0,qa⟩)] /\Rdr wr g E F mode seps (a0+k) (q1e seps a0 tk0 ((q0h s).take k)).1/\J (q1e seps a0 tk0 ((q0h s).take k)).2 wr) (fun i _=>s.size-(intOf i).toNat)
 case atStart=>exact⟨0,k0f _,rfl,H0.o.1,HS.o,HR.o,H0.o.2.1,H0.o.2.2⟩
 case round =>
  obtain⟨k,hk,rfl,hb,hS,hR,hr,hj⟩:=hrel;have a9:=vv hj;have b1:=vv hb;have b6:=vv hS;have C:=vv hR;have a7:=vv hr;clear hb hS hR hr hj c0 cl;by_cases hks:k<s.size
  ·obtain⟨c,hc⟩:=yx (s[k].toNat);have a5:c<256:=by rw[hc];exact k1q _
   have e1:(q0h s).take (k+1)=(q0h s).take k++[c]:=by rw[k0E (by simpa [q0h] using hks),hc];simp [q0h];rfl
   have b4:((q0h s).take k).length=k:=by rw[k0l];simp [q0h];omega
   have b7:=q5V seps ((q0h s).take k) c a0 tk0;rw[<- e1,b4] at b7;obtain⟨X,hX⟩:=yx (q1e seps a0 tk0 ((q0h s).take k));rw[<- hX] at b7 a9 a7;obtain⟨i,hi⟩:=yx (Lib.indexByte seps.data.toList c.toUInt8);have y:q7v seps c=qc (0<=i):=by rw[hi];rfl
   have I:=vv fun w=>Tryz.strings_IndexByte seps (c:Int) w
   rw[k23,<- hi] at I;obtain⟨T,a2,a4⟩:=a7.o.blk;have u:=vv a2;have Q:=vv b7;have s0:=b6.o.cell 0;have sl:=b6.o.lt;have M:=C.o.cell 0;have rl:=C.o.lt;simp only[k04] at s0 M;have gl:=a2.lt;obtain⟨-,-,-,q3,q4,q5,-,-⟩:=q5H a2;have f4:=a2.fz 4;have j1:((a0+k:Nat):Int)<=140737488351232:=by omega
   have N:=vv hc;have a6:Hid (∀(W':qe) (T':Option Addr),Kw g wr W'->Blk W' g 52 (q4E E F mode seps (a0+k+1) T' false true)->q9Z W' g T' (q1f seps (a0+k) X.1 c).1->(q1f seps (a0+k) X.1 c).2=[] ->Below w00.heap.size w00 W'/\Blk W' S 9 [.string s]/\Blk W' R 35 [.pointer (qd ⟨g,0,qa⟩)]/\Rdr W' g E F mode seps (a0+(k+1)) (q1e seps a0 tk0 ((q0h s).take (k+1))).1/\J (q1e seps a0 tk0 ((q0h s).take (k+1))).2 W'):=vv (by
    intro W' T' a hB hT hE;refine⟨b1.o.trans ((a.low (k14 gl)).mono hge),a.blk b6.o (by unfold RT;decide),a.blk C.o (by unfold RT;decide),⟨⟨T',hB,?_⟩,?_⟩,?_⟩
    ·rw[Q.o];exact hT
    ·rw[Q.o];exact qaq seps (a0+k) X.1 c a5 a7.o.ok
    ·rw[Q.o];dsimp only;rw[hE,k26];exact HJ.o _ _ _ a9.o a)
   clear hX hi e1 b4 b7 a2 a5;cases hX1:X.1 with
   | none =>
    rw[hX1] at a4;obtain rfl:T=qa:=a4;by_cases hi0:0<=i
    ·rw[k02 hi0] at y;have U:=vv y;have V:=vv hX1;clear y hX1;rw[N.o] at I;have D:q1f seps (a0+k) X.1 c=(qa,[]):=by unfold q1f;rw[if_pos (by rw[U.o]),V.o];rfl
     have r:=vv D;clear D;have HG:Hid (Kw g wr (wr.setCell ⟨g,4,qa⟩ (.int .i64 ((a0:Int)+(k:Int)+1)))):=vv (Kw.grown (q0b (qb wr (qd g)) (p:=⟨g,4,qa⟩) (.inl rfl) _) lr u.o (.inl rfl));have b2:Hid (Blk (wr.setCell ⟨g,4,qa⟩ (.int .i64 ((a0:Int)+(k:Int)+1))) g 52 (q4E E F mode seps (a0+k+1) qa false true)):=vv (u.o.set 4 (.int .i64 ((a0:Int)+(k:Int)+1)));go_wp2_with fail;refine(I.o _).mono ?_;rintro e w' ⟨rfl,rfl⟩;go_wp2;go_roundw
     case rel =>obtain⟨z1,z2,z3,z4,z5⟩:=a6.o _ qa HG.o b2.o (by rw[r.o];rfl) (by rw[r.o]);exact⟨k+1,by omega,by go_num,z1,z2,z3,z4,z5⟩
     case measure=>simp [intOf];omega
    ·rw[k00 hi0] at y;have U:=vv y;have V:=vv hX1;clear y hX1;rw[N.o] at I;have D:q1f seps (a0+k) X.1 c=(qd ([c],a0+k),[]):=by unfold q1f;rw[if_neg (by rw[U.o];decide),V.o]
     have r:=vv D;clear D;go_wp2_with fail;refine(I.o _).mono ?_;rintro e w' ⟨rfl,rfl⟩;go_wp2_with fail;have q4:=(q5H u.o).c4;refine q02 (fun w'=>w'.cell? ⟨R,0,qa⟩=qd (.pointer (qd ⟨g,0,qa⟩))/\w'.cell? ⟨g,4,qa⟩=qd (.int .i64 ((a0+k:Nat):Int))) 9
      (.still 0 (.still 1 (.still 3 (.still 4 (.still 5 (.still 6 (.one 2 (.still 7 (.one 8 .done))))))))) (by kernel_rfl) (by kernel_rfl) (fun _ _ d _ _ h=>by cases d<;>exact h) ⟨M,q4⟩ (fun hS0=>?_)
     iterate 6
      refine q01 (v:=?_) rfl (by rfl) ?_ ?_;rotate_left
      ·intro w e3;go_simp;with_reducible rfl
      simp only[Act.put,sa,sb,sc]
     obtain⟨O,Y⟩:=yx (w'.drew);have HD:Hid (Below w'.heap.size w' O):=vv (by rw[Y];exact q07 (Below.refl _ _));rw[<- Y] at hS0 ⊢;clear Y M q4 s0 f4;refine q04 rfl (by rfl) (fun K a=>?_);go_simp;obtain⟨p,hp⟩:=yx (O.heap.size);obtain⟨we,b8⟩:=yx (O.alloc (.cells #[.int .u8 ((s[k].toNat:Nat):Int)] 5));have m:Hid (Below w'.heap.size w' we):=vv (by rw[b8];exact HD.o.alloc HD.o.size _);have HP:Hid (Blk we p 5 [.int .u8 ((s[k].toNat:Nat):Int)]):=vv (by rw[b8,hp];exact Blk.made O _ _);have e4:Hid (g<p):=vv (by rw[hp];exact k03 gl HD.o.size);rw[<- b8,<- hp];clear b8 hp;refine a.out _ _ ⟨(C.o.below m.o).cell 0,(q5H (u.o.below m.o)).c4⟩ (fun a1=>?_);clear a hS0
     iterate 1
      refine q01 (v:=?_) rfl (by rfl) ?_ ?_;rotate_left
      ·intro w e3;go_simp;with_reducible rfl
      simp only[Act.put,sa,sb,sc]
     refine q04 rfl (by rfl) (fun K a=>?_);go_simp;obtain⟨q,hq⟩:=yx (we.heap.size);obtain⟨wf,b3⟩:=yx (we.alloc (.cells #[.slice (qd ⟨p,0,qa⟩) 1 1,.int .i64 ((a0:Int)+(k:Int))] 56));have HF:Hid (Below w'.heap.size w' wf):=vv (by rw[b3];exact m.o.alloc m.o.size _);have b9:Hid (Blk wf p 5 [.int .u8 ((s[k].toNat:Nat):Int)]):=vv (by rw[b3];exact HP.o.alloc _);have g8:Hid (Blk wf q 56 [.slice (qd ⟨p,0,qa⟩) 1 1,.int .i64 ((a0:Int)+(k:Int))]):=vv (by rw[b3,hq];exact Blk.made we _ _);have e5:Hid (g<q):=vv (by rw[hq];exact k03 gl m.o.size);rw[<- b3,<- hq];clear b3 hq;refine a.out _ _ ⟨(C.o.below HF.o).cell 0,(q5H (u.o.below HF.o)).c4⟩ (fun a1=>?_);clear a a1;refine q09 ?_;simp only[k13,k0N];have Z:=vv (u.o.below HF.o);have q4:=(q5H Z.o).c4;have q5:=(q5H Z.o).c5;have f4:=Z.o.fz 4;have f5:=Z.o.fz 5;have gf:=Z.o.lt;have M:=(C.o.below HF.o).cell 0;have j2:=(C.o.below HF.o).lt;simp only[k04] at M;have j3:R≠g:=q57 C.o u.o (by decide);have z:=q0b (qb wf (qd g)) (p:=⟨g,5,qa⟩) (.inl rfl) (.pointer (qd ⟨q,0,qa⟩));have P:=q0b z (p:=⟨g,4,qa⟩) (.inl rfl) (.int .i64 ((a0:Int)+(k:Int)+1));have HG:=vv ((Kw.below (g:=g) HF.o).trans (Kw.grown P lr Z.o (.inl rfl)));have b2:Hid (Blk _ g 52 (q4E E F mode seps (a0+k+1) (qd ⟨q,0,qa⟩) false true)):=vv ((Z.o.set 5 (.pointer (qd ⟨q,0,qa⟩))).set 4 (.int .i64 ((a0:Int)+(k:Int)+1)));have g9:=vv (b9.o.grown P (fun e=>by injection e with e;have:=e4.o;omega));have i1:=vv (g8.o.grown P (fun e=>by injection e with e;have:=e5.o;omega));clear z P;go_wp2;go_roundw
     case rel =>
      obtain⟨z1,z2,z3,z4,z5⟩:=a6.o _ (qd ⟨q,0,qa⟩) HG.o b2.o (by
       rw[r.o];refine⟨q,_,rfl,k14 e5.o,i1.o,⟨by simp [u8s],.inr ⟨p,1,_,rfl,k14 e4.o,g9.o,by simp,by decide,by simp,?_⟩⟩,by simp,?_⟩
       ·rw[N.o];simp [u8s]
       ·intro x hx;rw[k0i.1 hx,N.o];exact k1q _) (by rw[r.o])
      exact⟨k+1,by omega,by go_num,z1,z2,z3,z4,z5⟩
     case measure=>simp [intOf];omega
   | some tk =>
    obtain⟨L,f⟩:=tk;rw[hX1] at a4;have e6:=a7.o.ok (L,f) hX1;have j4:L.length<=140737488351232:=by have:=e6.2.1;dsimp only at this;omega
    obtain⟨b,v,rfl,e7,c1,b5,e8,hL⟩:=a4;have c3:=vv c1;have d3:=vv b5;have c6:=vv (And.intro e7 (And.intro e8 hL));have bl:=c1.lt;have b0:=c1.cell 0;simp only[k04] at b0;clear e6 c1 b5 e7 e8 hL;by_cases hi0:0<=i
    ·rw[k02 hi0] at y;have U:=vv y;have V:=vv hX1;clear y hX1;rw[N.o] at I;have D:q1f seps (a0+k) X.1 c=(qa,[(L,f)]):=by unfold q1f;rw[if_pos (by rw[U.o]),V.o];rfl
     have r:=vv D;clear D;have c7:b≠g:=(q57 u.o c3.o (by decide)).symm;have z:=q0b (qb wr (qd g)) (p:=⟨g,4,qa⟩) (.inl rfl) (.int .i64 ((a0:Int)+(k:Int)+1));have d4:Blk _ g 52 (q4E E F mode seps (a0+k+1) (qd ⟨b,0,qa⟩) false true):=u.o.set 4 (.int .i64 ((a0:Int)+(k:Int)+1));have e9:=c3.o.grown z (fun e=>c7.symm (by injection e));have f1:=d3.o.kept z (.inr (q4d u.o d3.o (by decide)));have i2:=vv (qec w00 e0.o.1 e0.o.2 g b g (a0+k+1) f mode E F seps false L v _ (q0g b1.o z b1.o.size hge) hge d4 e9 f1 c6.o.2.2);have HG:=vv (Kw.grown z lr u.o (.inl rfl));have i3:=vv d4;clear z d4 e9 f1;have b9:Hid (X.2++[(L,f)] <+: (q1e seps a0 tk0 (q0h s)).2):=vv (by have e:=q36 seps ((q0h s).take (k+1)) ((q0h s).drop (k+1)) a0 tk0;rw[k2g] at e;rw[e,Q.o,r.o];exact⟨_,rfl⟩);refine(wpIn_wide (n:=0)).1 ?_
     gi_wp2_with fail
     refine(callsIn_wide.2 (I.o _)).mono ?_;rintro e w' ⟨rfl,rfl⟩
     gi_wp2_with fail
     refine(callsIn_wide.2 i2.o).mono ?_;rintro e w2 ⟨rfl,f2,f3⟩;have i4:=vv f2;have c8:=vv (HG.o.trans (Kw.grown f3 lr i3.o (.inl rfl)));clear f2 f3;obtain⟨fn,tmps,assign,body,hy,d5⟩:=HY.o X.2 (L,f) w2 (HJ.o _ _ _ a9.o c8.o) b9.o
     gi_wp2_with fail
     refine d5.mono ?_;rintro e w3 (⟨rfl,f6,f7⟩|⟨rfl,f8⟩)
     ·have i5:=vv f6;have c9:=vv f7;clear f6 f7 hy d5
      gi_wp2
      go_roundw
      case rel =>
       refine⟨k+1,by omega,by go_num,(b1.o.trans ((c8.o.low (k14 gl)).mono hge)).trans c9.o.low,c9.o.blk (c8.o.blk b6.o (by unfold RT;decide)) (.inr (.inr (.inl rfl))),c9.o.blk (c8.o.blk C.o (by unfold RT;decide)) (.inr (.inl rfl)),⟨⟨qa,c9.o.blk i4.o (.inl (.inl rfl)),?_⟩,?_⟩,?_⟩
       ·rw[Q.o,r.o];rfl
       ·rw[Q.o,r.o];intro t ht;cases ht
       ·rw[Q.o,r.o];exact i5.o
      case measure=>simp [intOf];omega
     ·clear hy d5;have i6:=vv f8;clear f8
      gi_wp2
      refine bodyPost_ret (results_none rfl _ _ _) rfl ?_;exact⟨⟨_,rfl⟩,.inr ⟨_,b9.o,i6.o⟩⟩
    ·rw[k00 hi0] at y;have U:=vv y;have V:=vv hX1;clear y hX1;rw[N.o] at I;have D:q1f seps (a0+k) X.1 c=(qd (L++[c],f),[]):=by unfold q1f;rw[if_neg (by rw[U.o];decide),V.o]
     have r:=vv D;clear D;go_wp2_with fail;refine(I.o _).mono ?_;rintro e w' ⟨rfl,rfl⟩;go_wp2_with fail;refine q02 (fun w'=>w'.cell? ⟨R,0,qa⟩=qd (.pointer (qd ⟨g,0,qa⟩))/\w'.cell? ⟨g,5,qa⟩=qd (.pointer (qd ⟨b,0,qa⟩))/\w'.cell? ⟨b,0,qa⟩=qd v) 14
      (.still 0 (.still 1 (.still 2 (.still 3 (.still 4 (.still 5 (.still 6 (.still 7 (.still 8 (.still 9 (.still 10 (.still 11 (.one 12 (.one 13 .done)))))))))))))) (by kernel_rfl) (by kernel_rfl) (fun _ _ d _ _ h=>by cases d<;>exact h) ⟨M,q5,b0⟩ (fun hS0=>?_)
     iterate 12
      refine q01 (v:=?_) rfl (by rfl) ?_ ?_;rotate_left
      ·intro w e3;go_simp;with_reducible rfl
      simp only[Act.put,sa,sb,sc]
     obtain⟨O,Y⟩:=yx (w'.drew);have HD:Hid (Below w'.heap.size w' O):=vv (by rw[Y];exact q07 (Below.refl _ _));rw[<- Y] at hS0 ⊢;clear Y M q5 b0 s0 f4;refine q04 rfl (by rfl) (fun K a=>?_);go_simp;have m:Hid (Below w'.heap.size w' (O.alloc (.cells #[.int .u8 ((s[k].toNat:Nat):Int)] 5))):=vv (HD.o.alloc HD.o.size _);refine a.out _ _ ⟨(C.o.below m.o).cell 0,(q5H (u.o.below m.o)).c5,(c3.o.below m.o).cell 0⟩ (fun a1=>?_);clear a hS0;refine q04 rfl (by rfl) (fun K a=>?_);have d6:=q0z d3.o (fun q _ hq=>m.o.block q hq);have d0:=vv d6;have d7:=vv (u.o.below m.o);have f9:=vv (c3.o.below m.o);have g0:=vv (C.o.below m.o);refine wp_append_own _ (.tmp 65) (.tmp 67) 54 rfl g 5 i0 (.int .u8 0) 1 1 underlying54 g4 g5 g6 g7 rfl (by decide) v L.length (u8s L) rfl d6 ⟨O.heap.size,0,qa⟩ 1 1 [.int .u8 ((s[k].toNat:Nat):Int)] rfl rfl (cell_one_new _ _ _) (by simp [Value.oneCell']) (by unfold maxLen;omega) (by omega) (k14 d7.o.lt) (fun v2 w5 a3 G _=>?_);obtain⟨A2,c2,rfl⟩:∃A2 c2,v2=.slice A2 (L.length+1) c2:=by
      rcases a3.2 with ⟨-,h0⟩|⟨q,cap,g1,e,-⟩
      ·omega
      ·exact⟨_,_,e⟩
     have d1:=vv (g0.o.grown G (q4d g0.o d0.o (by decide)));have a8:=vv (d7.o.grown G (q4d d7.o d0.o (by decide)));have H:=vv (f9.o.grown G (q4d f9.o d0.o (by decide)));have i7:Hid (Kw g w' w5):=vv ((Kw.below (g:=g) m.o).trans ⟨G.os,G.tape,G.output,G.size,fun j hj=>by
      by_cases e:v.ownBlock=qd j
      ·right;rcases d0.o.2 with ⟨h1,-⟩|⟨q,cap,g1,h1,h2,h3,-⟩
       ·rw[h1] at e;cases e
       ·rw[h1] at e;have e2:q=j:=by injection e
        subst e2;exact⟨h2,g1,_,h3,.inr (.inr rfl)⟩
      ·exact .inl (G.block j hj (fun e'=>e e'.symm))⟩)
     have g2:=vv a3;clear a3 G d6;refine a.out _ _ ⟨d1.o.cell 0,(q5H a8.o).c5,H.o.cell 0⟩ (fun a1=>?_);clear a a1;refine q09 ?_;simp only[k13,k0N];have c7:b≠g:=(q57 a8.o H.o (by decide)).symm;have z:=q0b (qb w5 (qd b)) (p:=⟨b,0,qa⟩) (.inl rfl) (.slice A2 (L.length+1) c2);have d2:=a8.o.other (p:=⟨b,0,qa⟩) c7 (.slice A2 (L.length+1) c2);have g3:=H.o.set 0 (.slice A2 (L.length+1) c2);have d8:=g2.o.kept z (.inr (q4d H.o g2.o (by decide)));have P:=q0b (qb (w5.setCell ⟨b,0,qa⟩ (.slice A2 (L.length+1) c2)) (qd g)) (p:=⟨g,4,qa⟩) (.inl rfl) (.int .i64 ((a0:Int)+(k:Int)+1));have HG:=vv ((i7.o.trans (Kw.grown z c6.o.1 H.o (.inr (.inl rfl)))).trans (Kw.grown P lr d2 (.inl rfl)));have b2:Hid (Blk _ g 52 (q4E E F mode seps (a0+k+1) (qd ⟨b,0,qa⟩) false true)):=vv (d2.set 4 (.int .i64 ((a0:Int)+(k:Int)+1)));have i8:=vv (g3.other (p:=⟨g,4,qa⟩) c7.symm (.int .i64 ((a0:Int)+(k:Int)+1)));have i9:=vv (d8.kept P (.inr (q4d d2 d8 (by decide))));have q4:=(q5H a8.o).c4;have f4:=a8.o.fz 4;have f0:=H.o.fz 0;have b0:=H.o.cell 0;have M:=d1.o.cell 0;simp only[k04] at M b0;have j5:=a8.o.lt;have j6:=H.o.lt;have j7:=d1.o.lt;have j8:b≠R:=(q57 d1.o H.o (by decide)).symm;clear z P d2 g3 d8;go_wp2;go_roundw
     case rel =>
      obtain⟨z1,z2,z3,z4,z5⟩:=a6.o _ (qd ⟨b,0,qa⟩) HG.o b2.o (by
       rw[r.o];refine⟨b,(.slice A2 (L.length+1) c2),rfl,c6.o.1,i8.o,?_,by simp,?_⟩
       ·have e:=i9.o;rw[show u8s (L++[c])=u8s L++[.int .u8 ((s[k].toNat:Nat):Int)] by rw[N.o];simp [u8s],k0n];exact e
       ·intro x hx;rcases k1P.1 hx with hx|hx
        ·exact c6.o.2.2 x hx
        ·rw[k0i.1 hx,N.o];exact k1q _) (by rw[r.o])
      exact⟨k+1,by omega,by go_num,z1,z2,z3,z4,z5⟩
     case measure=>simp [intOf];omega
  ·have d9:k=s.size:=by omega
   subst d9;have e:=k0x (l:=q0h s) (i:=s.size) (by simp [q0h]);rw[e] at a7 a9;clear e hk hks;go_wp2;go_end0;exact⟨⟨_,rfl⟩,.inl ⟨a9.o,a7.o,b1.o⟩⟩
end Str
end Go.Proofs.YtokgagenofjmgaaGreatDoor
