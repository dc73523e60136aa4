/- Lemmas. -/
import Derived.LoopNIn
import Derived.LoopIn
import Derived.OwnWalkIn
import Derived.Test.YthopehoklmgphaaGreatDoorPartBU
set_option linter.all false
set_option maxRecDepth 100000
open Go.Proofs.Tryz
open Option renaming none->qa,some->qd
open Go renaming World.grownBy.refl->qb,World->qe
open Decidable renaming decide->qc
namespace Go.Proofs.YthopehoklmgphaaGreatDoor
variable{w:qe}{g mode a:Nat}{E F:Int}{seps:ByteArray}
namespace Str
open Go Go.RowKit R5 Scn Hx Rdx
def q0f(s:ByteArray):List Nat:=s.data.toList.map (·.toNat)
structure Rdr(w:qe)(g:Nat)(E F:Int)(mode:Nat)(seps:ByteArray)(a:Nat)(tk:Option Tk):Prop where
 blk:∃T,Blk w g 35 (q3q E F mode seps a T false true)/\q9S w g T tk
 ok:∀t,tk=qd t->qe1 seps a t
attribute [local go_sem] q3P q24 q23
set_option maxHeartbeats 16000000 in
theorem qe9(M:Nat->Prop)(w00:qe)(hg0:Bg w00)(ht0:qfF w00)(g S R l mode a0:Nat)(E F:Int)(seps s:ByteArray)(tk0:Option Tk)(J Jx:List Tk->qe->Prop)
  (hsz:s.size<=140737488351232) (ha:a0+s.size<=140737488351232) (hM0:∀k,M k->w00.heap.size<=k) (hMS:∀k,S<k->g<k->M k)
  (hJ:∀pre W W',J pre W->Kq M W W'->J pre W')
  (hY:∀pre (t:Tk) W,J pre W->pre++[t] <+: (q10 seps a0 tk0 (q0f s)).2->YieldAt Fence.wide 0 Tryz.prog l #[.agg (q1i E F mode t.1 t.2).toArray] W fun e W'=>(e=.returned (.bool true)/\J (pre++[t]) W'/\Kb w00.heap.size W W')\/(e=.returned (.bool false)/\Jx (pre++[t]) W'))
  (w:qe) (hw:Below w00.heap.size w00 w) (hS:Blk w S 9 [.string s]) (hR:Blk w R 26 [.pointer (qd ⟨g,0,qa⟩)])
  (hr:RdQ w M g E F mode seps a0 tk0) (h0:J [] w) :
  Calls Tryz.prog 32 #[.func (.yield l) #[] #[],.pointer (qd ⟨S,0,qa⟩),.pointer (qd ⟨R,0,qa⟩)] w fun e w' =>(∃v,e=.returned v)/\((J (q10 seps a0 tk0 (q0f s)).2 w'/\RdQ w' M g E F mode seps (a0+s.size) (q10 seps a0 tk0 (q0f s)).1/\Below w00.heap.size w00 w')\/∃pre,pre <+: (q10 seps a0 tk0 (q0f s)).2/\Jx pre w'):=by
 obtain⟨i0,i3,i4,i5,i6⟩:=info_parts q7X;have e8:=vv (And.intro hg0 ht0);have H:=vv hr.own;have e0:=vv hMS;have c6:=vv hM0;have HJ:=vv hJ;have HY:=vv hY;have HS:=vv hS;have HR:=vv hR;have c0:=hS.cell 0;have cl:=hS.lt;simp only[k07] at c0;have H0:=vv (And.intro hw (And.intro hr h0));have k3:(s.size:Int)<=140737488351232:=by omega
 clear hJ hY hS hR hw hr h0 hg0 ht0 hMS hM0;go_enter func32,ntmps32;go_wp2;go_loopw [10] (fun i wr=>∃k:Nat,k<=s.size/\i=.int .i64 (k:Int)/\Below w00.heap.size w00 wr/\Blk wr S 9 [.string s]/\Blk wr R 26 [.pointer (qd ⟨g,0,qa⟩)] /\RdQ wr M g E F mode seps (a0+k) (q10 seps a0 tk0 ((q0f s).take k)).1/\J (q10 seps a0 tk0 ((q0f s).take k)).2 wr) (fun i _=>s.size-(intOf i).toNat)
 case atStart=>exact⟨0,k0d _,rfl,H0.o.1,HS.o,HR.o,H0.o.2.1,H0.o.2.2⟩
 case round =>
  obtain⟨k,hk,rfl,hb,hS,hR,hr,hj⟩:=hrel;have b6:=vv hj;have a6:=vv hb;have c7:=vv hS;have D:=vv hR;have b4:=vv hr;clear hb hS hR hr hj c0 cl;by_cases hks:k<s.size
  ·obtain⟨c,hc⟩:=yx (s[k].toNat);have a5:c<256:=by rw[hc];exact k1q _
   have e9:(q0f s).take (k+1)=(q0f s).take k++[c]:=by rw[k0E (by simpa [q0f] using hks),hc];simp [q0f];rfl
   have b9:((q0f s).take k).length=k:=by rw[k0l];simp [q0f];omega
   have c8:=q5O seps ((q0f s).take k) c a0 tk0;rw[<- e9,b9] at c8;obtain⟨X,hX⟩:=yx (q10 seps a0 tk0 ((q0f s).take k));rw[<- hX] at c8 b6 b4;obtain⟨i,hi⟩:=yx (Lib.indexByte seps.data.toList c.toUInt8);have z:q7m seps c=qc (0<=i):=by rw[hi];rfl
   have O:=vv fun w=>Tryz.strings_IndexByte seps (c:Int) w
   rw[k20,<- hi] at O;obtain⟨T,a2,a4⟩:=b4.o.blk;have u:=vv a2;have a7:=vv c8;have s0:=c7.o.cell 0;have sl:=c7.o.lt;have P:=D.o.cell 0;have rl:=D.o.lt;simp only[k07] at s0 P;have gl:=a2.lt;obtain⟨-,-,-,q3,q4,q5,-,-⟩:=q4D a2;have f4:=a2.fz 4;have k4:((a0+k:Nat):Int)<=140737488351232:=by omega
   have Q:=vv hc;have b3:Hid (∀(W':qe) (T':Option Addr),Kq M wr W'->Blk W' g 35 (q3q E F mode seps (a0+k+1) T' false true)->TkQ W' M T' (q1e seps (a0+k) X.1 c).1->(q1e seps (a0+k) X.1 c).2=[] ->Below w00.heap.size w00 W'/\Blk W' S 9 [.string s]/\Blk W' R 26 [.pointer (qd ⟨g,0,qa⟩)]/\RdQ W' M g E F mode seps (a0+(k+1)) (q10 seps a0 tk0 ((q0f s).take (k+1))).1/\J (q10 seps a0 tk0 ((q0f s).take (k+1))).2 W'):=vv (by
    intro W' T' m hB hT hE;refine⟨a6.o.trans (m.low c6.o a6.o.size),m.blk c7.o (by unfold RT;decide),m.blk D.o (by unfold RT;decide),⟨⟨T',hB,?_⟩,H.o,?_⟩,?_⟩
    ·rw[a7.o];exact hT
    ·rw[a7.o];exact qai seps (a0+k) X.1 c a5 b4.o.ok
    ·rw[a7.o];dsimp only;rw[hE,k23];exact HJ.o _ _ _ b6.o m)
   clear hX hi e9 b9 c8 a2 a5;cases hX1:X.1 with
   | none =>
    rw[hX1] at a4;obtain rfl:T=qa:=a4;by_cases hi0:0<=i
    ·rw[k03 hi0] at z;have a8:=vv z;have a9:=vv hX1;clear z hX1;rw[Q.o] at O;have G:q1e seps (a0+k) X.1 c=(qa,[]):=by unfold q1e;rw[if_pos (by rw[a8.o]),a9.o];rfl
     have r:=vv G;clear G;have HG:Hid (Kq M wr (wr.setCell ⟨g,4,qa⟩ (.int .i64 ((a0:Int)+(k:Int)+1)))):=vv (Kq.grown (q09 (qb wr (qd g)) (p:=⟨g,4,qa⟩) (.inl rfl) _) H.o u.o (.inl rfl));have b7:Hid (Blk (wr.setCell ⟨g,4,qa⟩ (.int .i64 ((a0:Int)+(k:Int)+1))) g 35 (q3q E F mode seps (a0+k+1) qa false true)):=vv (u.o.set 4 (.int .i64 ((a0:Int)+(k:Int)+1)));go_wp2_with fail;refine(O.o _).mono ?_;rintro e w' ⟨rfl,rfl⟩;go_wp2;go_roundw
     case rel =>obtain⟨z1,z2,z3,z4,z5⟩:=b3.o _ qa HG.o b7.o (by rw[r.o];rfl) (by rw[r.o]);exact⟨k+1,by omega,by go_num,z1,z2,z3,z4,z5⟩
     case measure=>simp [intOf];omega
    ·rw[k00 hi0] at z;have a8:=vv z;have a9:=vv hX1;clear z hX1;rw[Q.o] at O;have G:q1e seps (a0+k) X.1 c=(qd ([c],a0+k),[]):=by unfold q1e;rw[if_neg (by rw[a8.o];decide),a9.o]
     have r:=vv G;clear G;go_wp2_with fail;refine(O.o _).mono ?_;rintro e w' ⟨rfl,rfl⟩;go_wp2_with fail;have q4:=(q4D u.o).c4;refine q02 (fun w'=>w'.cell? ⟨R,0,qa⟩=qd (.pointer (qd ⟨g,0,qa⟩))/\w'.cell? ⟨g,4,qa⟩=qd (.int .i64 ((a0+k:Nat):Int))) 9
      (.still 0 (.still 1 (.still 3 (.still 4 (.still 5 (.still 6 (.one 2 (.still 7 (.one 8 .done))))))))) (by kernel_rfl) (by kernel_rfl) (fun _ _ d _ _ h=>by cases d<;>exact h) ⟨P,q4⟩ (fun hS0=>?_)
     iterate 6
      refine q01 (v:=?_) rfl (by rfl) ?_ ?_;rotate_left
      ·intro w f1;go_simp;with_reducible rfl
      simp only[Act.put,sa,sb,sc]
     obtain⟨U,b1⟩:=yx (w'.drew);have V:Hid (Below w'.heap.size w' U):=vv (by rw[b1];exact q07 (Below.refl _ _));rw[<- b1] at hS0 ⊢;clear b1 P q4 s0 f4;refine q04 rfl (by rfl) (fun K m=>?_);go_simp;obtain⟨p,hp⟩:=yx (U.heap.size);obtain⟨we,c9⟩:=yx (U.alloc (.cells #[.int .u8 ((s[k].toNat:Nat):Int)] 5));have a:Hid (Below w'.heap.size w' we):=vv (by rw[c9];exact V.o.alloc V.o.size _);have HP:Hid (Blk we p 5 [.int .u8 ((s[k].toNat:Nat):Int)]):=vv (by rw[c9,hp];exact Blk.made U _ _);have i7:Hid (g<p):=vv (by rw[hp];exact k01 gl V.o.size);have i8:Hid (M p):=vv (by rw[hp];exact e0.o _ (k01 sl V.o.size) (k01 gl V.o.size));rw[<- c9,<- hp];clear c9 hp;refine m.out _ _ ⟨(D.o.below a.o).cell 0,(q4D (u.o.below a.o)).c4⟩ (fun a1=>?_);clear m hS0
     iterate 1
      refine q01 (v:=?_) rfl (by rfl) ?_ ?_;rotate_left
      ·intro w f1;go_simp;with_reducible rfl
      simp only[Act.put,sa,sb,sc]
     refine q04 rfl (by rfl) (fun K m=>?_);go_simp;obtain⟨q,y⟩:=yx (we.heap.size);obtain⟨wf,b8⟩:=yx (we.alloc (.cells #[.slice (qd ⟨p,0,qa⟩) 1 1,.int .i64 ((a0:Int)+(k:Int))] 58));have HF:Hid (Below w'.heap.size w' wf):=vv (by rw[b8];exact a.o.alloc a.o.size _);have d0:Hid (Blk wf p 5 [.int .u8 ((s[k].toNat:Nat):Int)]):=vv (by rw[b8];exact HP.o.alloc _);have i9:Hid (Blk wf q 58 [.slice (qd ⟨p,0,qa⟩) 1 1,.int .i64 ((a0:Int)+(k:Int))]):=vv (by rw[b8,y];exact Blk.made we _ _);have j0:Hid (g<q):=vv (by rw[y];exact k01 gl a.o.size);have j1:Hid (M q):=vv (by rw[y];exact e0.o _ (k01 sl a.o.size) (k01 gl a.o.size));rw[<- b8,<- y];clear b8 y;refine m.out _ _ ⟨(D.o.below HF.o).cell 0,(q4D (u.o.below HF.o)).c4⟩ (fun a1=>?_);clear m a1;refine q0a ?_;simp only[k0P,k0L];have b2:=vv (u.o.below HF.o);have q4:=(q4D b2.o).c4;have q5:=(q4D b2.o).c5;have f4:=b2.o.fz 4;have f5:=b2.o.fz 5;have gf:=b2.o.lt;have P:=(D.o.below HF.o).cell 0;have k5:=(D.o.below HF.o).lt;simp only[k07] at P;have k6:R≠g:=q4q D.o u.o (by decide);have C:=q09 (qb wf (qd g)) (p:=⟨g,5,qa⟩) (.inl rfl) (.pointer (qd ⟨q,0,qa⟩));have Y:=q09 C (p:=⟨g,4,qa⟩) (.inl rfl) (.int .i64 ((a0:Int)+(k:Int)+1));have HG:=vv ((Kq.below (M:=M) HF.o).trans (Kq.grown Y H.o b2.o (.inl rfl)));have b7:Hid (Blk _ g 35 (q3q E F mode seps (a0+k+1) (qd ⟨q,0,qa⟩) false true)):=vv ((b2.o.set 5 (.pointer (qd ⟨q,0,qa⟩))).set 4 (.int .i64 ((a0:Int)+(k:Int)+1)));have j2:=vv (d0.o.grown Y (fun e=>by injection e with e;have:=i7.o;omega));have j3:=vv (i9.o.grown Y (fun e=>by injection e with e;have:=j0.o;omega));clear C Y;go_wp2;go_roundw
     case rel =>
      obtain⟨z1,z2,z3,z4,z5⟩:=b3.o _ (qd ⟨q,0,qa⟩) HG.o b7.o (by
       rw[r.o];refine⟨q,_,rfl,j1.o,j3.o,⟨by simp [u8s],.inr ⟨p,1,_,rfl,k0d _,j2.o,by simp,by decide,by simp,?_⟩⟩,(fun x hx=>by injection hx with hx;exact hx ▸ i8.o),by simp,?_⟩
       ·rw[Q.o];simp [u8s]
       ·intro x hx;rw[k0j.1 hx,Q.o];exact k1q _) (by rw[r.o])
      exact⟨k+1,by omega,by go_num,z1,z2,z3,z4,z5⟩
     case measure=>simp [intOf];omega
   | some tk =>
    obtain⟨L,f⟩:=tk;rw[hX1] at a4;have f2:=b4.o.ok (L,f) hX1;have k7:L.length<=140737488351232:=by have:=f2.2.1;dsimp only at this;omega
    obtain⟨b,v,rfl,f3,d1,c1,f6,f7,hL⟩:=a4;have d2:=vv d1;have e1:=vv c1;have d3:=vv (And.intro f3 (And.intro f7 hL));have bl:=d1.lt;have b0:=d1.cell 0;simp only[k07] at b0;have f8:=vv f6;clear f2 d1 c1 f3 f7 hL f6;by_cases hi0:0<=i
    ·rw[k03 hi0] at z;have a8:=vv z;have a9:=vv hX1;clear z hX1;rw[Q.o] at O;have G:q1e seps (a0+k) X.1 c=(qa,[(L,f)]):=by unfold q1e;rw[if_pos (by rw[a8.o]),a9.o];rfl
     have r:=vv G;clear G;have d4:b≠g:=(q4q u.o d2.o (by decide)).symm;have C:=q09 (qb wr (qd g)) (p:=⟨g,4,qa⟩) (.inl rfl) (.int .i64 ((a0:Int)+(k:Int)+1));have e3:Blk _ g 35 (q3q E F mode seps (a0+k+1) (qd ⟨b,0,qa⟩) false true):=u.o.set 4 (.int .i64 ((a0:Int)+(k:Int)+1));have f9:=d2.o.grown C (fun e=>d4.symm (by injection e));have g0:=e1.o.kept C (.inr (q3Z u.o e1.o (by decide)));have j4:=vv (qdZ w00 e8.o.1 e8.o.2 g b 0 (a0+k+1) f mode E F seps false L v _ (q0h a6.o C a6.o.size (c6.o g H.o)) (c6.o g H.o) e3 f9 g0 d3.o.2.2);have HG:=vv (Kq.grown C H.o u.o (.inl rfl));have j5:=vv e3;clear C e3 f9 g0;have d0:Hid (X.2++[(L,f)] <+: (q10 seps a0 tk0 (q0f s)).2):=vv (by have e:=q2e seps ((q0f s).take (k+1)) ((q0f s).drop (k+1)) a0 tk0;rw[k2h] at e;rw[e,a7.o,r.o];exact⟨_,rfl⟩);refine(wpIn_wide (n:=0)).1 ?_
     gi_wp2_with fail
     refine(callsIn_wide.2 (O.o _)).mono ?_;rintro e w' ⟨rfl,rfl⟩
     gi_wp2_with fail
     refine(callsIn_wide.2 j4.o).mono ?_;rintro e w2 ⟨rfl,g1,g2⟩;have j6:=vv g1;have d5:=vv (HG.o.trans (Kq.grown g2 H.o j5.o (.inl rfl)));clear g1 g2;obtain⟨fn,tmps,assign,body,hy,e4⟩:=HY.o X.2 (L,f) w2 (HJ.o _ _ _ b6.o d5.o) d0.o
     gi_wp2_with fail
     refine e4.mono ?_;rintro e w3 (⟨rfl,g3,g4⟩|⟨rfl,g5⟩)
     ·have j7:=vv g3;have d6:=vv g4;clear g3 g4 hy e4
      gi_wp2
      go_roundw
      case rel =>
       refine⟨k+1,by omega,by go_num,(a6.o.trans (d5.o.low c6.o a6.o.size)).trans d6.o.low,d6.o.blk (d5.o.blk c7.o (by unfold RT;decide)) (.inr (.inr (.inl rfl))),d6.o.blk (d5.o.blk D.o (by unfold RT;decide)) (.inr (.inl rfl)),⟨⟨qa,d6.o.blk j6.o (.inl (.inl rfl)),?_⟩,H.o,?_⟩,?_⟩
       ·rw[a7.o,r.o];rfl
       ·rw[a7.o,r.o];intro t ht;cases ht
       ·rw[a7.o,r.o];exact j7.o
      case measure=>simp [intOf];omega
     ·clear hy e4;have j8:=vv g5;clear g5
      gi_wp2
      refine bodyPost_ret (results_none rfl _ _ _) rfl ?_;exact⟨⟨_,rfl⟩,.inr ⟨_,d0.o,j8.o⟩⟩
    ·rw[k00 hi0] at z;have a8:=vv z;have a9:=vv hX1;clear z hX1;rw[Q.o] at O;have G:q1e seps (a0+k) X.1 c=(qd (L++[c],f),[]):=by unfold q1e;rw[if_neg (by rw[a8.o];decide),a9.o]
     have r:=vv G;clear G;go_wp2_with fail;refine(O.o _).mono ?_;rintro e w' ⟨rfl,rfl⟩;go_wp2_with fail;refine q02 (fun w'=>w'.cell? ⟨R,0,qa⟩=qd (.pointer (qd ⟨g,0,qa⟩))/\w'.cell? ⟨g,5,qa⟩=qd (.pointer (qd ⟨b,0,qa⟩))/\w'.cell? ⟨b,0,qa⟩=qd v) 14
      (.still 0 (.still 1 (.still 2 (.still 3 (.still 4 (.still 5 (.still 6 (.still 7 (.still 8 (.still 9 (.still 10 (.still 11 (.one 12 (.one 13 .done)))))))))))))) (by kernel_rfl) (by kernel_rfl) (fun _ _ d _ _ h=>by cases d<;>exact h) ⟨P,q5,b0⟩ (fun hS0=>?_)
     iterate 12
      refine q01 (v:=?_) rfl (by rfl) ?_ ?_;rotate_left
      ·intro w f1;go_simp;with_reducible rfl
      simp only[Act.put,sa,sb,sc]
     obtain⟨U,b1⟩:=yx (w'.drew);have V:Hid (Below w'.heap.size w' U):=vv (by rw[b1];exact q07 (Below.refl _ _));rw[<- b1] at hS0 ⊢;clear b1 P q5 b0 s0 f4;refine q04 rfl (by rfl) (fun K m=>?_);go_simp;have a:Hid (Below w'.heap.size w' (U.alloc (.cells #[.int .u8 ((s[k].toNat:Nat):Int)] 5))):=vv (V.o.alloc V.o.size _);refine m.out _ _ ⟨(D.o.below a.o).cell 0,(q4D (u.o.below a.o)).c5,(d2.o.below a.o).cell 0⟩ (fun a1=>?_);clear m hS0;refine q04 rfl (by rfl) (fun K m=>?_);have e5:=q0A e1.o (fun q _ y=>a.o.block q y);have d7:=vv e5;have g6:=vv (u.o.below a.o);have g7:=vv (d2.o.below a.o);have g8:=vv (D.o.below a.o);refine q3z (.tmp 65) (.tmp 67) 56 rfl 0 5 i0 (.int .u8 0) 1 1 underlying56 i3 i4 i5 i6 rfl (by decide) v L.length (u8s L) rfl e5 ⟨U.heap.size,0,qa⟩ 1 1 [.int .u8 ((s[k].toNat:Nat):Int)] rfl rfl (cell_one_new _ _ _) (by simp [Value.oneCell']) (by unfold maxLen;omega) (by omega) (k0d _) (fun v2 w5 a3 I c3=>?_);obtain⟨Z,c2,rfl⟩:∃Z c2,v2=.slice Z (L.length+1) c2:=by
      rcases a3.2 with ⟨-,h0⟩|⟨q,cap,g9,e,-⟩
      ·omega
      ·exact⟨_,_,e⟩
     have d8:=vv (g8.o.grown I (q3Z g8.o d7.o (by decide)));have b5:=vv (g6.o.grown I (q3Z g6.o d7.o (by decide)));have N:=vv (g7.o.grown I (q3Z g7.o d7.o (by decide)));have j9:Hid (Kq M w' w5):=vv ((Kq.below (M:=M) a.o).trans ⟨I.os,I.tape,I.output,I.size,fun j hj=>by
      by_cases e:v.ownBlock=qd j
      ·right;rcases d7.o.2 with ⟨h1,-⟩|⟨q,cap,g9,h1,h2,h3,-⟩
       ·rw[h1] at e;cases e
       ·rw[h1] at e;have e2:q=j:=by injection e
        subst e2;exact⟨f8.o _ (by rw[h1];rfl),g9,_,h3,.inr (.inr rfl)⟩
      ·exact .inl (I.block j hj (fun e'=>e e'.symm))⟩)
     have i1:=vv a3;have k0:Hid (∀q,(Value.slice Z (L.length+1) c2).ownBlock=qd q->M q):=vv (fun q y=>by
      rcases c3 with e|e
      ·exact f8.o q (e ▸ y)
      ·rw[e] at y;injection y with y;rw[<- y];exact e0.o _ (k01 sl a.o.size) (k01 gl a.o.size))
     clear a3 I e5 c3;refine m.out _ _ ⟨d8.o.cell 0,(q4D b5.o).c5,N.o.cell 0⟩ (fun a1=>?_);clear m a1;refine q0a ?_;simp only[k0P,k0L];have d4:b≠g:=(q4q b5.o N.o (by decide)).symm;have C:=q09 (qb w5 (qd b)) (p:=⟨b,0,qa⟩) (.inl rfl) (.slice Z (L.length+1) c2);have d9:=b5.o.other (p:=⟨b,0,qa⟩) d4 (.slice Z (L.length+1) c2);have i2:=N.o.set 0 (.slice Z (L.length+1) c2);have e6:=i1.o.kept C (.inr (q3Z N.o i1.o (by decide)));have Y:=q09 (qb (w5.setCell ⟨b,0,qa⟩ (.slice Z (L.length+1) c2)) (qd g)) (p:=⟨g,4,qa⟩) (.inl rfl) (.int .i64 ((a0:Int)+(k:Int)+1));have HG:=vv ((j9.o.trans (Kq.grown C d3.o.1 N.o (.inr (.inl rfl)))).trans (Kq.grown Y H.o d9 (.inl rfl)));have b7:Hid (Blk _ g 35 (q3q E F mode seps (a0+k+1) (qd ⟨b,0,qa⟩) false true)):=vv (d9.set 4 (.int .i64 ((a0:Int)+(k:Int)+1)));have k1:=vv (i2.other (p:=⟨g,4,qa⟩) d4.symm (.int .i64 ((a0:Int)+(k:Int)+1)));have k2:=vv (e6.kept Y (.inr (q3Z d9 e6 (by decide))));have q4:=(q4D b5.o).c4;have f4:=b5.o.fz 4;have f0:=N.o.fz 0;have b0:=N.o.cell 0;have P:=d8.o.cell 0;simp only[k07] at P b0;have k8:=b5.o.lt;have k9:=N.o.lt;have l0:=d8.o.lt;have l1:b≠R:=(q4q d8.o N.o (by decide)).symm;clear C Y d9 i2 e6;go_wp2;go_roundw
     case rel =>
      obtain⟨z1,z2,z3,z4,z5⟩:=b3.o _ (qd ⟨b,0,qa⟩) HG.o b7.o (by
       rw[r.o];refine⟨b,(.slice Z (L.length+1) c2),rfl,d3.o.1,k1.o,?_,k0.o,by simp,?_⟩
       ·have e:=k2.o;rw[show u8s (L++[c])=u8s L++[.int .u8 ((s[k].toNat:Nat):Int)] by rw[Q.o];simp [u8s],k0p];exact e
       ·intro x hx;rcases k1L.1 hx with hx|hx
        ·exact d3.o.2.2 x hx
        ·rw[k0j.1 hx,Q.o];exact k1q _) (by rw[r.o])
      exact⟨k+1,by omega,by go_num,z1,z2,z3,z4,z5⟩
     case measure=>simp [intOf];omega
  ·have e7:k=s.size:=by omega
   subst e7;have e:=k0x (l:=q0f s) (i:=s.size) (by simp [q0f]);rw[e] at b4 b6;clear e hk hks;go_wp2;go_end0;exact⟨⟨_,rfl⟩,.inl ⟨b6.o,b4.o,a6.o⟩⟩
theorem Rdr.toQ{tk:Option Tk}(h:Rdr w g E F mode seps a tk):RdQ w (fun k=>g<=k) g E F mode seps a tk:=by
 obtain⟨⟨T,d,c⟩,e⟩:=h;refine⟨⟨T,d,?_⟩,lr,e⟩
 match tk,c with
 | none,c=>exact c
 | some (L,f),⟨b,v,e1,e2,e3,e4,e5,e6⟩=>exact⟨b,v,e1,e2,e3,⟨e4.1,e4.2.imp id fun⟨q,cap,cur,x1,_,x3⟩=>⟨q,cap,cur,x1,k0d _,x3⟩⟩,fun q hq=>(e4.lt q hq).1,e5,e6⟩
theorem RdQ.toR{tk:Option Tk}(h:RdQ w (fun k=>g<=k) g E F mode seps a tk):Rdr w g E F mode seps a tk:=by
 obtain⟨⟨T,d,c⟩,-,e⟩:=h;refine⟨⟨T,d,?_⟩,e⟩
 match tk,c with
 | none,c=>exact c
 | some (L,f),⟨b,v,e1,e2,e3,e4,e7,e5,e6⟩=>exact⟨b,v,e1,e2,e3,⟨e4.1,e4.2.imp id fun⟨q,cap,cur,x1,_,x3⟩=>⟨q,cap,cur,x1,e7 q (by rw[x1];rfl),x3⟩⟩,e5,e6⟩
theorem Kq.toW{A B:qe}(h:Kq (fun k=>g<=k) A B):Kw g A B:=⟨h.os,h.tape,h.output,h.size,h.block⟩
end Str
end Go.Proofs.YthopehoklmgphaaGreatDoor
