/- Lemmas. -/
import Derived.Test.YtcdimmblnbkjjaaGreatDoorPartBK
import Derived.RangeFuncBox
import Derived.RangeFuncLeaves
import Derived.LoopNIn
import Derived.LoopIn
import Derived.OwnWalkIn
set_option linter.all false
set_option maxRecDepth 100000
namespace Go.Proofs.YtcdimmblnbkjjaaGreatDoor.Str
open Go Go.RowKit R5 Scn Hx Rdx
def q0b(s:ByteArray):List Nat:=s.data.toList.map (·.toNat)
structure Rdr(w:World)(g:Nat)(E F:Int)(mode:Nat)(seps:ByteArray)(a:Nat)(tk:Option Tk):Prop where
 blk:∃T,Blk w g 80 (q3A E F mode seps a T false true)/\q7C w g T tk
 ok:∀t,tk=some t->qbA seps a t
attribute [local go_sem] q2Z q1t q1s
set_option maxHeartbeats 16000000 in
theorem qc7(w00:World)(hg0:Bg w00)(ht0:EType w00)(g S R l mode a0:Nat)(E F:Int)(seps s:ByteArray)(tk0:Option Tk)(J Jx:List Tk->World->Prop)
  (hsz:s.size<=140737488351232) (ha:a0+s.size<=140737488351232) (hge:w00.heap.size<=g)
  (hJ:∀pre W W',J pre W->Kw g W W'->J pre W')
  (hY:∀pre (t:Tk) W,J pre W->pre++[t] <+: (q12 seps a0 tk0 (q0b s)).2->YieldAt Fence.wide 0 Tryz.prog l #[.agg (q1e E F mode t.1 t.2).toArray] W fun e W'=>(e=.returned (.bool true)/\J (pre++[t]) W'/\Kb w00.heap.size W W')\/(e=.returned (.bool false)/\Jx (pre++[t]) W'))
  (w:World) (hw:Below w00.heap.size w00 w) (hS:Blk w S 9 [.string s]) (hR:Blk w R 50 [.pointer (some ⟨g,0,none⟩)])
  (hr:Rdr w g E F mode seps a0 tk0) (h0:J [] w) :
  Calls Tryz.prog 78 #[.func (.yield l) #[] #[],.pointer (some ⟨S,0,none⟩),.pointer (some ⟨R,0,none⟩)] w fun e w' =>
   (∃v,e=.returned v)/\((J (q12 seps a0 tk0 (q0b s)).2 w'/\Rdr w' g E F mode seps (a0+s.size) (q12 seps a0 tk0 (q0b s)).1/\Below w00.heap.size w00 w')\/∃pre,pre <+: (q12 seps a0 tk0 (q0b s)).2/\Jx pre w'):=by
 obtain⟨i0,i3,i4,i5,i6⟩:=info_parts q9R;have f1:=vv (And.intro hg0 ht0);have HJ:=vv hJ;have HY:=vv hY;have HS:=vv hS;have HR:=vv hR;have c0:=hS.cell 0;have cl:=hS.lt;simp only[List.getElem?_cons_zero] at c0;have H0:=vv (And.intro hw (And.intro hr h0));have i7:(s.size:Int)<=140737488351232:=by omega
 clear hJ hY hS hR hw hr h0 hg0 ht0;go_enter Tryz.func78,Tryz.ntmps78
 go_wp2;go_loopw [10] (fun i wr=>∃k:Nat,k<=s.size/\i=.int .i64 (k:Int)/\Below w00.heap.size w00 wr/\Blk wr S 9 [.string s]/\Blk wr R 50 [.pointer (some ⟨g,0,none⟩)] /\
   Rdr wr g E F mode seps (a0+k) (q12 seps a0 tk0 ((q0b s).take k)).1/\J (q12 seps a0 tk0 ((q0b s).take k)).2 wr) (fun i _=>s.size-(intOf i).toNat)
 case atStart=>exact⟨0,Nat.zero_le _,rfl,H0.o.1,HS.o,HR.o,H0.o.2.1,H0.o.2.2⟩
 case round =>
  obtain⟨k,hk,rfl,hb,hS,hR,hr,hj⟩:=hrel;have c3:=vv hj;have c4:=vv hb;have c9:=vv hS;have a5:=vv hR;have b9:=vv hr;clear hb hS hR hr hj c0 cl;by_cases hks:k<s.size
  ·obtain⟨c,hc⟩:=yx (s[k].toNat);have b2:c<256:=by rw[hc];exact UInt8.toNat_lt _
   have f2:(q0b s).take (k+1)=(q0b s).take k++[c]:=by
    rw[List.take_succ_eq_append_getElem (by simpa [q0b] using hks),hc];simp [q0b]
    rfl
   have c5:((q0b s).take k).length=k:=by rw[List.length_take];simp [q0b];omega
   have d0:=q6F seps ((q0b s).take k) c a0 tk0;rw[<- f2,c5] at d0;obtain⟨X,hX⟩:=yx (q12 seps a0 tk0 ((q0b s).take k));rw[<- hX] at d0 c3 b9;obtain⟨i,hi⟩:=yx (Lib.indexByte seps.data.toList c.toUInt8);have a4:qb9 seps c=decide (0<=i):=by rw[hi];rfl
   have HI:=vv fun w=>Tryz.strings_IndexByte seps (c:Int) w
   rw[Int.toNat_natCast,<- hi] at HI;obtain⟨T,a6,a9⟩:=b9.o.blk;have HB:=vv a6;have b3:=vv d0;have s0:=c9.o.cell 0;have sl:=c9.o.lt;have r0:=a5.o.cell 0;have rl:=a5.o.lt;simp only[List.getElem?_cons_zero] at s0 r0;have gl:=a6.lt;obtain⟨-,-,-,q3,q4,q5,-,-⟩:=q4a a6;have f4:=a6.fz 4;have j9:((a0+k:Nat):Int)<=140737488351232:=by omega
   have HC:=vv hc;have b4:Hid (∀(W':World) (T':Option Addr),Kw g wr W'->Blk W' g 80 (q3A E F mode seps (a0+k+1) T' false true)->q7C W' g T' (q1n seps (a0+k) X.1 c).1->(q1n seps (a0+k) X.1 c).2=[] ->
     Below w00.heap.size w00 W'/\Blk W' S 9 [.string s]/\Blk W' R 50 [.pointer (some ⟨g,0,none⟩)]/\Rdr W' g E F mode seps (a0+(k+1)) (q12 seps a0 tk0 ((q0b s).take (k+1))).1/\J (q12 seps a0 tk0 ((q0b s).take (k+1))).2 W'):=vv (by
    intro W' T' hK hB hT hE;refine⟨c4.o.trans ((hK.low (Nat.le_of_lt gl)).mono hge),hK.blk c9.o (by unfold RT;decide),hK.blk a5.o (by unfold RT;decide),⟨⟨T',hB,?_⟩,?_⟩,?_⟩
    ·rw[b3.o];exact hT
    ·rw[b3.o];exact q7X seps (a0+k) X.1 c b2 b9.o.ok
    ·rw[b3.o];dsimp only;rw[hE,List.append_nil];exact HJ.o _ _ _ c3.o hK)
   clear hX hi f2 c5 d0 a6 b2;cases hX1:X.1 with
   | none =>
    rw[hX1] at a9;obtain rfl:T=none:=a9;by_cases hi0:0<=i
    ·rw[decide_eq_true hi0] at a4;have b5:=vv a4;have b6:=vv hX1;clear a4 hX1;rw[HC.o] at HI;have a7:q1n seps (a0+k) X.1 c=(none,[]):=by unfold q1n;rw[if_pos (by rw[b5.o]),b6.o];rfl
     have a3:=vv a7;clear a7;have HG:Hid (Kw g wr (wr.setCell ⟨g,4,none⟩ (.int .i64 ((a0:Int)+(k:Int)+1)))):=vv (Kw.grown (q07 (World.grownBy.refl wr (some g)) (p:=⟨g,4,none⟩) (.inl rfl) _) lr HB.o (.inl rfl));have c6:Hid (Blk (wr.setCell ⟨g,4,none⟩ (.int .i64 ((a0:Int)+(k:Int)+1))) g 80 (q3A E F mode seps (a0+k+1) none false true)):=vv (HB.o.set 4 (.int .i64 ((a0:Int)+(k:Int)+1)));go_wp2_with fail
     refine(HI.o _).mono ?_;rintro e w' ⟨rfl,rfl⟩;go_wp2;go_roundw
     case rel =>
      obtain⟨z1,z2,z3,z4,z5⟩:=b4.o _ none HG.o c6.o (by rw[a3.o];rfl) (by rw[a3.o]);exact⟨k+1,by omega,by go_num,z1,z2,z3,z4,z5⟩
     case measure=>simp [intOf];omega
    ·rw[decide_eq_false hi0] at a4;have b5:=vv a4;have b6:=vv hX1;clear a4 hX1;rw[HC.o] at HI;have a7:q1n seps (a0+k) X.1 c=(some ([c],a0+k),[]):=by unfold q1n;rw[if_neg (by rw[b5.o];decide),b6.o]
     have a3:=vv a7;clear a7;go_wp2_with fail
     refine(HI.o _).mono ?_;rintro e w' ⟨rfl,rfl⟩;go_wp2_with fail
     have q4:=(q4a HB.o).c4;refine q01 (fun w'=>w'.cell? ⟨R,0,none⟩=some (.pointer (some ⟨g,0,none⟩))/\w'.cell? ⟨g,4,none⟩=some (.int .i64 ((a0+k:Nat):Int))) 9
      (.still 0 (.still 1 (.still 3 (.still 4 (.still 5 (.still 6 (.one 2 (.still 7 (.one 8 .done))))))))) (by kernel_rfl) (by kernel_rfl) (fun _ _ d _ _ h=>by cases d<;>exact h) ⟨r0,q4⟩ (fun hS0=>?_)
     iterate 6
      refine q00 (v:=?_) rfl (by rfl) ?_ ?_;rotate_left
      ·intro w f3;go_simp;with_reducible rfl
      simp only[Act.put,sa,sb,sc]
     obtain⟨wd,b7⟩:=yx (w'.drew);have HD:Hid (Below w'.heap.size w' wd):=vv (by rw[b7];exact q04 (Below.refl _ _));rw[<- b7] at hS0 ⊢;clear b7 r0 q4 s0 f4;refine q06 rfl (by rfl) (fun K hK=>?_);go_simp;obtain⟨p,hp⟩:=yx (wd.heap.size);obtain⟨we,d1⟩:=yx (wd.alloc (.cells #[.int .u8 ((s[k].toNat:Nat):Int)] 5));have HE:Hid (Below w'.heap.size w' we):=vv (by rw[d1];exact HD.o.alloc HD.o.size _);have HP:Hid (Blk we p 5 [.int .u8 ((s[k].toNat:Nat):Int)]):=vv (by rw[d1,hp];exact Blk.made wd _ _);have f6:Hid (g<p):=vv (by rw[hp];exact Nat.lt_of_lt_of_le gl HD.o.size);rw[<- d1,<- hp];clear d1 hp;refine hK.out _ _ ⟨(a5.o.below HE.o).cell 0,(q4a (HB.o.below HE.o)).c4⟩ (fun a2=>?_);clear hK hS0
     iterate 1
      refine q00 (v:=?_) rfl (by rfl) ?_ ?_;rotate_left
      ·intro w f3;go_simp;with_reducible rfl
      simp only[Act.put,sa,sb,sc]
     refine q06 rfl (by rfl) (fun K hK=>?_);go_simp;obtain⟨q,hq⟩:=yx (we.heap.size);obtain⟨wf,c7⟩:=yx (we.alloc (.cells #[.slice (some ⟨p,0,none⟩) 1 1,.int .i64 ((a0:Int)+(k:Int))] 87));have HF:Hid (Below w'.heap.size w' wf):=vv (by rw[c7];exact HE.o.alloc HE.o.size _);have d2:Hid (Blk wf p 5 [.int .u8 ((s[k].toNat:Nat):Int)]):=vv (by rw[c7];exact HP.o.alloc _);have i8:Hid (Blk wf q 87 [.slice (some ⟨p,0,none⟩) 1 1,.int .i64 ((a0:Int)+(k:Int))]):=vv (by rw[c7,hq];exact Blk.made we _ _);have f7:Hid (g<q):=vv (by rw[hq];exact Nat.lt_of_lt_of_le gl HE.o.size);rw[<- c7,<- hq];clear c7 hq;refine hK.out _ _ ⟨(a5.o.below HF.o).cell 0,(q4a (HB.o.below HF.o)).c4⟩ (fun a2=>?_);clear hK a2;refine q0d ?_;simp only[List.drop_succ_cons,List.drop_zero];have b8:=vv (HB.o.below HF.o);have q4:=(q4a b8.o).c4;have q5:=(q4a b8.o).c5;have f4:=b8.o.fz 4;have f5:=b8.o.fz 5;have gf:=b8.o.lt;have r0:=(a5.o.below HF.o).cell 0;have rlf:=(a5.o.below HF.o).lt;simp only[List.getElem?_cons_zero] at r0;have k0:R≠g:=q3O a5.o HB.o (by decide);have G1:=q07 (World.grownBy.refl wf (some g)) (p:=⟨g,5,none⟩) (.inl rfl) (.pointer (some ⟨q,0,none⟩));have G2:=q07 G1 (p:=⟨g,4,none⟩) (.inl rfl) (.int .i64 ((a0:Int)+(k:Int)+1));have HG:=vv ((Kw.below (g:=g) HF.o).trans (Kw.grown G2 lr b8.o (.inl rfl)));have c6:Hid (Blk _ g 80 (q3A E F mode seps (a0+k+1) (some ⟨q,0,none⟩) false true)):=vv ((b8.o.set 5 (.pointer (some ⟨q,0,none⟩))).set 4 (.int .i64 ((a0:Int)+(k:Int)+1)));have i9:=vv (d2.o.grown G2 (fun e=>by injection e with e;have:=f6.o;omega));have j0:=vv (i8.o.grown G2 (fun e=>by injection e with e;have:=f7.o;omega));clear G1 G2;go_wp2;go_roundw
     case rel =>
      obtain⟨z1,z2,z3,z4,z5⟩:=b4.o _ (some ⟨q,0,none⟩) HG.o c6.o (by
       rw[a3.o];refine⟨q,_,rfl,Nat.le_of_lt f7.o,j0.o,⟨by simp [u8s],.inr ⟨p,1,_,rfl,Nat.le_of_lt f6.o,i9.o,by simp,by decide,by simp,?_⟩⟩,by simp,?_⟩
       ·rw[HC.o];simp [u8s]
       ·intro x hx;rw[List.mem_singleton.1 hx,HC.o];exact UInt8.toNat_lt _) (by rw[a3.o])
      exact⟨k+1,by omega,by go_num,z1,z2,z3,z4,z5⟩
     case measure=>simp [intOf];omega
   | some tk =>
    obtain⟨L,f⟩:=tk;rw[hX1] at a9;have f8:=b9.o.ok (L,f) hX1;have k1:L.length<=140737488351232:=by have:=f8.2.1;dsimp only at this;omega
    obtain⟨b,v,rfl,f9,d3,c8,g0,hL⟩:=a9;have d4:=vv d3;have e3:=vv c8;have d5:=vv (And.intro f9 (And.intro g0 hL));have bl:=d3.lt;have b0:=d3.cell 0;simp only[List.getElem?_cons_zero] at b0;clear f8 d3 c8 f9 g0 hL;by_cases hi0:0<=i
    ·rw[decide_eq_true hi0] at a4;have b5:=vv a4;have b6:=vv hX1;clear a4 hX1;rw[HC.o] at HI;have a7:q1n seps (a0+k) X.1 c=(none,[(L,f)]):=by unfold q1n;rw[if_pos (by rw[b5.o]),b6.o];rfl
     have a3:=vv a7;clear a7;have d6:b≠g:=(q3O HB.o d4.o (by decide)).symm;have G1:=q07 (World.grownBy.refl wr (some g)) (p:=⟨g,4,none⟩) (.inl rfl) (.int .i64 ((a0:Int)+(k:Int)+1));have e4:Blk _ g 80 (q3A E F mode seps (a0+k+1) (some ⟨b,0,none⟩) false true):=HB.o.set 4 (.int .i64 ((a0:Int)+(k:Int)+1));have g1:=d4.o.grown G1 (fun e=>d6.symm (by injection e));have g2:=e3.o.kept G1 (.inr (q34 HB.o e3.o (by decide)));have j1:=vv (qbW w00 f1.o.1 f1.o.2 g b g (a0+k+1) f mode E F seps false L v _ (q0a c4.o G1 c4.o.size hge) hge e4 g1 g2 d5.o.2.2);have HG:=vv (Kw.grown G1 lr HB.o (.inl rfl));have j2:=vv e4;clear G1 e4 g1 g2;have d2:Hid (X.2++[(L,f)] <+: (q12 seps a0 tk0 (q0b s)).2):=vv (by
      have e:=q1b seps ((q0b s).take (k+1)) ((q0b s).drop (k+1)) a0 tk0;rw[List.take_append_drop] at e;rw[e,b3.o,a3.o];exact⟨_,rfl⟩)
     refine(wpIn_wide (n:=0)).1 ?_
     gi_wp2_with fail
     refine(callsIn_wide.2 (HI.o _)).mono ?_;rintro e w' ⟨rfl,rfl⟩
     gi_wp2_with fail
     refine(callsIn_wide.2 j1.o).mono ?_;rintro e w2 ⟨rfl,g3,g4⟩;have j3:=vv g3;have d7:=vv (HG.o.trans (Kw.grown g4 lr j2.o (.inl rfl)));clear g3 g4;obtain⟨fn,tmps,assign,body,hy,e5⟩:=HY.o X.2 (L,f) w2 (HJ.o _ _ _ c3.o d7.o) d2.o
     gi_wp2_with fail
     refine e5.mono ?_;rintro e w3 (⟨rfl,g5,g6⟩|⟨rfl,g7⟩)
     ·have j4:=vv g5;have d8:=vv g6;clear g5 g6 hy e5
      gi_wp2
      go_roundw
      case rel =>
       refine⟨k+1,by omega,by go_num,(c4.o.trans ((d7.o.low (Nat.le_of_lt gl)).mono hge)).trans d8.o.low,d8.o.blk (d7.o.blk c9.o (by unfold RT;decide)) (.inr (.inr (.inl rfl))),d8.o.blk (d7.o.blk a5.o (by unfold RT;decide)) (.inr (.inl rfl)),⟨⟨none,d8.o.blk j3.o (.inl (.inl rfl)),?_⟩,?_⟩,?_⟩
       ·rw[b3.o,a3.o];rfl
       ·rw[b3.o,a3.o];intro t ht;cases ht
       ·rw[b3.o,a3.o];exact j4.o
      case measure=>simp [intOf];omega
     ·clear hy e5;have j5:=vv g7;clear g7
      gi_wp2
      refine bodyPost_ret (results_none rfl _ _ _) rfl ?_;exact⟨⟨_,rfl⟩,.inr ⟨_,d2.o,j5.o⟩⟩
    ·rw[decide_eq_false hi0] at a4;have b5:=vv a4;have b6:=vv hX1;clear a4 hX1;rw[HC.o] at HI;have a7:q1n seps (a0+k) X.1 c=(some (L++[c],f),[]):=by unfold q1n;rw[if_neg (by rw[b5.o];decide),b6.o]
     have a3:=vv a7;clear a7;go_wp2_with fail
     refine(HI.o _).mono ?_;rintro e w' ⟨rfl,rfl⟩;go_wp2_with fail
     refine q01 (fun w'=>w'.cell? ⟨R,0,none⟩=some (.pointer (some ⟨g,0,none⟩))/\w'.cell? ⟨g,5,none⟩=some (.pointer (some ⟨b,0,none⟩))/\w'.cell? ⟨b,0,none⟩=some v) 14
      (.still 0 (.still 1 (.still 2 (.still 3 (.still 4 (.still 5 (.still 6 (.still 7 (.still 8 (.still 9 (.still 10 (.still 11 (.one 12 (.one 13 .done)))))))))))))) (by kernel_rfl) (by kernel_rfl) (fun _ _ d _ _ h=>by cases d<;>exact h) ⟨r0,q5,b0⟩ (fun hS0=>?_)
     iterate 12
      refine q00 (v:=?_) rfl (by rfl) ?_ ?_;rotate_left
      ·intro w f3;go_simp;with_reducible rfl
      simp only[Act.put,sa,sb,sc]
     obtain⟨wd,b7⟩:=yx (w'.drew);have HD:Hid (Below w'.heap.size w' wd):=vv (by rw[b7];exact q04 (Below.refl _ _));rw[<- b7] at hS0 ⊢;clear b7 r0 q5 b0 s0 f4;refine q06 rfl (by rfl) (fun K hK=>?_);go_simp;have HE:Hid (Below w'.heap.size w' (wd.alloc (.cells #[.int .u8 ((s[k].toNat:Nat):Int)] 5))):=vv (HD.o.alloc HD.o.size _);refine hK.out _ _ ⟨(a5.o.below HE.o).cell 0,(q4a (HB.o.below HE.o)).c5,(d4.o.below HE.o).cell 0⟩ (fun a2=>?_);clear hK hS0;refine q06 rfl (by rfl) (fun K hK=>?_);have e6:=q1h e3.o (fun q _ hq=>HE.o.block q hq);have d9:=vv e6;have e7:=vv (HB.o.below HE.o);have g8:=vv (d4.o.below HE.o);have g9:=vv (a5.o.below HE.o);refine wp_append_own _ (.tmp 65) (.tmp 67) 85 rfl g 5 i0 (.int .u8 0) 1 1 Tryz.underlying85 i3 i4 i5 i6 rfl (by decide) v L.length (u8s L) rfl e6 ⟨wd.heap.size,0,none⟩ 1 1 [.int .u8 ((s[k].toNat:Nat):Int)] rfl rfl (cell_one_new _ _ _) (by simp [Value.oneCell']) (by unfold maxLen;omega) (by omega) (Nat.le_of_lt e7.o.lt) (fun v2 w5 a8 a1 _=>?_);obtain⟨A2,c2,rfl⟩:∃A2 c2,v2=.slice A2 (L.length+1) c2:=by
      rcases a8.2 with ⟨-,h0⟩|⟨q,cap,cur,e,-⟩
      ·omega
      ·exact⟨_,_,e⟩
     have e0:=vv (g9.o.grown a1 (q34 g9.o d9.o (by decide)));have c1:=vv (e7.o.grown a1 (q34 e7.o d9.o (by decide)));have b1:=vv (g8.o.grown a1 (q34 g8.o d9.o (by decide)));have j6:Hid (Kw g w' w5):=vv ((Kw.below (g:=g) HE.o).trans ⟨a1.os,a1.tape,a1.output,a1.size,fun j hj=>by
      by_cases e:v.ownBlock=some j
      ·right
       rcases d9.o.2 with ⟨h1,-⟩|⟨q,cap,cur,h1,h2,h3,-⟩
       ·rw[h1] at e;cases e
       ·rw[h1] at e;have e2:q=j:=by injection e
        subst e2;exact⟨h2,cur,_,h3,.inr (.inr rfl)⟩
      ·exact .inl (a1.block j hj (fun e'=>e e'.symm))⟩)
     have i1:=vv a8;clear a8 a1 e6;refine hK.out _ _ ⟨e0.o.cell 0,(q4a c1.o).c5,b1.o.cell 0⟩ (fun a2=>?_);clear hK a2;refine q0d ?_;simp only[List.drop_succ_cons,List.drop_zero];have d6:b≠g:=(q3O c1.o b1.o (by decide)).symm;have G1:=q07 (World.grownBy.refl w5 (some b)) (p:=⟨b,0,none⟩) (.inl rfl) (.slice A2 (L.length+1) c2);have e1:=c1.o.other (p:=⟨b,0,none⟩) d6 (.slice A2 (L.length+1) c2);have i2:=b1.o.set 0 (.slice A2 (L.length+1) c2);have e8:=i1.o.kept G1 (.inr (q34 b1.o i1.o (by decide)));have G2:=q07 (World.grownBy.refl (w5.setCell ⟨b,0,none⟩ (.slice A2 (L.length+1) c2)) (some g)) (p:=⟨g,4,none⟩) (.inl rfl) (.int .i64 ((a0:Int)+(k:Int)+1));have HG:=vv ((j6.o.trans (Kw.grown G1 d5.o.1 b1.o (.inr (.inl rfl)))).trans (Kw.grown G2 lr e1 (.inl rfl)));have c6:Hid (Blk _ g 80 (q3A E F mode seps (a0+k+1) (some ⟨b,0,none⟩) false true)):=vv (e1.set 4 (.int .i64 ((a0:Int)+(k:Int)+1)));have j7:=vv (i2.other (p:=⟨g,4,none⟩) d6.symm (.int .i64 ((a0:Int)+(k:Int)+1)));have j8:=vv (e8.kept G2 (.inr (q34 e1 e8 (by decide))));have q4:=(q4a c1.o).c4;have f4:=c1.o.fz 4;have f0:=b1.o.fz 0;have b0:=b1.o.cell 0;have r0:=e0.o.cell 0;simp only[List.getElem?_cons_zero] at r0 b0;have gl5:=c1.o.lt;have bl5:=b1.o.lt;have rl5:=e0.o.lt;have k2:b≠R:=(q3O e0.o b1.o (by decide)).symm;clear G1 G2 e1 i2 e8;go_wp2;go_roundw
     case rel =>
      obtain⟨z1,z2,z3,z4,z5⟩:=b4.o _ (some ⟨b,0,none⟩) HG.o c6.o (by
       rw[a3.o];refine⟨b,(.slice A2 (L.length+1) c2),rfl,d5.o.1,j7.o,?_,by simp,?_⟩
       ·have e:=j8.o;rw[show u8s (L++[c])=u8s L++[.int .u8 ((s[k].toNat:Nat):Int)] by rw[HC.o];simp [u8s],List.length_append];exact e
       ·intro x hx;rcases List.mem_append.1 hx with hx|hx
        ·exact d5.o.2.2 x hx
        ·rw[List.mem_singleton.1 hx,HC.o];exact UInt8.toNat_lt _) (by rw[a3.o])
      exact⟨k+1,by omega,by go_num,z1,z2,z3,z4,z5⟩
     case measure=>simp [intOf];omega
  ·have e9:k=s.size:=by omega
   subst e9;have e:=List.take_of_length_le (l:=q0b s) (i:=s.size) (by simp [q0b]);rw[e] at b9 c3;clear e hk hks;go_wp2;go_end0
   exact⟨⟨_,rfl⟩,.inl ⟨c3.o,b9.o,c4.o⟩⟩
end Go.Proofs.YtcdimmblnbkjjaaGreatDoor.Str
