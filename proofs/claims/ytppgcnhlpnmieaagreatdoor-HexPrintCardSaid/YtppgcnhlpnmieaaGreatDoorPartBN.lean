/- Lemmas. -/
import Derived.Test.YtppgcnhlpnmieaaGreatDoorPartBM
import Derived.Test.YtppgcnhlpnmieaaGreatDoorPartBG
set_option linter.all false
set_option maxRecDepth 100000
namespace Go.Proofs.YtppgcnhlpnmieaaGreatDoor.Hx
open Go Go.RowKit R5 Scn Fms Exa
set_option maxHeartbeats 8000000 in
theorem q9b(E F b N:Nat)(neg g:Bool)(x:Int)(places mode:Nat)(w:World)(hb:b<18446744073709551616)(hp:Ten w)(hst:Std w)(h0:0<N)(hN:N<2^53)(hx:-4000<=x)(hx2:x<=4000)(hpl:places<=2000)(hmd:mode<=4)
  (hfit:q0b E F b=0) (hF:∀w',Below w.heap.size w w'->Calls Tryz.prog 53 #[fm E F,.int .u64 (b:Int)] w' (qbX neg g N x w')) :
  Calls Tryz.prog 20 #[fm E F,.int .u64 b,.int .i64 (places:Int),.int .u8 (mode:Int)] w fun e w'=>e=.returned (.tuple #[.string ⟨(q7L neg g N x mode places).toArray⟩,.int .i64 0])/\Below w.heap.size w w':=by
 have e5:bl N<=53:=q0t hN;have k0:0<bl N:=q1Q h0;have b2:=q5x (g:=g) mode h0 places;have e6:=q6i (g:=g) mode h0 places;have g3:bl (q4t g N mode places)<=9000:=by
  have:=q0t (Nat.lt_of_le_of_lt e6 (Nat.pow_lt_pow_right (by decide) (Nat.lt_succ_self _)));omega
 have c9:=vv fun w=>Fms.Fits E F b w hb
 rw[hfit] at c9;have g4:=vv fun A m w (hr:Rd w A m m (toL N))=>first g A m m N x w hr (q1C hr (by omega)) (by omega) (by omega)
 have e7:=vv fun A m B wr (ha:Rd wr A m m (toL N)) (hb:Rd wr B 1 1 (toL 1)) (hs:Std wr)=>qdh g A m m B N wr ha hb h0 (by omega) hs
 obtain⟨e0,e8⟩:=yx (x+(bl N:Int)-1);have hk:x-e0+4*(places:Int)=q1h N places:=by unfold q1h;omega
 have g5:=vv fun X n Y m wr (hX:Rd wr X n n (toL N)) (hY:Rd wr Y m m (toL 1)) (hn:n<=16384) (hm:m<=16384) (hs:Std wr)=>qcb g X n Y m N places _ wr hX hY hn hm h0 (by omega) hpl hk hs
 have d8:=vv fun X n Y m wr (hX:Rd wr X n n (toL (q5h N places))) (hY:Rd wr Y m m (toL (q5i N places))) (hn:n<=16384) (hm:m<=16384) (hs:Std wr)=>qbZ g X n Y m N places mode wr hX hY hn hm h0 hmd hs
 rw[<- e8] at g4;obtain⟨same,b8⟩:=yx (decide (q5h N places%q5i N places=0));rw[<- b8] at d8;have hL:q7L neg g N x mode places=if 4*places+1<bl (q4t g N mode places) then txtL neg (hexL (q4t g N mode places/2) (places+1)) (e0+1) else txtL neg (hexL (q4t g N mode places) (places+1)) e0:=by
  unfold q7L;rw[if_neg (by omega),e8]
 obtain⟨P',g6⟩:∃P',P'=q5h N places:=⟨_,rfl⟩;obtain⟨D',g7⟩:∃D',D'=q5i N places:=⟨_,rfl⟩;obtain⟨q,hq⟩:=yx (q4t g N mode places);rw[<- g6,<- g7] at g5 d8;rw[<- hq] at d8 b2 e6 g3 hL;rw[hL];obtain⟨Rs,e9⟩:∃Rs:ByteArray,Rs=⟨(if 4*places+1<bl q then txtL neg (hexL (q/2) (places+1)) (e0+1) else txtL neg (hexL q (places+1)) e0).toArray⟩:=⟨_,rfl⟩;rw[<- e9];have g8:=vv e9;clear e9;have k1:=vv fun A m c w (hr:Rd w A m c (toL q))=>Pnt.Bits A m c q w hr (q1C hr (by omega))
 have g9:=vv fun A m c w (hr:Rd w A m c (toL q))=>Pnt.Down A m c q 1 w hr (q1C hr (by omega)) (by omega)
 rw[Nat.pow_one] at g9;have i0:=vv fun n z w' (k2:-1000000<=z) (k3:z<=1000000) (h:Below w.heap.size w w')=>q9t neg (hexL n (places+1)) z w'
  (by intro e;have:=hexL_len n (places+1);rw[e] at this;simp at this) (by rw[hexL_len];omega) k2 k3 (hp.below h)
 have i1:Hid (∀A m c n w,n<2^(4*places+1)->Rd w A m c (toL n)->Calls Tryz.prog 57 #[q1u A m c,.int .i64 (1+(places:Int))] w fun e w'=>e=.returned (.string ⟨(hexL n (places+1)).toArray⟩)/\Below w.heap.size w w'):=vv fun A m c n w hn hr=>by
  have a4:=q0t hn;have h:=q2A A m c n (1+places) w hr (q1C hr (by omega)) (by omega) (by omega);rw[q9F hn] at h
  rwa [show((1+places:Nat):Int)=1+(places:Int) by omega] at h
 have l1:-4000<=e0:=by omega
 have l2:e0<=4053:=by omega
 have d3:=vv hst;have k4:(places:Int)<=2000:=by omega
 have l3:(mode:Int)<=4:=by omega
 have dm:decide ((4:Int)<(mode:Int))=false:=decide_eq_false (by omega);obtain⟨w0,f3⟩:=yx (w.alloc (.cells #[.int .i64 (E:Int),.int .i64 (F:Int)] 23));have hC:Ctx w [(w.heap.size,23,[.int .i64 (E:Int),.int .i64 (F:Int)])] w0:=by rw[f3];exact(Ctx.nil w).new _ _ rfl
 have HW:=vv f3;have HC:=vv hC;have k5:=vv hF;have k6:=vv h0;have i2:=vv b2;have c0:=hC.get 0 rfl |>.cell 0;have c1:=hC.get 0 rfl |>.cell 1;have cl:=hC.get 0 rfl |>.lt;simp only[List.getElem?_cons_zero,List.getElem?_cons_succ] at c0 c1;clear f3 hC hF hp hst h0 hN hpl hmd hfit hb e5 k0 b2 e6 g3 hk hL g6 g7 hq b8 e8;go_enter Tryz.func20,Tryz.ntmps20
 go_wp2_with fail
 rw[<- HW.o];go_wp2_with fail
 refine(c9.o _).mono ?_;rintro e w1 ⟨rfl,hB⟩;have c4:=vv (HC.o.step hB);clear hB c0 c1 cl HC;have c0:=c4.o.get 0 rfl |>.cell 0;have c1:=c4.o.get 0 rfl |>.cell 1;have cl:=c4.o.get 0 rfl |>.lt;simp only[List.getElem?_cons_zero,List.getElem?_cons_succ] at c0 c1;go_wp2_with fail
 refine(k5.o _ c4.o.low).mono ?_;rintro e w2 ⟨A,m,rfl,hA,_,hB⟩;have hm:(1:Int)<=m:=by
  rcases Nat.eq_zero_or_pos m with h|h
  ·subst h;have:=hA.lt;rw[q00,Nat.pow_zero] at this;have:=k6.o;omega
  ·omega
 have k7:((m:Int)==0)=false:=by rw[beq_eq_false_iff_ne];omega
 obtain⟨gd,d9⟩:=yx (w2.heap.size);obtain⟨w3,e1⟩:=yx (w2.alloc (.cells #[.bool g,.slice A m m,.int .i64 x] 30));have i3:Hid (Ctx w [(gd,30,[.bool g,.slice A m m,.int .i64 x]),(w.heap.size,23,[.int .i64 (E:Int),.int .i64 (F:Int)])] w3):=vv (by rw[e1];exact(c4.o.step hB).new _ _ d9);have f4:Hid (Rd w3 A m m (toL N)):=vv (by rw[e1];exact hA.below ((Below.refl _ _).alloc lr _) rfl);have i4:=vv e1;have i5:=vv d9;have b9:Hid (w.heap.size<gd):=vv (by rw[d9];have:=c4.o.get 0 rfl |>.lt;have:=hB.size;omega);clear e1 hA hB c0 c1 cl c4 d9;go_wp2_with fail
 rw[<- i4.o,<- i5.o];refine(g4.o _ _ _ f4.o).mono ?_;rintro e w4 ⟨rfl,hB⟩;have a0:=vv (i3.o.step hB);have a2:=vv (f4.o.below hB rfl);clear hB i3 f4 i4 i5;go_wp2_with fail
 obtain⟨d0,d1,d2⟩:=Fms.blk3 (a0.o.get 0 rfl);refine q01 (fun w'=>w'.cell? ⟨gd,0,none⟩=some (.bool g)/\w'.cell? ⟨gd,1,none⟩=some (.slice A m m)) 11
  (.still 0 (.still 1 (.still 2 (.still 3 (.two 4 (.two 5 (.still 6 (.still 7 (.still 8 (.one 9 (.one 10 .done))))) 9 (.one 5 (.still 6 (.still 7 (.still 8 (.one 10 .done)))))) 9 (.one 4 (.one 5 (.still 6 (.still 7 (.still 8 (.one 10 .done)))))))))))
  (by kernel_rfl) (by kernel_rfl) (fun _ _ d _ _ h=>by cases d<;>exact h) ⟨d0,d1⟩ (fun hS0=>?_)
 have a0:=vv a0.o.drew;have a2:=vv a2.o.drew;obtain⟨wc,i6⟩:=yx (w4.drew);rw[<- i6] at hS0 a0 a2 ⊢;clear i6 d0 d1 d2
 iterate 4
  refine q02 (v:=?_) rfl (by rfl) ?_ ?_;rotate_left
  ·intro w f5;go_simp;with_reducible rfl
  simp only[Act.put,sa,sb,sc]
 refine q2b rfl (by rfl) rfl (by rfl) (fun K hK=>?_) (fun K hK=>?_)
 focus
  go_simp;refine(Nat_.Of1 _).mono ?_;rintro e wn ⟨B,rfl,d4,hB⟩;have a0:=vv (a0.o.step hB);have a2:=vv (a2.o.below hB rfl);have a9:=vv d4;clear hB d4;obtain⟨wc,rfl⟩:=yx wn;go_wp2_with fail
  have hD:=Fms.blk3 (a0.o.get 0 rfl);refine hK.out _ _ ⟨hD.1,hD.2.1⟩ (fun a1=>?_);clear hK hD;refine q2b rfl (by rfl) rfl (by rfl) (fun K hK=>?_) (fun K hK=>?_)
  focus
   go_simp;refine(e7.o _ _ _ _ a2.o a9.o (a0.o.std d3.o)).mono ?_;rintro e wn ⟨X',n',Y',m',rfl,hX,hY,c2,c3,hB⟩;have a0:=vv (a0.o.step hB);have a5:=vv hX;have a6:=vv hY;have d5:=vv (And.intro c2 c3);clear hB hX hY c2 c3 a2 a9;obtain⟨wc,rfl⟩:=yx wn;go_wp2_with fail
   have hD:=Fms.blk3 (a0.o.get 0 rfl);refine hK.out _ _ ⟨hD.1,hD.2.1⟩ (fun a1=>?_);clear hK hD
   iterate 3
    refine q02 (v:=?_) rfl (by rfl) ?_ ?_;rotate_left
    ·intro w f5;go_simp;with_reducible rfl
    simp only[Act.put,sa,sb,sc]
   refine q03 rfl (by rfl) (fun K hK=>?_);go_simp;obtain⟨gr,b3⟩:=yx (wc.heap.size);obtain⟨wn,a8⟩:=yx (wc.alloc (.cells #[.bool false,.slice none 0 0,.slice none 0 0] 115));have a4:Below wc.heap.size wc wn:=by rw[a8];exact(Below.refl _ _).alloc lr _
   have b6:Hid (gd<gr):=vv (by have:=a0.o.get 0 rfl |>.lt;omega);have a0:=vv (show Ctx w [(gr,115,[.bool false,.slice none 0 0,.slice none 0 0]),(gd,30,[.bool g,.slice A m m,.int .i64 x]),(w.heap.size,23,[.int .i64 (E:Int),.int .i64 (F:Int)])] wn by rw[a8];exact a0.o.new _ _ b3)
   try have a2:=vv (a2.o.below a4 rfl)
   try have a9:=vv (a9.o.below a4 rfl)
   try have a5:=vv (a5.o.below a4 rfl)
   try have a6:=vv (a6.o.below a4 rfl)
   rw[<- a8,<- b3];clear a8 a4 b3;obtain⟨wc,rfl⟩:=yx wn;have hD:=Fms.blk3 (a0.o.get 1 rfl);refine hK.out _ _ ⟨hD.1,hD.2.1⟩ (fun a1=>?_);clear hK hD;refine q03 rfl (by rfl) (fun K hK=>?_);refine q11 115 (.tmp 15) (.tmp 64) rfl gr [.bool g,.slice X' n' n',.slice Y' m' m'] rfl rfl 115 _ (a0.o.get 0 rfl) (by kernel_rfl) rfl rfl ?_;intro wn hB a3;have a5:=vv (a5.o.else_ (a0.o.get 0 rfl) rfl a3);have a6:=vv (a6.o.else_ (a0.o.get 0 rfl) rfl a3);have a0:Hid (Ctx w [(gr,115,[.bool g,.slice X' n' n',.slice Y' m' m']),(gd,30,[.bool g,.slice A m m,.int .i64 x]),(w.heap.size,23,[.int .i64 (E:Int),.int .i64 (F:Int)])] wn):=vv (a0.o.put 0 rfl (by
    have:=b6.o;have:=b9.o;intro j y hj hy
    match j,hj,hy with
    | 1,_,hy=>cases hy;show gd≠gr;omega
    | 2,_,hy=>cases hy;show w.heap.size≠gr;omega) (by have:=b6.o;have:=b9.o;omega) hB a3)
   clear hB a3;have hD:=Fms.blk3 (a0.o.get 1 rfl);refine hK.out _ _ ⟨hD.1,hD.2.1⟩ (fun a1=>?_);clear hK hD;refine q08 ?_;simp only[List.drop_succ_cons,List.drop_zero]
  rotate_left
  focus
   go_simp;obtain⟨gr,b3⟩:=yx (wc.heap.size);obtain⟨wn,a8⟩:=yx (wc.alloc (.cells #[.bool false,.slice none 0 0,.slice none 0 0] 115));have a4:Below wc.heap.size wc wn:=by rw[a8];exact(Below.refl _ _).alloc lr _
   have b6:Hid (gd<gr):=vv (by have:=a0.o.get 0 rfl |>.lt;omega);have a0:=vv (show Ctx w [(gr,115,[.bool false,.slice none 0 0,.slice none 0 0]),(gd,30,[.bool g,.slice A m m,.int .i64 x]),(w.heap.size,23,[.int .i64 (E:Int),.int .i64 (F:Int)])] wn by rw[a8];exact a0.o.new _ _ b3)
   try have a2:=vv (a2.o.below a4 rfl)
   try have a9:=vv (a9.o.below a4 rfl)
   try have a5:=vv (a5.o.below a4 rfl)
   try have a6:=vv (a6.o.below a4 rfl)
   rw[<- a8,<- b3];clear a8 a4 b3;obtain⟨wc,rfl⟩:=yx wn;have hD:=Fms.blk3 (a0.o.get 1 rfl);refine hK.out _ _ ⟨hD.1,hD.2.1⟩ (fun a1=>?_);clear hK hD;refine q03 rfl (by rfl) (fun K hK=>?_);go_simp;refine(e7.o _ _ _ _ a2.o a9.o (a0.o.std d3.o)).mono ?_;rintro e wn ⟨X',n',Y',m',rfl,hX,hY,c2,c3,hB⟩;have a0:=vv (a0.o.step hB);have a5:=vv hX;have a6:=vv hY;have d5:=vv (And.intro c2 c3);clear hB hX hY c2 c3 a2 a9;obtain⟨wc,rfl⟩:=yx wn;go_wp2_with fail
   have hD:=Fms.blk3 (a0.o.get 1 rfl);refine hK.out _ _ ⟨hD.1,hD.2.1⟩ (fun a1=>?_);clear hK hD
   iterate 3
    refine q02 (v:=?_) rfl (by rfl) ?_ ?_;rotate_left
    ·intro w f5;go_simp;with_reducible rfl
    simp only[Act.put,sa,sb,sc]
   refine q03 rfl (by rfl) (fun K hK=>?_);refine q11 115 (.tmp 15) (.tmp 64) rfl gr [.bool g,.slice X' n' n',.slice Y' m' m'] rfl rfl 115 _ (a0.o.get 0 rfl) (by kernel_rfl) rfl rfl ?_;intro wn hB a3;have a5:=vv (a5.o.else_ (a0.o.get 0 rfl) rfl a3);have a6:=vv (a6.o.else_ (a0.o.get 0 rfl) rfl a3);have a0:Hid (Ctx w [(gr,115,[.bool g,.slice X' n' n',.slice Y' m' m']),(gd,30,[.bool g,.slice A m m,.int .i64 x]),(w.heap.size,23,[.int .i64 (E:Int),.int .i64 (F:Int)])] wn):=vv (a0.o.put 0 rfl (by
    have:=b6.o;have:=b9.o;intro j y hj hy
    match j,hj,hy with
    | 1,_,hy=>cases hy;show gd≠gr;omega
    | 2,_,hy=>cases hy;show w.heap.size≠gr;omega) (by have:=b6.o;have:=b9.o;omega) hB a3)
   clear hB a3;have hD:=Fms.blk3 (a0.o.get 1 rfl);refine hK.out _ _ ⟨hD.1,hD.2.1⟩ (fun a1=>?_);clear hK hD;refine q08 ?_;simp only[List.drop_succ_cons,List.drop_zero]
 rotate_left;rotate_left
 focus
  go_simp;obtain⟨gr,b3⟩:=yx (wc.heap.size);obtain⟨wn,a8⟩:=yx (wc.alloc (.cells #[.bool false,.slice none 0 0,.slice none 0 0] 115));have a4:Below wc.heap.size wc wn:=by rw[a8];exact(Below.refl _ _).alloc lr _
  have b6:Hid (gd<gr):=vv (by have:=a0.o.get 0 rfl |>.lt;omega);have a0:=vv (show Ctx w [(gr,115,[.bool false,.slice none 0 0,.slice none 0 0]),(gd,30,[.bool g,.slice A m m,.int .i64 x]),(w.heap.size,23,[.int .i64 (E:Int),.int .i64 (F:Int)])] wn by rw[a8];exact a0.o.new _ _ b3)
  try have a2:=vv (a2.o.below a4 rfl)
  try have a9:=vv (a9.o.below a4 rfl)
  try have a5:=vv (a5.o.below a4 rfl)
  try have a6:=vv (a6.o.below a4 rfl)
  rw[<- a8,<- b3];clear a8 a4 b3;obtain⟨wc,rfl⟩:=yx wn;have hD:=Fms.blk3 (a0.o.get 1 rfl);refine hK.out _ _ ⟨hD.1,hD.2.1⟩ (fun a1=>?_);clear hK hD;refine q03 rfl (by rfl) (fun K hK=>?_);go_simp;refine(Nat_.Of1 _).mono ?_;rintro e wn ⟨B,rfl,d4,hB⟩;have a0:=vv (a0.o.step hB);have a2:=vv (a2.o.below hB rfl);have a9:=vv d4;clear hB d4;obtain⟨wc,rfl⟩:=yx wn;go_wp2_with fail
  have hD:=Fms.blk3 (a0.o.get 1 rfl);refine hK.out _ _ ⟨hD.1,hD.2.1⟩ (fun a1=>?_);clear hK hD;refine q03 rfl (by rfl) (fun K hK=>?_);go_simp;refine(e7.o _ _ _ _ a2.o a9.o (a0.o.std d3.o)).mono ?_;rintro e wn ⟨X',n',Y',m',rfl,hX,hY,c2,c3,hB⟩;have a0:=vv (a0.o.step hB);have a5:=vv hX;have a6:=vv hY;have d5:=vv (And.intro c2 c3);clear hB hX hY c2 c3 a2 a9;obtain⟨wc,rfl⟩:=yx wn;go_wp2_with fail
  have hD:=Fms.blk3 (a0.o.get 1 rfl);refine hK.out _ _ ⟨hD.1,hD.2.1⟩ (fun a1=>?_);clear hK hD
  iterate 3
   refine q02 (v:=?_) rfl (by rfl) ?_ ?_;rotate_left
   ·intro w f5;go_simp;with_reducible rfl
   simp only[Act.put,sa,sb,sc]
  refine q03 rfl (by rfl) (fun K hK=>?_);refine q11 115 (.tmp 15) (.tmp 64) rfl gr [.bool g,.slice X' n' n',.slice Y' m' m'] rfl rfl 115 _ (a0.o.get 0 rfl) (by kernel_rfl) rfl rfl ?_;intro wn hB a3;have a5:=vv (a5.o.else_ (a0.o.get 0 rfl) rfl a3);have a6:=vv (a6.o.else_ (a0.o.get 0 rfl) rfl a3);have a0:Hid (Ctx w [(gr,115,[.bool g,.slice X' n' n',.slice Y' m' m']),(gd,30,[.bool g,.slice A m m,.int .i64 x]),(w.heap.size,23,[.int .i64 (E:Int),.int .i64 (F:Int)])] wn):=vv (a0.o.put 0 rfl (by
   have:=b6.o;have:=b9.o;intro j y hj hy
   match j,hj,hy with
   | 1,_,hy=>cases hy;show gd≠gr;omega
   | 2,_,hy=>cases hy;show w.heap.size≠gr;omega) (by have:=b6.o;have:=b9.o;omega) hB a3)
  clear hB a3;have hD:=Fms.blk3 (a0.o.get 1 rfl);refine hK.out _ _ ⟨hD.1,hD.2.1⟩ (fun a1=>?_);clear hK hD;refine q08 ?_;simp only[List.drop_succ_cons,List.drop_zero]
 all_goals
  clear a1 hS0;obtain⟨wc,rfl⟩:=yx wn;obtain⟨f0,f1,f2⟩:=Fms.blk3 (a0.o.get 0 rfl);obtain⟨d0,d1,d2⟩:=Fms.blk3 (a0.o.get 1 rfl);have fl:=a0.o.get 0 rfl |>.lt;have dl:=a0.o.get 1 rfl |>.lt;go_wp2_with fail
  refine(g5.o X' n' Y' m' _ a5.o a6.o d5.o.1 d5.o.2 (a0.o.std d3.o)).mono ?_;rintro e w5 ⟨X2,n2,Y2,m2,rfl,hX,hY,i7,i8,hB⟩;have f6:=vv (a0.o.step hB);have i9:=vv hX;have j0:=vv hY;have j1:=vv (And.intro i7 i8);have e2:=vv (f6.o.get 0 rfl);clear hB hX hY i7 i8 f0 f1 f2 d0 d1 d2 fl dl a0 a5 a6 d5;go_wp2_with (with_reducible refine q07 rfl 115 (.tmp 15) (.tmp 78) rfl gr [.bool g,.slice X2 n2 n2,.slice Y2 m2 m2] rfl rfl 115 _ e2.o (by kernel_rfl) rfl rfl ?_)
  intro w6 hB a3;have j2:=vv (i9.o.else_ e2.o rfl a3);have j3:=vv (j0.o.else_ e2.o rfl a3);have d6:=vv (f6.o.put 0 rfl (by
   have:=b6.o;have:=b9.o;intro j y hj hy
   match j,hj,hy with
   | 1,_,hy=>cases hy;show gd≠gr;omega
   | 2,_,hy=>cases hy;show w.heap.size≠gr;omega) (by have:=b6.o;have:=b9.o;omega) hB a3)
  obtain⟨f0,f1,f2⟩:=Fms.blk3 hB;have fl:=hB.lt;clear hB a3 f6 i9 j0 e2;go_wp2_with fail
  refine(d8.o X2 n2 Y2 m2 _ j2.o j3.o j1.o.1 j1.o.2 (d6.o.std d3.o)).mono ?_;rintro e w7 ⟨A7,n7,c7,rfl,j4,-,hB⟩;obtain⟨gn,e3⟩:=yx (w7.heap.size);obtain⟨w8,e4⟩:=yx (w7.alloc (.cells #[.slice A7 n7 c7] 28));have d7:Hid (Ctx w [(gn,28,[.slice A7 n7 c7])] w8):=vv (by
   rw[e4];exact(Ctx.new ⟨d6.o.low.trans (hB.mono d6.o.low.size),fun _ h=>by cases h⟩ _ _ e3))
  have f7:Hid (Rd w8 A7 n7 c7 (toL q)):=vv (by rw[e4];exact j4.below ((Below.refl _ _).alloc lr _) rfl);have j5:=vv e4;have j6:=vv e3;have k8:Hid (w.heap.size<=gn):=vv (by rw[e3];have:=d6.o.low.size;have:=hB.size;omega);clear e4 e3 j4 hB d6 j2 j3 f0 f1 f2 fl;have n0:=d7.o.get 0 rfl |>.cell 0;have nl:=d7.o.get 0 rfl |>.lt;have nf:=d7.o.get 0 rfl |>.fz 0;simp only[List.getElem?_cons_zero] at n0;go_wp2_with fail
  rw[<- j5.o,<- j6.o];refine(k1.o A7 n7 c7 _ f7.o).mono ?_;rintro e w9 ⟨rfl,hB⟩;have c5:=vv (d7.o.step hB);have j7:=vv (f7.o.below hB rfl);have n0:=c5.o.get 0 rfl |>.cell 0;have nl:=c5.o.get 0 rfl |>.lt;have nf:=c5.o.get 0 rfl |>.fz 0;simp only[List.getElem?_cons_zero] at n0;clear hB d7 f7 j5 j6;by_cases hlt:4*places+1<bl q
  ·have t1:4*(places:Int)+1<((bl q:Nat):Int):=by omega
   have c6:Hid (q/2<2^(4*places+1)):=vv (by have:=i2.o;rw[if_pos hlt] at this;exact this);obtain⟨t,ht⟩:∃t:ByteArray,t=⟨(hexL (q/2) (places+1)).toArray⟩:=⟨_,rfl⟩;have b4:=vv fun A m c w h=>i1.o A m c (q/2) w c6.o h
   have a7:=vv fun w' h=>i0.o (q/2) (e0+1) w' (by omega) (by omega) h
   rw[<- ht] at b4 a7;obtain⟨r,hr⟩:∃r:ByteArray,r=⟨(txtL neg (hexL (q/2) (places+1)) (e0+1)).toArray⟩:=⟨_,rfl⟩;rw[<- hr] at a7;have f8:Hid (r=Rs):=vv (by rw[g8.o,if_pos hlt];exact hr);clear ht hr hlt;go_wp2_with fail
   refine(g9.o A7 n7 c7 _ j7.o).mono ?_;rintro e w10 ⟨A8,n8,rfl,j8,j9,hB⟩;have b7:=vv (c5.o.step hB);have b0:=b7.o.get 0 rfl |>.cell 0;have bl':=b7.o.get 0 rfl |>.lt;have bf:=b7.o.get 0 rfl |>.fz 0;simp only[List.getElem?_cons_zero] at b0;obtain⟨w11,b1⟩:=yx (w10.setCell ⟨gn,0,none⟩ (.slice A8 n8 n8));have f9:=c5.o.get 0 rfl |>.lt;have g0:Hid (Rd w11 A8 n8 n8 (toL (q/2))):=vv (by rw[b1];exact j8.other _ _ _ (fun a e=>by have:=(j9 a e).1;omega));have g1:Hid (Below w.heap.size w w11):=vv (by rw[b1];exact b7.o.low.setCell k8.o _);have k9:Hid (w11.cell? ⟨gn,0,none⟩=some (.slice A8 n8 n8)):=vv (by rw[b1];exact q0r b0);have l0:Hid (gn<w11.heap.size):=vv (by rw[b1];simpa [World.setCell] using bl');have g2:=vv b1;clear j8 j9 hB n0 nl nf b1 f9;go_wp2_with fail
   rw[<- g2.o];refine(b4.o A8 n8 n8 _ g0.o).mono ?_;rintro e w12 ⟨rfl,hB⟩;have b5:=vn g1 hB;clear hB b0 bl' bf;go_wp2_with fail
   refine(a7.o _ b5.o).mono ?_;rintro e w13 ⟨rfl,hB⟩;have c8:=vn b5 hB;clear hB;go_wp2;go_ret2
   exact⟨(by rw[<- f8.o];rfl),c8.o⟩
  ·have t1:¬4*(places:Int)+1<((bl q:Nat):Int):=by omega
   have t2:((bl q:Nat):Int)<=4*(places:Int)+1:=by omega
   have c6:Hid (q<2^(4*places+1)):=vv (by have:=i2.o;rw[if_neg hlt] at this;exact this);obtain⟨t,ht⟩:∃t:ByteArray,t=⟨(hexL q (places+1)).toArray⟩:=⟨_,rfl⟩;have b4:=vv fun A m c w h=>i1.o A m c q w c6.o h
   have a7:=vv fun w' h=>i0.o q e0 w' (by omega) (by omega) h
   rw[<- ht] at b4 a7;obtain⟨r,hr⟩:∃r:ByteArray,r=⟨(txtL neg (hexL q (places+1)) e0).toArray⟩:=⟨_,rfl⟩;rw[<- hr] at a7;have f8:Hid (r=Rs):=vv (by rw[g8.o,if_neg hlt];exact hr);clear ht hr hlt;go_wp2_with fail
   refine(b4.o A7 n7 c7 _ j7.o).mono ?_;rintro e w12 ⟨rfl,hB⟩;have b5:=vv (c5.o.low.trans (hB.mono c5.o.low.size));clear hB n0 nl nf;go_wp2_with fail
   refine(a7.o _ b5.o).mono ?_;rintro e w13 ⟨rfl,hB⟩;have c8:=vn b5 hB;clear hB;go_wp2;go_ret2
   exact⟨(by rw[<- f8.o];rfl),c8.o⟩
end Go.Proofs.YtppgcnhlpnmieaaGreatDoor.Hx
