/- Lemmas. -/
import Derived.Test.YtppgcnhlpnmieaaGreatDoorPartAW
import Derived.Test.YtppgcnhlpnmieaaGreatDoorPartAV
import Derived.Test.YtppgcnhlpnmieaaGreatDoorPartBM
import Derived.Test.YtppgcnhlpnmieaaGreatDoorPartBL
set_option linter.all false
set_option maxHeartbeats 1600000
set_option maxRecDepth 100000
namespace Go.Proofs.YtppgcnhlpnmieaaGreatDoor.R5
open Go Go.RowKit Scn Fms Exa
theorem qas{E F b:Nat}(h1:2<=E)(h2:E<=11)(h4:F<=52):-1100<=q1k E F (q0f E F b)/\q1k E F (q0f E F b)<=2050:=by
 have hx:q0f E F b<2^11:=Nat.lt_of_lt_of_le (Nat.mod_lt _ (Nat.two_pow_pos _)) (Nat.pow_le_pow_right (by decide) h2);have hP:2^(E-1)<=2^10:=Nat.pow_le_pow_right (by decide) (by omega);unfold q1k;obtain⟨P,a0⟩:=yx (2^(E-1));rw[<- a0] at hP ⊢;clear a0;split<;>omega
theorem qct{E F b:Nat}(hb:b<2^(1+E+F)):decide (((2^(E+F):Nat):Int)<=(b:Int))=q0L E F b:=by
 have hp:=Nat.two_pow_pos (E+F);have a0:b<2^(E+F)*2:=by rw[<- Nat.pow_succ];rwa [show(E+F).succ=1+E+F by omega]
 unfold q0L;rw[Nat.add_comm F E];by_cases h:2^(E+F)<=b
 ·rw[decide_eq_true (by omega)];have:b/2^(E+F)=1:=by
   refine Nat.div_eq_of_lt_le ?_ ?_<;>omega
  rw[this];rfl
 ·rw[decide_eq_false (by omega),Nat.div_eq_of_lt (by omega)];rfl
theorem qdq(E F b:Nat)(w:World)(h1:2<=E)(h2:E<=11)(h3:1<=F)(h4:F<=52)(hb:b<2^(1+E+F))(hst:Std w):
  Calls Tryz.prog 140 #[fm E F,.int .u64 (b:Int)] w (q2x (sg (q0L E F b) (q0U F (q0f E F b) (q0u F b)*p2 (q1k E F (q0f E F b)))) (p2 (-q1k E F (q0f E F b))) w):=by
 have b2:=qas (b:=b) (F:=F) h1 h2 h4;have b6:b<18446744073709551616:=Nat.lt_of_lt_of_le hb (by rw[show(18446744073709551616:Nat)=2^64 from rfl];exact Nat.pow_le_pow_right (by decide) (by omega));have d6:q0f E F b<2^11:=Nat.lt_of_lt_of_le (Nat.mod_lt _ (Nat.two_pow_pos _)) (Nat.pow_le_pow_right (by decide) h2);have d7:q0u F b<2^F:=Nat.mod_lt _ (Nat.two_pow_pos _);have a8:2^F<=2^52:=Nat.pow_le_pow_right (by decide) h4;have a4:=qct hb;have b7:=vv fun w=>Bias E F w h1 h2
 have d8:=vv fun w=>Sign E F w h1 h2 h3 h4
 have d9:=Hx.bias_nat (E:=E);have e0:=q5c h1;have e3:=q6v h2;obtain⟨p,hp⟩:=yx (q1k E F (q0f E F b));have a9:p=1-q1z E-F+(if q0f E F b=0 then 0 else(q0f E F b:Int)-1):=by
  rw[hp,d9];unfold q1k;split<;>omega
 rw[<- hp] at b2 ⊢;obtain⟨x,hx⟩:=yx (q0f E F b);obtain⟨f,hf⟩:=yx (q0u F b);obtain⟨neg,b0⟩:=yx (q0L E F b);obtain⟨m,hm⟩:=yx (q1z E);obtain⟨tf,a2⟩:=yx (2^F);obtain⟨te,b3⟩:=yx (2^E);obtain⟨ts,e4⟩:=yx (2^(E+F));rw[<- hx] at a9 d6 ⊢;rw[<- hf] at d7 ⊢;rw[<- b0] at a4 ⊢;rw[<- e4] at a4 d8;rw[<- hm] at b7 a9 e0 e3;have pe:0<te:=by rw[b3];exact Nat.two_pow_pos E
 have pf:0<tf:=by rw[a2];exact Nat.two_pow_pos F
 have w1:IntKind.u64.wrap (2^F)=(tf:Int):=by rw[a2];exact wu_pow (by omega)
 have w2:IntKind.u64.wrap (2^E)=(te:Int):=by rw[b3];exact wu_pow (by omega)
 have e1:f=b%tf:=by rw[hf,a2];rfl
 have e2:x=b/tf%te:=by rw[hx,a2,b3];rfl
 obtain⟨v,hv⟩:=yx (b/tf);rw[<- hv] at e2;have d1:(b:Int)%(tf:Int)=(f:Int):=by rw[e1,Int.natCast_emod]
 have d2:(v:Int)%(te:Int)=(x:Int):=by rw[e2,Int.natCast_emod]
 have d3:(b:Int)/2^F=(v:Int):=by rw[hv,a2,Int.natCast_ediv,Int.natCast_pow];rfl
 have z1:((tf:Int)==0)=false:=by rw[beq_eq_false_iff_ne];omega
 have z2:((te:Int)==0)=false:=by rw[beq_eq_false_iff_ne];omega
 have z3:¬tf=0:=by omega
 have z4:¬te=0:=by omega
 have f6:v<=b:=by rw[hv];exact Nat.div_le_self _ _
 have f7:(v:Int)<=18446744073709551615:=by omega
 have i5:(b:Int)<=18446744073709551615:=by omega
 have i6:(x:Int)<=2047:=by omega
 have i7:(f:Int)<=4503599627370496:=by omega
 have i8:(F:Int)<=52:=by omega
 have i9:(E:Int)<=11:=by omega
 have j0:-1<=m:=by omega
 obtain⟨M,hM⟩:=yx (q0U F x f);rw[<- hM];have b4:Hid ((x=0->M=f/\p=1-m-F)/\(x≠0->M=f+tf/\p=x-m-F)):=vv (by
  unfold q0U at hM;refine⟨fun h=>?_,fun h=>?_⟩
  ·rw[if_pos h] at hM a9;exact⟨hM,by omega⟩
  ·rw[if_neg h] at hM a9;exact⟨by rw[hM,a2],by omega⟩)
 have e5:bl M<=54:=by
  refine q0t ?_;rcases Nat.eq_zero_or_pos x with h|h
  ·have:=(b4.o.1 h).1;omega
  ·have:=(b4.o.2 (by omega)).1;have:tf<=2^52:=by rw[a2];exact a8
   omega
 have f8:=vv e5;have e6:=vv fun w=>q7q p w (by omega) (by omega)
 have e7:=vv fun w=>q7q (F:Int) w (by omega) (by omega)
 have b8:p2 (F:Int)=tf/\p2 (-(F:Int))=1:=⟨by rw[q1B,a2],q0q (by omega)⟩;rw[b8.1,b8.2] at e7;have a5:Hid (bl (p2 p)<=3000/\bl (p2 (-p))<=3000/\bl tf<=60/\bl f<=54):=vv ⟨by have:=Hx.bl_p2 p;omega,by have:=Hx.bl_p2 (-p);omega,by rw[a2,q4z];omega,q0t (by omega)⟩;have f9:=vv fun g w (h:IntAt w g 0 0)=>B.SetUint64 g 0 0 f w h (by omega)
 have b1:decide ((ts:Int)<=(b:Int))=neg:=a4;obtain⟨w0,b9⟩:=yx (w.alloc (.cells #[.int .i64 (E:Int),.int .i64 (F:Int)] 23));have hC:Ctx w [(w.heap.size,23,[.int .i64 (E:Int),.int .i64 (F:Int)])] w0:=by rw[b9];exact(Ctx.nil w).new _ _ rfl
 have HW:=vv b9;have HC:=vv hC;have e8:=vv hst;have g0:=vv b1;have g1:-1100<=p:=b2.1;have g3:p<=2050:=b2.2;have c0:=hC.get 0 rfl |>.cell 0;have c1:=hC.get 0 rfl |>.cell 1;have cl:=hC.get 0 rfl |>.lt;simp only[List.getElem?_cons_zero,List.getElem?_cons_succ] at c0 c1;clear b9 hC hst hb h1 h3 b6 d6 d7 a8 a4 b1 d9 e0 e3 hp a9 hx hf b0 hm a2 b3 e4 pe pf e1 e2 hv f6 hM e5 b8 b2;go_enter Tryz.func140,Tryz.ntmps140
 go_wp2_with fail
 rw[<- HW.o];go_wp2_with fail
 clear w1 w2 d1 d2 d3 z1 z2 z3 z4 f7 c0 c1 cl h2 h4;have c2:w0.heap.size=w.heap.size+1:=by rw[HW.o];simp
 obtain⟨gx,c3⟩:=yx (w.heap.size+1);have HG:Hid (w.heap.size<gx):=vv (by omega);obtain⟨z0,z1⟩:=q2P w0;obtain⟨y0,y1⟩:=q1x (w0.alloc q4q);rw[World.size_alloc,c2] at y0;have z1':=z1;rw[c2] at z0;obtain⟨w1,b5⟩:=yx ((w0.alloc q4q).alloc q8z);have z2:=z0.below y1;have e9:=vv (HC.o.step (z1.trans (y1.mono z1.size)));rw[<- b5,<- c3] at z2 y0;rw[<- b5] at e9;rw[<- b5,<- c3];have g4:=vv z2;have f0:=vv y0;clear z0 z1 z1' y0 y1 z2 b5 c2 c3;refine(f9.o (gx+1) _ f0.o).mono ?_;rintro e w2 hP;have hP:=hP.f f0.o;have g6:=vv (g4.o.fs1 hP.2.2 (by omega));have g7:=vv hP.2.1;have g8:=vv (e9.o.fs hP.2.2 (by intro p hp;rw[List.mem_singleton.1 hp];have:=HG.o;show _<=gx+1;omega) (by
  intro x hx p hp;rw[List.mem_singleton.1 hp];have:=HG.o;simp only[List.mem_cons,List.not_mem_nil,or_false] at hx;rcases hx with rfl<;>show gx+1≠_<;>omega))
 obtain⟨rfl,-,-⟩:=hP;go_wp2_with fail
 refine(B.SetInt gx (gx+1) _ _ g6.o.sh g7.o).mono ?_;rintro e w3 hP;have a6:=vv (g8.o.fs hP.2.2 (by intro p hp;rw[List.mem_singleton.1 hp];have:=HG.o;show _<=gx;omega) (by
  intro x hx p hp;rw[List.mem_singleton.1 hp];have:=HG.o;simp only[List.mem_cons,List.not_mem_nil,or_false] at hx;rcases hx with rfl<;>show gx≠_<;>omega))
 obtain⟨rfl,hR,-⟩:=hP;have f1:=vv hR;clear hR;have HF:Hid (∀wc (r:Int) (d:Nat),Ctx w [(w.heap.size,23,[.int .i64 (E:Int),.int .i64 (F:Int)])] wc->RatAt wc gx r d->∀g2 q e',RatAt wc g2 q e'->bl r.natAbs<=5000->bl d<=5000->bl q.natAbs<=5000->bl e'<=5000 ->
   Calls Tryz.prog 111 #[.pointer (some ⟨gx,0,none⟩),.pointer (some ⟨gx,0,none⟩),.pointer (some ⟨g2,0,none⟩)] wc fun e w'=>e=.returned (.pointer (some ⟨gx,0,none⟩))/\RatAt w' gx (r*q) (d*e')/\Ctx w [(w.heap.size,23,[.int .i64 (E:Int),.int .i64 (F:Int)])] w'):=vv (by
  intro wc r d hc hr g2 q e' hq s1 s2 s3 s4;refine(B.MulR gx gx g2 _ _ _ _ wc hr.sh hr hq (hc.std e8.o) (by unfold Sz;omega) (by unfold Sz;omega) (by unfold Sz;omega) (by unfold Sz;omega)).mono ?_;rintro e w' hP;have a3:=hc.fs hP.2.2 (by intro p hp;rw[List.mem_singleton.1 hp];have:=HG.o;show _<=gx;omega) (by
   intro x hx p hp;rw[List.mem_singleton.1 hp];have:=HG.o;simp only[List.mem_cons,List.not_mem_nil,or_false] at hx;rcases hx with rfl<;>show gx≠_<;>omega)
  exact⟨hP.1,hP.2.1,a3⟩)
 by_cases hx0:x=0
 focus
  obtain⟨m1,m2⟩:=b4.o.1 hx0;subst hx0;have c4:=vv m1;have wr1:IntKind.i64.wrap (1-m)=1-m:=IntWalk.i64_in _ (by omega);have wr2:IntKind.i64.wrap (1-m-(F:Int))=p:=by rw[<- m2];exact IntWalk.i64_in _ (by omega)
  clear m1 m2;go_wp2_with fail
  refine q01 (fun w'=>w'.cell? ⟨w.heap.size,0,none⟩=some (.int .i64 (E:Int))/\w'.cell? ⟨w.heap.size,1,none⟩=some (.int .i64 (F:Int))) 10
   (.still 0 (.still 1 (.still 2 (.still 5 (.still 6 (.one 3 (.still 4 (.still 7 (.one 8 (.one 9 .done)))))))))) (by kernel_rfl) (by kernel_rfl) (fun _ _ d _ _ h=>by cases d<;>exact h) ⟨(a6.o.get 0 rfl).cell 0,(a6.o.get 0 rfl).cell 1⟩ (fun hS0=>?_)
  iterate 5
   refine q02 (v:=?_) rfl (by rfl) ?_ ?_;rotate_left
   ·intro w c5;go_simp;with_reducible rfl
   simp only[Act.put,sa,sb,sc]
  refine q03 rfl (by rfl) (fun K hK=>?_);go_simp;refine(b7.o _).mono ?_;rintro e w4 ⟨rfl,hB⟩;have a3:=vv (a6.o.drew.step hB);have c6:=vv (f1.o.drew.below hB);clear hB;go_wp2_with fail
  refine hK.out _ _ ⟨(a3.o.get 0 rfl).cell 0,(a3.o.get 0 rfl).cell 1⟩ (fun a0=>?_);clear hK
  iterate 2
   refine q02 (v:=?_) rfl (by rfl) ?_ ?_;rotate_left
   ·intro w c5;go_simp;with_reducible rfl
   simp only[Act.put,sa,sb,sc]
  refine q03 rfl (by rfl) (fun K hK=>?_);go_simp;refine(e6.o _).mono ?_;rintro e w5 ⟨g5,rfl,c7,hQ,hB⟩;have a7:=vv (a3.o.step hB);have c8:=vv (c6.o.below hB);have c9:=vv hQ;clear hB hQ c7;go_wp2_with fail
  refine hK.out _ _ ⟨(a7.o.get 0 rfl).cell 0,(a7.o.get 0 rfl).cell 1⟩ (fun a0=>?_);clear hK;refine q03 rfl (by rfl) (fun K hK=>?_);go_simp;refine(HF.o _ _ _ a7.o c8.o _ _ _ c9.o (by rw[Int.natAbs_natCast];have:=a5.o;omega) (by decide) (by rw[Int.natAbs_natCast];have:=a5.o;omega) (by have:=a5.o;omega)).mono ?_;rintro e w6 ⟨rfl,hR,hC⟩;have a1:=vv hC;have f2:Hid (RatAt w6 gx ((M*p2 p:Nat):Int) (p2 (-p))):=vv (by
   rw[c4.o,Int.natCast_mul]
   rwa [Nat.one_mul] at hR)
  clear hC hR;go_wp2_with fail
  refine hK.out _ _ ⟨(a1.o.get 0 rfl).cell 0,(a1.o.get 0 rfl).cell 1⟩ (fun a0=>?_);clear hK;refine q08 ?_;clear a0 hS0 wr1 wr2;simp only[List.drop_succ_cons,List.drop_zero];have c0:=(a1.o.get 0 rfl).cell 0;have c1:=(a1.o.get 0 rfl).cell 1;have cl:=(a1.o.get 0 rfl).lt;simp only[List.getElem?_cons_zero,List.getElem?_cons_succ] at c0 c1;go_wp2_with fail
 rotate_left
 focus
  obtain⟨m1,m2⟩:=b4.o.2 hx0;have c4:=vv m1;have wr1:IntKind.i64.wrap ((x:Int)-m)=x-m:=IntWalk.i64_in _ (by omega);have wr2:IntKind.i64.wrap ((x:Int)-m-(F:Int))=p:=by rw[<- m2];exact IntWalk.i64_in _ (by omega)
  have xz:((x:Int)==0)=false:=by rw[beq_eq_false_iff_ne];omega
  clear m1 m2;have c0:=(a6.o.get 0 rfl).cell 0;have c1:=(a6.o.get 0 rfl).cell 1;have cl:=(a6.o.get 0 rfl).lt;simp only[List.getElem?_cons_zero,List.getElem?_cons_succ] at c0 c1;go_wp2_with fail
  refine(e7.o _).mono ?_;rintro e wa ⟨ga,rfl,g9,hQ,hB⟩;have f3:=vv (a6.o.step hB);have f4:=vv (f1.o.below hB);have i0:=vv hQ;clear hB hQ g9 c0 c1 cl;go_wp2_with fail
  refine(B.AddR gx gx ga _ _ _ _ wa f4.o.sh f4.o i0.o (f3.o.std e8.o) (by unfold Sm;rw[Int.natAbs_natCast];have:=a5.o;omega) (by unfold Sm;decide) (by unfold Sm;rw[Int.natAbs_natCast];have:=a5.o;omega) (by unfold Sm;decide)).mono ?_;rintro e wb hP;have d0:=vv (f3.o.fs hP.2.2 (by intro p hp;rw[List.mem_singleton.1 hp];have:=HG.o;show _<=gx;omega) (by
   intro x hx p hp;rw[List.mem_singleton.1 hp];have:=HG.o;simp only[List.mem_cons,List.not_mem_nil,or_false] at hx;rcases hx with rfl<;>show gx≠_<;>omega))
  obtain⟨rfl,hR,-⟩:=hP;have i1:Hid (RatAt wb gx (M:Int) 1):=vv (by
   rw[c4.o,Int.natCast_add];rw[Int.natCast_one,Int.mul_one,Int.mul_one,Nat.mul_one] at hR;exact hR)
  clear hR;go_wp2_with fail
  refine q01 (fun w'=>w'.cell? ⟨w.heap.size,0,none⟩=some (.int .i64 (E:Int))/\w'.cell? ⟨w.heap.size,1,none⟩=some (.int .i64 (F:Int))) 11
   (.still 0 (.still 1 (.still 2 (.still 3 (.still 6 (.still 7 (.one 4 (.still 5 (.still 8 (.one 9 (.one 10 .done))))))))))) (by kernel_rfl) (by kernel_rfl) (fun _ _ d _ _ h=>by cases d<;>exact h) ⟨(d0.o.get 0 rfl).cell 0,(d0.o.get 0 rfl).cell 1⟩ (fun hS0=>?_)
  iterate 6
   refine q02 (v:=?_) rfl (by rfl) ?_ ?_;rotate_left
   ·intro w c5;go_simp;with_reducible rfl
   simp only[Act.put,sa,sb,sc]
  refine q03 rfl (by rfl) (fun K hK=>?_);go_simp;refine(b7.o _).mono ?_;rintro e w4 ⟨rfl,hB⟩;have a3:=vv (d0.o.drew.step hB);have c6:=vv (i1.o.drew.below hB);clear hB;go_wp2_with fail
  refine hK.out _ _ ⟨(a3.o.get 0 rfl).cell 0,(a3.o.get 0 rfl).cell 1⟩ (fun a0=>?_);clear hK
  iterate 2
   refine q02 (v:=?_) rfl (by rfl) ?_ ?_;rotate_left
   ·intro w c5;go_simp;with_reducible rfl
   simp only[Act.put,sa,sb,sc]
  refine q03 rfl (by rfl) (fun K hK=>?_);go_simp;refine(e6.o _).mono ?_;rintro e w5 ⟨g5,rfl,c7,hQ,hB⟩;have a7:=vv (a3.o.step hB);have c8:=vv (c6.o.below hB);have c9:=vv hQ;clear hB hQ c7;go_wp2_with fail
  refine hK.out _ _ ⟨(a7.o.get 0 rfl).cell 0,(a7.o.get 0 rfl).cell 1⟩ (fun a0=>?_);clear hK;refine q03 rfl (by rfl) (fun K hK=>?_);go_simp;refine(HF.o _ _ _ a7.o c8.o _ _ _ c9.o (by rw[Int.natAbs_natCast];have:=f8.o;omega) (by decide) (by rw[Int.natAbs_natCast];have:=a5.o;omega) (by have:=a5.o;omega)).mono ?_;rintro e w6 ⟨rfl,hR,hC⟩;have a1:=vv hC;have f2:Hid (RatAt w6 gx ((M*p2 p:Nat):Int) (p2 (-p))):=vv (by
   rw[Int.natCast_mul]
   rwa [Nat.one_mul] at hR)
  clear hC hR;go_wp2_with fail
  refine hK.out _ _ ⟨(a1.o.get 0 rfl).cell 0,(a1.o.get 0 rfl).cell 1⟩ (fun a0=>?_);clear hK;refine q08 ?_;clear a0 hS0 wr1 wr2;simp only[List.drop_succ_cons,List.drop_zero];have c0:=(a1.o.get 0 rfl).cell 0;have c1:=(a1.o.get 0 rfl).cell 1;have cl:=(a1.o.get 0 rfl).lt;simp only[List.getElem?_cons_zero,List.getElem?_cons_succ] at c0 c1;go_wp2_with fail
 rotate_left;all_goals
  refine(d8.o _).mono ?_;rintro e w7 ⟨rfl,hB⟩;have f5:=vv (a1.o.step hB);have d4:=vv (f2.o.below hB);clear hB c0 c1 cl;have a4:=g0.o;cases neg
  ·have d5:¬(ts:Int)<=(b:Int):=of_decide_eq_false a4;have i2:(b:Int)<(ts:Int):=by omega
   go_wp2;go_ret
   exact⟨_,rfl,by have:=HG.o;omega,d4.o,f5.o.low⟩
  ·have d5:(ts:Int)<=(b:Int):=of_decide_eq_true a4;go_wp2_with fail
   refine(B.NegR gx gx _ _ _ d4.o.sh d4.o).mono ?_;rintro e w8 hP;have i3:=vv (f5.o.fs hP.2.2 (by intro p hp;rw[List.mem_singleton.1 hp];have:=HG.o;show _<=gx;omega) (by
    intro x hx p hp;rw[List.mem_singleton.1 hp];have:=HG.o;simp only[List.mem_cons,List.not_mem_nil,or_false] at hx;rcases hx with rfl<;>show gx≠_<;>omega))
   obtain⟨rfl,hR,-⟩:=hP;have i4:=vv hR;clear hR;go_wp2;go_ret
   exact⟨_,rfl,by have:=HG.o;omega,i4.o,i3.o.low⟩
end Go.Proofs.YtppgcnhlpnmieaaGreatDoor.R5
namespace Go.Proofs.YtppgcnhlpnmieaaGreatDoor.R5
open Go Go.RowKit Scn
def qdN(q:Nat)(w:World)(e:Ending)(w':World):Prop:=
 ∃b1 b3 A n c,e=.returned (.tuple #[.bool b1,q1u A n c,.bool b3,.int .i64 0])/\Rd w' A n c (toL q)/\Below w.heap.size w w'
theorem qcM(neg:Bool)(X:Option Addr)(n c:Nat)(Y:Option Addr)(m d N D mode:Nat)(w:World)(hX:Rd w X n c (toL N))(hY:Rd w Y m d (toL D))(hn:n<=16384)(hm:m<=16384)(h0:0<N)(hD:0<D)(hg:Nat.gcd N D=1)(hmd:mode<=4)(hst:Std w):
  Calls Tryz.prog 77 #[q1b neg X n c Y m d,.int .u8 (mode:Int)] w (qdN (rnd neg mode N D) w):=by
 have sN:bl N<=524288:=Rtp.wds_bl hX hn;have sD:bl D<=524288:=Rtp.wds_bl hY hm;obtain⟨w0,a7⟩:=yx ((w.alloc (.cells #[.bool neg,.slice X n c,.slice Y m d] 115)).alloc (.cells #[.slice none 0 0] 28));have hC:Ctx w [(w.heap.size+1,28,[.slice none 0 0]),(w.heap.size,115,[.bool neg,.slice X n c,.slice Y m d])] w0:=by
  rw[a7];exact((Ctx.nil w).new _ _ rfl).new _ _ (by simp)
 have c8:=vv (qcW neg X n c Y m d N D w0 (hC.rd hX) (hC.rd hY) hn hm hD hg (fun h=>by omega) (hC.std hst));have b2:=vv fun w' (h:Below w.heap.size w w')=>qe4 neg X n c Y m d N D w' (hX.below h rfl) (hY.below h rfl) (by unfold Sz;omega) (by unfold Sz;omega) hD (hst.below h)
 have b3:=vv fun g w' (hx:RatAt w' g (N:Int) D) (hs:Std w')=>q3z g N D neg mode w' hx (by unfold Sm;omega) (by unfold Sm;omega) hs hmd
 obtain⟨p,hp⟩:=yx (sg neg N);have b4:p.natAbs=N:=by rw[hp];exact q0C _ _
 obtain⟨s,hs⟩:=yx (p.sign);have a8:decide (s<0)=neg:=by
  have h1:(s<0)=(p<0):=by rw[hs];exact propext Int.sign_neg_iff
  have h2:decide (s<0)=decide (p<0):=by simp only[h1]
  rw[h2,hp,q0W,decide_eq_true h0,Bool.and_true]
 rw[<- hp] at b2;have b5:=vv fun g gx w' (h:RatSh w' g) (hx:RatAt w' gx p D)=>B.AbsR g gx p D w' h hx
 rw[b4] at b5;have a9:=vv fun g w' (h:RatAt w' g p D)=>B.RSign g p D w' h
 rw[<- hs] at a9;obtain⟨q,hq⟩:=yx (rnd neg mode N D);rw[<- hq] at b3 ⊢;have a5:=fun g1 w' (hi:IntAt w' g1 0 (q:Int))=>R2.NatW g1 0 _ w' hi
 simp only[Int.natAbs_natCast] at a5;have a5:=vv a5;have d6:(mode:Int)<=4:=by omega
 have b6:=vv a8;have c9:=vv hst;have HC:=vv hC;have HW:=vv a7;have f0:=hC.get 1 rfl |>.cell 0;have f1:=hC.get 1 rfl |>.cell 1;have f2:=hC.get 1 rfl |>.cell 2;have fl:=hC.get 1 rfl |>.lt;simp only[List.getElem?_cons_zero,List.getElem?_cons_succ] at f0 f1 f2;clear a7 hC hX hY hn hm hD hg h0 hmd hst sN sD hp b4 hs a8 hq;go_enter Tryz.func77,Tryz.ntmps77
 go_wp2_with fail
 rw[<- HW.o];go_wp2_with fail
 refine c8.o.mono ?_;rintro e w1 ⟨rfl,hB⟩;have a1:=vv (HC.o.step hB);clear hB f0 f1 f2 fl HC;have f0:=a1.o.get 1 rfl |>.cell 0;have f1:=a1.o.get 1 rfl |>.cell 1;have f2:=a1.o.get 1 rfl |>.cell 2;have fl:=a1.o.get 1 rfl |>.lt;simp only[List.getElem?_cons_zero,List.getElem?_cons_succ] at f0 f1 f2;go_wp2_with fail
 refine(b2.o _ a1.o.low).mono ?_;rintro e w2 ⟨gx,rfl,d7,hR,hB⟩;have b7:=vv (a1.o.step hB);have b8:=vv hR;clear hB hR f0 f1 f2 fl;go_wp2_with fail
 obtain⟨z0,z1⟩:=q2P w2;obtain⟨w3,b9⟩:=yx (w2.alloc q4q);obtain⟨g0,a6⟩:=yx (w2.heap.size);have b0:Hid (gx<g0/\w.heap.size+1<g0):=vv ⟨by rw[a6];exact b8.o.lt,by rw[a6];exact(b7.o.get 0 rfl).lt⟩;have c1:=vv (b7.o.step z1);have b1:=vv (b8.o.below z1);rw[<- b9] at z0 c1 b1 ⊢;rw[<- a6] at z0 ⊢;have d0:=vv z0;clear z0 z1 b9 a6;refine(b5.o g0 gx _ d0.o.sh b1.o).mono ?_;rintro e w4 hP;have hF:=hP.2.2;have c2:=vv (b1.o.fs1 hF (by have:=b0.o.1;omega));have c3:=vv (c1.o.fs hF (by intro p hp;rw[List.mem_singleton.1 hp];have:=b0.o.2;show _<=g0;omega) (by
  intro x hx p hp;rw[List.mem_singleton.1 hp];have:=b0.o.2;simp only[List.mem_cons,List.not_mem_nil,or_false] at hx;rcases hx with rfl|rfl<;>show g0≠_<;>omega))
 obtain⟨rfl,hQ,-⟩:=hP;have d1:=vv hQ;clear hF hQ;go_wp2_with fail
 refine(a9.o gx _ c2.o).mono ?_;rintro e w' ⟨rfl,rfl⟩;go_wp2_with fail
 rw[b6.o];refine(b3.o g0 _ d1.o (c3.o.std c9.o)).mono ?_;rintro e w5 ⟨g5,rfl,d2,c4,hB⟩;have d3:=vv (c3.o.step hB);have c5:=vv (c2.o.below hB);have c6:=vv c4;clear hB c4 d2;go_wp2_with fail
 refine(a9.o gx _ c5.o).mono ?_;rintro e w' ⟨rfl,rfl⟩;have a8:=b6.o;cases neg
 rotate_left;go_wp2_with fail
 refine(B.Sign g5 0 _ _ c6.o).mono ?_;rintro e w' ⟨rfl,rfl⟩;rotate_left;all_goals
  go_wp2_with fail
  refine(a5.o _ _ c6.o).mono ?_;rintro e w6 ⟨Z,k,j,rfl,hZ,hB⟩;have a2:=vv (d3.o.step hB);have d4:=vv (c5.o.below hB);have d5:=vv hZ;clear hB hZ;go_wp2_with fail
  refine(B.IsInt gx p D _ d4.o).mono ?_;rintro e w' ⟨rfl,rfl⟩;have c0:=a2.o.get 0 rfl |>.cell 0;have fz:=a2.o.get 0 rfl |>.fz 0;have lt:=a2.o.get 0 rfl |>.lt;simp only[List.getElem?_cons_zero] at c0;have c7:=only_setCell (World.grownBy.refl w6 (some (w.heap.size+1))) (p:=⟨w.heap.size+1,0,none⟩) (.inl rfl) (.slice Z k j);have a3:Hid (Rd (w6.setCell ⟨w.heap.size+1,0,none⟩ (.slice Z k j)) Z k j (toL q)):=vv (d5.o.else_ (a2.o.get 0 rfl) rfl c7);have a4:Hid (Below w.heap.size w (w6.setCell ⟨w.heap.size+1,0,none⟩ (.slice Z k j))):=vv (a2.o.low.setCell (p:=⟨w.heap.size+1,0,none⟩) (Nat.le_succ _) _);have a0:(w6.setCell ⟨w.heap.size+1,0,none⟩ (.slice Z k j)).cell? ⟨w.heap.size+1,0,none⟩=some (.slice Z k j):=q0r c0;clear c7;go_wp2
 ·exact bodyPost_ret (v:=.tuple #[.bool false,q1u Z k j,.bool (decide (ld p D=1)),.int .i64 0]) (by simp [results,Tryz.results77,go_sem,a0]) rfl ⟨_,_,Z,k,j,rfl,a3.o,a4.o⟩
 ·exact bodyPost_ret (v:=.tuple #[.bool (decide (0<q)),q1u Z k j,.bool (decide (ld p D=1)),.int .i64 0]) (by simp [results,Tryz.results77,go_sem,a0]) rfl ⟨_,_,Z,k,j,rfl,a3.o,a4.o⟩
end Go.Proofs.YtppgcnhlpnmieaaGreatDoor.R5
