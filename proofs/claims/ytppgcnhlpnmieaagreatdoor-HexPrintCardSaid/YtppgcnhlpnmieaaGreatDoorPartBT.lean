/- Lemmas. -/
import Derived.Test.YtppgcnhlpnmieaaGreatDoorPartBS
import Derived.Test.YtppgcnhlpnmieaaGreatDoorPartBR
import Derived.Test.YtppgcnhlpnmieaaGreatDoorPartBF
import Derived.Test.YtppgcnhlpnmieaaGreatDoorPartBK
import Derived.Test.YtppgcnhlpnmieaaGreatDoorPartBQ
import Derived.Test.YtppgcnhlpnmieaaGreatDoorPartAW
import Derived.Test.YtppgcnhlpnmieaaGreatDoorPartAV
set_option linter.all false
set_option maxHeartbeats 2000000
set_option maxRecDepth 100000
namespace Go.Proofs.YtppgcnhlpnmieaaGreatDoor.Hx
open Go Go.RowKit R5 Scn Fms Exa
theorem qdo(w:World)(hb:Bg w)(ht:Ten w):
  Calls Tryz.prog 17 #[] w fun e w'=>e=.returned (.bool true)/\Below w.heap.size w w':=by
 have a4:=vv fun w' (h:Below w.heap.size w w')=>qab w' (hb.below h) (ht.below h)
 have a5:=vv fun w' (h:Below w.heap.size w w')=>q96 w' (hb.below h) (ht.below h)
 have a6:=vv fun w' (h:Below w.heap.size w w')=>qbA w' (hb.below h)
 have a7:=vv fun w' (h:Below w.heap.size w w')=>qbC w' (hb.below h)
 clear hb ht;go_enter Tryz.func17,Tryz.ntmps17
 go_wp2_with fail
 refine(q1V w).mono ?_;rintro e w1 ⟨rfl,hB⟩;have a0:=vv hB;clear hB;go_wp2_with fail
 refine(a4.o _ a0.o).mono ?_;rintro e w2 ⟨rfl,hB⟩;have a1:=vn a0 hB;clear hB;go_wp2_with fail
 refine(a5.o _ a1.o).mono ?_;rintro e w3 ⟨rfl,hB⟩;have a8:=vn a1 hB;clear hB;go_wp2_with fail
 refine(q1V _).mono ?_;rintro e w4 ⟨rfl,hB⟩;have a2:=vn a8 hB;clear hB;go_wp2_with fail
 refine(a6.o _ a2.o).mono ?_;rintro e w5 ⟨rfl,hB⟩;have a9:=vn a2 hB;clear hB;go_wp2_with fail
 refine(q1V _).mono ?_;rintro e w6 ⟨rfl,hB⟩;have a3:=vn a9 hB;clear hB;go_wp2_with fail
 refine(a7.o _ a3.o).mono ?_;rintro e w7 ⟨rfl,hB⟩;have b0:=vn a3 hB;clear hB;go_wp2_with fail
 refine(q1V _).mono ?_;rintro e w8 ⟨rfl,hB⟩;have b1:=vn b0 hB;clear hB;go_wp2_with fail
 refine(qbB _).mono ?_;rintro e w9 ⟨rfl,hB⟩;have b2:=vn b1 hB;clear hB;go_wp2;go_ret
 exact⟨rfl,b2.o⟩
end Go.Proofs.YtppgcnhlpnmieaaGreatDoor.Hx
namespace Go.Proofs.YtppgcnhlpnmieaaGreatDoor.R3
open Go Go.RowKit R5 Scn Fms
theorem Split(E F b:Nat)(w:World)(h1:2<=E)(h2:E<=11)(h3:1<=F)(h4:F<=52)(hb:b<2^(1+E+F)):
  Calls Tryz.prog 60 #[fm E F,.int .u64 (b:Int)] w fun e w'=>e=.returned (.tuple #[q34 (q0L E F b) (q0f E F b) (q0u F b),.int .i64 0])/\Below w.heap.size w w':=by
 have a4:b<18446744073709551616:=Nat.lt_of_lt_of_le hb (by rw[show(18446744073709551616:Nat)=2^64 from rfl];exact Nat.pow_le_pow_right (by decide) (by omega));have b7:=q0t hb;have a5:q0b E F b=0:=by
  unfold q0b;rw[formOk_in h1 h2 h3 h4,if_pos rfl,if_neg (by omega)]
 have HF:=vv fun w=>Fits E F b w a4
 rw[a5] at HF;have b0:=vv fun w=>Pow E w (by omega)
 have b1:=vv fun w=>Pow F w (by omega)
 obtain⟨te,a1⟩:=yx (tw E);obtain⟨tf,a2⟩:=yx (tw F);have pe:0<te:=by rw[a1];exact tw_pos E
 have pf:0<tf:=by rw[a2];exact tw_pos F
 rw[<- a1] at b0;rw[<- a2] at b1;obtain⟨x,hx⟩:=yx (b/tf%te);obtain⟨f,hf⟩:=yx (b%tf);obtain⟨q,hq⟩:=yx (b/tf);obtain⟨s,hs⟩:=yx (q/te);obtain⟨neg,a3⟩:=yx (q0L E F b);have ex:q0f E F b=x:=by rw[hx,a1,a2];rfl
 have ef:q0u F b=f:=by rw[hf,a2];rfl
 have a6:te<=2^11:=by rw[a1];exact Nat.pow_le_pow_right (by decide) h2
 have b8:x<2^11:=by rw[hx];exact Nat.lt_of_lt_of_le (Nat.mod_lt _ pe) a6
 have c6:(x:Int)<=2047:=by omega
 have a8:IntKind.i64.wrap (x:Int)=(x:Int):=IntWalk.i64_in _ (by omega);have b9:s<2:=by
  rw[hs,hq,Nat.div_div_eq_div_mul,a2,a1];refine Nat.div_lt_of_lt_mul ?_;have:tw F*tw E*2=2^(1+E+F):=by
   unfold tw;rw[show 1+E+F=F+E+1 by omega,Nat.pow_succ,Nat.pow_add]
  rw[this];exact hb
 have a9:((s:Int)==1)=neg:=by
  have e:b/2^(F+E)=s:=by
   rw[hs,hq,Nat.div_div_eq_div_mul,a2,a1,Nat.pow_add]
   rfl
  rw[a3];unfold q0L;rw[e];rcases(show s=0\/s=1 by omega) with h|h<;>rw[h]<;>rfl
 have c2:q<=b:=by rw[hq];exact Nat.div_le_self _ _
 have d1:(b:Int).tdiv (tf:Int)=(q:Int):=by rw[hq,<- Int.ofNat_tdiv]
 have d2:(q:Int).tdiv (te:Int)=(s:Int):=by rw[hs,<- Int.ofNat_tdiv]
 have d3:(q:Int).tmod (te:Int)=(x:Int):=by rw[hx,<- hq,<- Int.ofNat_tmod]
 have d4:(b:Int).tmod (tf:Int)=(f:Int):=by rw[hf,<- Int.ofNat_tmod]
 have c3:f<=b:=by rw[hf];exact Nat.mod_le _ _
 have u1:IntKind.u64.wrap (q:Int)=(q:Int):=by rw[IntKind.wrap_u64];omega
 have u2:IntKind.u64.wrap (s:Int)=(s:Int):=by rw[IntKind.wrap_u64];omega
 have u3:IntKind.u64.wrap (x:Int)=(x:Int):=by rw[IntKind.wrap_u64];omega
 have u4:IntKind.u64.wrap (f:Int)=(f:Int):=by rw[IntKind.wrap_u64];omega
 have ze:((te:Int)==0)=false:=by rw[beq_eq_false_iff_ne];omega
 have zf:((tf:Int)==0)=false:=by rw[beq_eq_false_iff_ne];omega
 have ze':¬te=0:=by omega
 have zf':¬tf=0:=by omega
 rw[ex,ef,<- a3];obtain⟨w0,b2⟩:=yx ((w.alloc (.cells #[.int .i64 (E:Int),.int .i64 (F:Int)] 23)).alloc (.cells #[.bool false,.int .i64 0,.int .u64 0] 101));have hC:Ctx w [(w.heap.size+1,101,[.bool false,.int .i64 0,.int .u64 0]),(w.heap.size,23,[.int .i64 (E:Int),.int .i64 (F:Int)])] w0:=by
  rw[b2];exact((Ctx.nil w).new 23 [.int .i64 (E:Int),.int .i64 (F:Int)] rfl).new 101 [.bool false,.int .i64 0,.int .u64 0] (by simp)
 have HW:=vv b2;clear h1 h2 h3 h4 hb a4 b7 a5 hx hf hs a3 b8 a1 a2 pe pf hq ex ef a6 b9 c2 c3;have c4:=vv hC;have D:=vv (And.intro d2 (And.intro d3 (And.intro d4 (And.intro u2 (And.intro u3 (And.intro u4 (And.intro a8 a9)))))));clear d2 d3 d4 u2 u3 u4 a8 a9 hC b2;go_enter Tryz.func60,Tryz.ntmps60
 go_wp2_with fail
 rw[<- HW.o];go_wp2_with fail
 refine(HF.o _).mono ?_;rintro e w1 ⟨rfl,hB⟩;have a7:=vv (c4.o.step hB);clear hB;have c0:=(a7.o.get 1 rfl).cell 0;have c1:=(a7.o.get 1 rfl).cell 1;have cl:=(a7.o.get 1 rfl).lt;simp only[List.getElem?_cons_zero,List.getElem?_cons_succ] at c0 c1;go_wp2_with fail
 refine(b1.o _).mono ?_;rintro e w' ⟨rfl,rfl⟩;go_wp2_with fail
 refine q01 (fun w'=>w'=w1.drew) 17
  (.still 0 (.still 1 (.still 2 (.still 6 (.still 7 (.still 8 (.still 12 (.still 13 (.still 14 (.one 3 (.still 4 (.still 5 (.one 9 (.still 10 (.still 11 (.one 15 (.still 16 .done))))))))))))))))) (by kernel_rfl) (by kernel_rfl) (fun _ _ d _ _ h=>by cases d<;>exact h) rfl (fun hS0=>?_)
 obtain⟨d2,d3,d4,u2,u3,u4,a8,a9⟩:=D.o
 iterate 9
  refine q02 (v:=?_) rfl (by rfl) ?_ ?_;rotate_left
  ·intro w b3;go_simp;with_reducible rfl
  simp only[Act.put,sa,sb,sc]
 refine q03 rfl (by rfl) (fun K hK=>?_);go_simp;refine(b0.o _).mono ?_;rintro e w' ⟨rfl,rfl⟩;go_wp2_with fail
 refine hK.out _ _ rfl (fun a0=>?_);clear hK
 iterate 2
  refine q02 (v:=?_) rfl (by rfl) ?_ ?_;rotate_left
  ·intro w b3;go_simp;with_reducible rfl
  simp only[Act.put,sa,sb,sc]
 refine q03 rfl (by rfl) (fun K hK=>?_);go_simp;refine(b0.o _).mono ?_;rintro e w' ⟨rfl,rfl⟩;go_wp2_with fail
 refine hK.out _ _ rfl (fun a0=>?_);clear hK
 iterate 2
  refine q02 (v:=?_) rfl (by rfl) ?_ ?_;rotate_left
  ·intro w b3;go_simp;with_reducible rfl
  simp only[Act.put,sa,sb,sc]
 refine q03 rfl (by rfl) (fun K hK=>?_);go_simp;refine(b1.o _).mono ?_;rintro e w' ⟨rfl,rfl⟩;go_wp2_with fail
 refine hK.out _ _ rfl (fun a0=>?_);clear hK
 iterate 1
  refine q02 (v:=?_) rfl (by rfl) ?_ ?_;rotate_left
  ·intro w b3;go_simp;with_reducible rfl
  simp only[Act.put,sa,sb,sc]
 refine q08 ?_;clear a0
 try clear hS0
 have HP:=vv (a7.o.drew.get 0 rfl);have b4:=vv a7.o.drew.low;obtain⟨wd,b5⟩:=yx (w1.drew);rw[<- b5] at HP b4 ⊢;clear b5;clear d2 d3 d4 u2 u3 u4 a8 a9 d1 u1 ze zf ze' zf' c0 c1 cl;simp only[List.drop_succ_cons,List.drop_zero];go_wp2_with (with_reducible refine q07 rfl 101 (.tmp 4) (.tmp 37) rfl (w.heap.size+1) [.bool neg,.int .i64 (x:Int),.int .u64 (f:Int)] rfl rfl 101 _ HP.o (by kernel_rfl) rfl rfl ?_)
 intro w8 hB b6;have c5:=vv (q0a b4.o b6 b4.o.size (Nat.le_succ _));obtain⟨k0,k1,k2⟩:=blk3 hB;have K:=vv (And.intro k0 (And.intro k1 k2));clear hB b6 k0 k1 k2;go_wp2;obtain⟨k0,k1,k2⟩:=K.o;exact bodyPost_ret (v:=.tuple #[q34 neg x f,.int .i64 0]) (by simp [results,Tryz.results60,go_sem,k0,k1,k2,q34]) rfl ⟨rfl,c5.o⟩
theorem qaj(E F b:Nat)(w:World)(h1:2<=E)(h2:E<=11)(h3:1<=F)(h4:F<=52)(hb:b<2^(1+E+F)):
  Calls Tryz.prog 168 #[fm E F,.int .u64 (b:Int)] w fun e w'=>e=.returned (.tuple #[.int .u8 ((q1P E (q0f E F b) (q0u F b):Nat):Int),.int .i64 0])/\Below w.heap.size w w':=by
 have HF:=vv fun w=>Split E F b w h1 h2 h3 h4 hb
 have HM:=vv fun w=>Top E (F:Int) w h1 h2
 have b0:q0f E F b<2^11:=Nat.lt_of_lt_of_le (Nat.mod_lt _ (Nat.two_pow_pos _)) (Nat.pow_le_pow_right (by decide) h2);have b2:3<=R3.tw E-1:=by have:=R3.tw_le h1;unfold R3.tw at *;omega
 obtain⟨x,hx⟩:=yx (q0f E F b);obtain⟨f,hf⟩:=yx (q0u F b);obtain⟨neg,a1⟩:=yx (q0L E F b);obtain⟨m,hm⟩:=yx (R3.tw E-1);have HC:Hid (q1P E x f=if x=0 then(if f=0 then 1 else 2) else if x=m then(if f=0 then 4 else 5) else 3):=vv (by unfold q1P;rw[hm]);rw[<- hx] at HF b0 ⊢;rw[<- hf] at HF ⊢;rw[<- a1] at HF;rw[<- hm] at HM b2;have b6:(x:Int)<=2047:=by omega
 have hB:Below w.heap.size w (w.alloc (.cells #[.int .i64 (E:Int),.int .i64 (F:Int)] 23)):=(Below.refl _ _).alloc lr _;have hQ:Blk (w.alloc (.cells #[.int .i64 (E:Int),.int .i64 (F:Int)] 23)) w.heap.size 23 [.int .i64 (E:Int),.int .i64 (F:Int)]:=Blk.made w 23 [.int .i64 (E:Int),.int .i64 (F:Int)];have HB:=vv hB;have HQ:=vv hQ;have a7:x<=m:=by
  have:x<2^E:=by rw[hx];exact Nat.mod_lt _ (Nat.two_pow_pos _)
  rw[hm];unfold R3.tw;omega
 have a2:(x=0/\f=0)\/(x=0/\f≠0)\/x≠0:=by omega
 clear h1 h2 h3 h4 hb b0 hx hf a1 hm hB hQ;rcases a2 with ⟨a,c⟩|⟨a,c⟩|a
 ·have HR:Hid (q1P E x f=1):=vv (by rw[HC.o,if_pos a,if_pos c]);subst a c;go_enter Tryz.func168,Tryz.ntmps168
  go_wp2_with fail
  refine(HF.o _).mono ?_;rintro e w1 ⟨rfl,hB⟩;have a3:=vn HB hB;clear hB;go_wp2;go_ret2
  rw[HR.o];exact⟨rfl,a3.o.alloc a3.o.size _⟩
 ·have HR:Hid (q1P E x f=2):=vv (by rw[HC.o,if_pos a,if_neg c]);subst a;have t1:((f:Int)==0)=false:=by rw[beq_eq_false_iff_ne];omega
  clear c;go_enter Tryz.func168,Tryz.ntmps168
  go_wp2_with fail
  refine(HF.o _).mono ?_;rintro e w1 ⟨rfl,hB⟩;have a3:=vn HB hB;clear hB;go_wp2;go_ret2
  rw[HR.o];exact⟨rfl,a3.o.alloc a3.o.size _⟩
 ·have t1:((x:Int)==0)=false:=by rw[beq_eq_false_iff_ne];omega
  go_enter Tryz.func168,Tryz.ntmps168
  go_wp2_with fail
  refine(HF.o _).mono ?_;rintro e w1 ⟨rfl,hB⟩;have b3:Hid (Ctx w [(w.heap.size,23,[.int .i64 (E:Int),.int .i64 (F:Int)])] w1):=vv (((Ctx.nil w).new 23 [.int .i64 (E:Int),.int .i64 (F:Int)] rfl).step hB);have a5:=b3.o.new 101 [.bool neg,.int .i64 (x:Int),.int .u64 (f:Int)] rfl;clear hB;go_wp2_with fail
  obtain⟨w3,a8⟩:=yx (w1.alloc (.cells #[.bool neg,.int .i64 (x:Int),.int .u64 (f:Int)] 101));replace a5:Ctx w [(w1.heap.size,101,[.bool neg,.int .i64 (x:Int),.int .u64 (f:Int)]),(w.heap.size,23,[.int .i64 (E:Int),.int .i64 (F:Int)])] w3:=by rw[a8];exact a5
  rw[<- a8];have a6:=vv a5;clear a5 a8;refine q01 (fun w'=>w'.cell? ⟨w1.heap.size,1,none⟩=some (.int .i64 (x:Int))/\w'.cell? ⟨w.heap.size,0,none⟩=some (.int .i64 (E:Int))/\w'.cell? ⟨w.heap.size,1,none⟩=some (.int .i64 (F:Int))) 4
   (.still 0 (.still 1 (.still 2 (.one 3 .done)))) (by kernel_rfl) (by kernel_rfl) (fun _ _ d _ _ h=>by cases d<;>exact h) ⟨(a6.o.get 0 rfl).cell 1,(a6.o.get 1 rfl).cell 0,(a6.o.get 1 rfl).cell 1⟩ (fun hS0=>?_)
  iterate 3
   refine q02 (v:=?_) rfl (by rfl) ?_ ?_;rotate_left
   ·intro w b7;go_simp;with_reducible rfl
   simp only[Act.put,sa,sb,sc]
  refine q03 rfl (by rfl) (fun K hK=>?_);go_simp;refine(HM.o _).mono ?_;rintro e w5 ⟨rfl,hB⟩;have a0:=vv (a6.o.drew.step hB);clear hB;go_wp2_with fail
  refine hK.out _ _ ⟨(a0.o.get 0 rfl).cell 1,(a0.o.get 1 rfl).cell 0,(a0.o.get 1 rfl).cell 1⟩ (fun a4=>?_);clear hK;refine q08 ?_;clear a4 hS0;simp only[List.drop_succ_cons,List.drop_zero];have c2:=(a0.o.get 0 rfl).cell 2;have cl:=(a0.o.get 0 rfl).lt;simp only[List.getElem?_cons_zero,List.getElem?_cons_succ] at c2;rcases Nat.lt_or_ge x m with b4|b1
  ·have HR:Hid (q1P E x f=3):=vv (by rw[HC.o,if_neg a,if_neg (by omega)]);have a9:(x:Int)<(m:Int):=by omega
   clear a b4 a7;go_wp2;go_ret2
   rw[HR.o];exact⟨rfl,a0.o.low⟩
  ·have a9:¬(x:Int)<(m:Int):=by omega
   have b5:(m:Int)<=(x:Int):=by omega
   by_cases hf0:f=0
   ·have HR:Hid (q1P E x f=4):=vv (by rw[HC.o,if_neg a,if_pos (by omega),if_pos hf0]);subst hf0;clear a b1 a7;go_wp2;go_ret2
    rw[HR.o];exact⟨rfl,a0.o.low⟩
   ·have HR:Hid (q1P E x f=5):=vv (by rw[HC.o,if_neg a,if_pos (by omega),if_neg hf0]);have t3:((f:Int)==0)=false:=by rw[beq_eq_false_iff_ne];omega
    clear a b1 a7 hf0;go_wp2;go_ret2
    rw[HR.o];exact⟨rfl,a0.o.low⟩
theorem qby(E x f:Nat)(h1:2<=E):decide (((q1P E x f:Nat):Int)<=3)=decide (x≠tw E-1):=by
 have a0:3<=R3.tw E-1:=by have:=R3.tw_le h1;unfold R3.tw at *;omega
 obtain⟨m,hm⟩:=yx (R3.tw E-1);unfold q1P;rw[<- hm] at a0 ⊢;by_cases a:x=0
 ·rw[if_pos a];have:x≠m:=by omega
  rw[decide_eq_true this];split<;>rfl
 ·rw[if_neg a];by_cases c:x=m
  ·rw[if_pos c];have hn:decide (x≠m)=false:=decide_eq_false (fun h=>h c);rw[hn];by_cases d:f=0
   ·rw[if_pos d];rfl
   ·rw[if_neg d];rfl
  ·rw[if_neg c,decide_eq_true c]
   rfl
theorem Finite(E F b:Nat)(w:World)(h1:2<=E)(h2:E<=11)(h3:1<=F)(h4:F<=52)(hb:b<2^(1+E+F)):
  Calls Tryz.prog 75 #[fm E F,.int .u64 (b:Int)] w fun e w'=>e=.returned (.bool (decide (q0f E F b≠tw E-1)))/\Below w.heap.size w w':=by
 have HC:=vv fun w=>qaj E F b w h1 h2 h3 h4 hb
 have HE:=vv (qby E (q0f E F b) (q0u F b) h1);obtain⟨c,hc⟩:=yx (q1P E (q0f E F b) (q0u F b));rw[<- hc] at HC HE;have hB:Below w.heap.size w (w.alloc (.cells #[.int .i64 (E:Int),.int .i64 (F:Int)] 23)):=(Below.refl _ _).alloc lr _;have HB:=vv hB;rw[<- HE.o];clear hc h1 h2 h3 h4 hb hB;go_enter Tryz.func75,Tryz.ntmps75
 go_wp2_with fail
 refine(HC.o _).mono ?_;rintro e w1 ⟨rfl,hB⟩;have a0:=vn HB hB;clear hB;go_wp2;go_ret
 exact⟨rfl,a0.o⟩
theorem Bias(E:Nat)(F:Int)(w:World)(h1:2<=E)(h2:E<=11):
  Calls Tryz.prog 139 #[fm E F] w fun e w'=>e=.returned (.int .i64 ((tw (E-1):Nat)-1:Int))/\Below w.heap.size w w':=by
 have hb:((tw (E-1):Nat):Int)<=1024:=by
  have:=tw_le (show E-1<=10 by omega);have h3:tw 10=1024:=rfl;omega
 have a0:(1:Int)<=((tw (E-1):Nat):Int):=by have:=tw_pos (E-1);omega
 have HP:=fun w=>Pow (E-1) w (by omega)
 have hc:((E-1:Nat):Int)=(E:Int)-1:=by omega
 rw[hc] at HP;have HP:=vv HP;have a1:(E:Int)<=11:=by omega
 have a2:(2:Int)<=(E:Int):=by omega
 clear h1 h2 hc;go_enter Tryz.func139,Tryz.ntmps139
 go_wp2_with fail
 refine(HP.o _).mono ?_;rintro e w' ⟨rfl,rfl⟩;go_wp2;go_ret
 exact⟨rfl,(Below.refl _ _).alloc lr _⟩
end Go.Proofs.YtppgcnhlpnmieaaGreatDoor.R3
namespace Go.Proofs.YtppgcnhlpnmieaaGreatDoor.R12
open Go Go.RowKit R5 Scn Fms
theorem q3c(E F:Int)(b:Nat)(w:World)(hb:b<18446744073709551616)(h:q0b E F b≠0):
  Calls Tryz.prog 59 #[fm E F,.int .u64 (b:Int)] w fun e w'=>e=.returned (.int .i64 (q0b E F b))/\Below w.heap.size w w':=by
 have HF:=vv fun w=>R3.Fits E F b w hb
 obtain⟨q,hq⟩:=yx (q0b E F b);rw[<- hq] at HF h ⊢;have t1:(q != 0)=true:=by rw[bne_iff_ne];exact h
 have hB:Below w.heap.size w (w.alloc (.cells #[.int .i64 E,.int .i64 F] 23)):=(Below.refl _ _).alloc lr _;have HB:=vv hB;clear hq h hb hB;go_enter Tryz.func59,Tryz.ntmps59
 go_wp2_with fail
 refine(HF.o _).mono ?_;rintro e w1 ⟨rfl,hB⟩;have a0:=vn HB hB;clear hB;go_wp2;go_ret
 exact⟨rfl,a0.o⟩
theorem q46(E F b:Nat)(w:World)(h1:2<=E)(h2:E<=11)(h3:1<=F)(h4:F<=52)(hb:b<2^(1+E+F)):
  Calls Tryz.prog 59 #[fm E F,.int .u64 (b:Int)] w fun e w'=>e=.returned (.int .i64 (if decide (q0f E F b≠R3.tw E-1) then 0 else 8))/\Below w.heap.size w w':=by
 have a0:b<18446744073709551616:=Nat.lt_of_lt_of_le hb (by rw[show(18446744073709551616:Nat)=2^64 from rfl];exact Nat.pow_le_pow_right (by decide) (by omega));have a3:=q0t hb;have a1:q0b E F b=0:=by
  unfold q0b;rw[formOk_in h1 h2 h3 h4,if_pos rfl,if_neg (by omega)]
 have HF:=vv fun w=>R3.Fits E F b w a0
 rw[a1] at HF;have HN:=vv fun w=>R3.Finite E F b w h1 h2 h3 h4 hb
 obtain⟨t,ht⟩:=yx (decide (q0f E F b≠R3.tw E-1));rw[<- ht] at HN ⊢;have hC:Ctx w [(w.heap.size,23,[.int .i64 (E:Int),.int .i64 (F:Int)])] (w.alloc (.cells #[.int .i64 (E:Int),.int .i64 (F:Int)] 23)):=(Ctx.nil w).new 23 [.int .i64 (E:Int),.int .i64 (F:Int)] rfl;have HC:=vv hC;clear h1 h2 h3 h4 hb a0 a3 a1 ht hC;cases t
 all_goals
  go_enter Tryz.func59,Tryz.ntmps59
  go_wp2_with fail
  refine(HF.o _).mono ?_;rintro e w1 ⟨rfl,hB⟩;have a2:=vv (HC.o.step hB);clear hB;have c0:=(a2.o.get 0 rfl).cell 0;have c1:=(a2.o.get 0 rfl).cell 1;have cl:=(a2.o.get 0 rfl).lt;simp only[List.getElem?_cons_zero,List.getElem?_cons_succ] at c0 c1;go_wp2_with fail
  refine(HN.o _).mono ?_;rintro e w2 ⟨rfl,hB⟩;have a4:=vv (a2.o.step hB);clear hB;go_wp2;go_ret
  exact⟨rfl,a4.o.low⟩
theorem qcF{f k F:Nat}(h:bl f+k<=F):f*2^k<2^F:=by
 have h1:f*2^k<2^bl f*2^k:=Nat.mul_lt_mul_of_pos_right (q1l f) (Nat.two_pow_pos _);rw[<- Nat.pow_add] at h1;exact Nat.lt_of_lt_of_le h1 (Nat.pow_le_pow_right (by decide) h)
theorem qcG{f k F:Nat}(hf:0<f)(h:F<bl f+k):2^F<=f*2^k:=by
 have h1:2^(bl f-1)*2^k<=f*2^k:=Nat.mul_le_mul_right _ (q7y hf);have h2:=q1Q hf;rw[<- Nat.pow_add] at h1;exact Nat.le_trans (Nat.pow_le_pow_right (by decide) (by omega)) h1
def q45(E F x f:Nat):Int:=if x=0 then 1-((R3.tw (E-1):Nat)-1:Int)-((F:Int)+1-(bl f:Int)) else(x:Int)-((R3.tw (E-1):Nat)-1:Int)
theorem qcU(E F b:Nat)(w:World)(h1:2<=E)(h2:E<=11)(h3:1<=F)(h4:F<=52)(hb:b<2^(1+E+F))(hn:q0f E F b≠0\/q0u F b≠0):
  Calls Tryz.prog 62 #[fm E F,.int .u64 (b:Int)] w fun e w'=>e=.returned (.int .i64 (q45 E F (q0f E F b) (q0u F b)))/\Below w.heap.size w w':=by
 have HF:=vv fun w=>R3.Split E F b w h1 h2 h3 h4 hb
 have HM:=fun w=>R3.Bias E (F:Int) w h1 h2
 have HP:=fun w=>R3.Pow F w (by omega)
 have b3:q0f E F b<2^11:=Nat.lt_of_lt_of_le (Nat.mod_lt _ (Nat.two_pow_pos _)) (Nat.pow_le_pow_right (by decide) h2);have a7:q0u F b<2^F:=Nat.mod_lt _ (Nat.two_pow_pos _);have b6:((R3.tw (E-1):Nat):Int)<=1024:=by
  have:=R3.tw_le (show E-1<=10 by omega);have h3:R3.tw 10=1024:=rfl;omega
 have a8:(1:Int)<=((R3.tw (E-1):Nat):Int):=by have:=R3.tw_pos (E-1);omega
 have b7:((R3.tw F:Nat):Int)<=4503599627370496:=by
  have:=R3.tw_le h4;have h3:R3.tw 52=4503599627370496:=rfl;omega
 obtain⟨x,hx⟩:=yx (q0f E F b);obtain⟨f,hf⟩:=yx (q0u F b);obtain⟨neg,a1⟩:=yx (q0L E F b);obtain⟨m,hm⟩:∃m:Int,m=((R3.tw (E-1):Nat):Int)-1:=⟨_,rfl⟩;obtain⟨tf,a9⟩:=yx (R3.tw F);have HR:Hid (q45 E F x f=if x=0 then 1-m-((F:Int)+1-(bl f:Int)) else(x:Int)-m):=vv (by unfold q45;rw[hm]);rw[<- hx,<- hf] at hn ⊢;rw[<- hx,<- hf,<- a1] at HF;rw[<- hx] at b3;rw[<- hf] at a7;rw[<- hm] at HM;rw[<- a9] at HP b7;have c4:0<=m:=by omega
 have c5:m<=1024:=by omega
 have b8:(x:Int)<=2047:=by omega
 have a2:tf=2^F:=a9;have c6:(F:Int)<=52:=by omega
 have b4:bl f<=F:=q0t a7;have HM:=vv HM;have HP:=vv HP;have HT:=vv (And.intro a2 (And.intro b4 h4));clear h1 h2 h3 h4 hb b3 hx hf a1 hm b6 a8 a9 a2 a7 b4;go_enter Tryz.func62,Tryz.ntmps62
 go_wp2_with fail
 refine(HF.o _).mono ?_;rintro e w1 ⟨rfl,hB⟩;have b9:Hid (Ctx w [(w.heap.size,23,[.int .i64 (E:Int),.int .i64 (F:Int)])] w1):=vv (((Ctx.nil w).new 23 [.int .i64 (E:Int),.int .i64 (F:Int)] rfl).step hB);have a5:=b9.o.new 101 [.bool neg,.int .i64 (x:Int),.int .u64 (f:Int)] rfl;clear hB;go_wp2_with fail
 obtain⟨w3,b0⟩:=yx (w1.alloc (.cells #[.bool neg,.int .i64 (x:Int),.int .u64 (f:Int)] 101));replace a5:Ctx w [(w1.heap.size,101,[.bool neg,.int .i64 (x:Int),.int .u64 (f:Int)]),(w.heap.size,23,[.int .i64 (E:Int),.int .i64 (F:Int)])] w3:=by rw[b0];exact a5
 rw[<- b0];have a6:=vv a5;clear a5 b0;obtain⟨M,hM⟩:∃M:Int,max (x:Int) 1=M:=⟨_,rfl⟩;have c7:1<=M:=by omega
 have c8:M<=2047:=by omega
 have c9:=vv hM;refine q01 (fun w'=>w'.cell? ⟨w1.heap.size,1,none⟩=some (.int .i64 (x:Int))/\w'.cell? ⟨w.heap.size,0,none⟩=some (.int .i64 (E:Int))/\w'.cell? ⟨w.heap.size,1,none⟩=some (.int .i64 (F:Int))) 5
  (.still 0 (.still 1 (.still 2 (.still 3 (.one 4 .done))))) (by kernel_rfl) (by kernel_rfl) (fun _ _ d _ _ h=>by cases d<;>exact h) ⟨(a6.o.get 0 rfl).cell 1,(a6.o.get 1 rfl).cell 0,(a6.o.get 1 rfl).cell 1⟩ (fun hS0=>?_)
 iterate 4
  refine q02 (v:=?_) rfl (by rfl) ?_ ?_;rotate_left
  ·intro w d0;go_simp;with_reducible rfl
  simp only[Act.put,sa,sb,sc]
 refine q03 rfl (by rfl) (fun K hK=>?_);go_simp;refine(HM.o _).mono ?_;rintro e w5 ⟨rfl,hB⟩;have a0:=vv (a6.o.drew.step hB);clear hB;go_wp2_with fail
 refine hK.out _ _ ⟨(a0.o.get 0 rfl).cell 1,(a0.o.get 1 rfl).cell 0,(a0.o.get 1 rfl).cell 1⟩ (fun a3=>?_);clear hK;refine q08 ?_;clear a3 hS0;simp only[List.drop_succ_cons,List.drop_zero];have p1:=(a0.o.get 0 rfl).cell 1;have p2:=(a0.o.get 0 rfl).cell 2;have pl:=(a0.o.get 0 rfl).lt;have c0:=(a0.o.get 1 rfl).cell 0;have c1:=(a0.o.get 1 rfl).cell 1;have cl:=(a0.o.get 1 rfl).lt;simp only[List.getElem?_cons_zero,List.getElem?_cons_succ] at p1 p2 c0 c1;by_cases hx0:x=0
 ·have b1:M=1:=by omega
  have b2:Hid (q45 E F x f=1-m-((F:Int)+1-(bl f:Int))):=vv (by rw[HR.o,if_pos hx0]);have b5:0<f:=by omega
  have a4:=vv (And.intro b5 (And.intro HT.o.1 (And.intro HT.o.2.1 HT.o.2.2)));subst b1;have d1:¬(0:Int)<(x:Int):=by omega
  have c2:(x:Int)<=0:=by omega
  have d2:=vv hx0;clear hx0 hn b8 hM b5;go_wp2;go_loopw [7,8] (fun xv fv wr=>∃k:Nat,bl f+k<=F+1/\xv=.int .i64 (1-m-(k:Int))/\fv=.int .u64 ((f*2^k:Nat):Int)/\wr=w5) (fun xv _ _=>(intOf xv+4096).toNat)
  case atStart=>exact⟨0,by have:=a4.o.2.2.1;omega,by simp,by simp,rfl⟩
  case round =>
   obtain⟨k,hk,rfl,rfl,rfl⟩:=hrel;obtain⟨q,hq⟩:=yx (f*2^k);rw[<- hq];have d3:(k:Int)<=53:=by have:=a4.o.2.2.2;omega
   by_cases hc:bl f+k<=F
   ·have c3:(q:Int)<(tf:Int):=by have:=qcF hc;rw[<- hq,<- a4.o.2.1] at this;omega
    have HK:=vv (And.intro hq hc);clear hq hc hk;go_wp2_with fail
    refine(HP.o _).mono ?_;rintro e w' ⟨rfl,rfl⟩;go_wp2;go_round
    case rel =>
     refine⟨k+1,by have:=HK.o.2;omega,by go_num,?_,trivial⟩;have:q*2=f*2^(k+1):=by rw[HK.o.1,Nat.pow_succ,Nat.mul_assoc]
     exact congrArg _ (by rw[<- this];omega)
    case measure=>simp [intOf];omega
   ·have c3:¬(q:Int)<(tf:Int):=by have:=qcG a4.o.1 (show F<bl f+k by omega);rw[<- hq,<- a4.o.2.1] at this;omega
    have d4:(tf:Int)<=(q:Int):=by omega
    have HE:Hid ((1-m-(k:Int))=1-m-((F:Int)+1-(bl f:Int))):=vv (by omega);clear hq hc hk;go_wp2_with fail
    refine(HP.o _).mono ?_;rintro e w' ⟨rfl,rfl⟩;go_wp2;go_ret
    exact⟨congrArg (fun z=>Ending.returned (Value.int .i64 z)) (by rw[b2.o];exact HE.o),a0.o.low⟩
 ·have b1:M=x:=by omega
  have b2:Hid (q45 E F x f=(x:Int)-m):=vv (by rw[HR.o,if_neg hx0]);subst b1;have d5:(0:Int)<(x:Int):=by omega
  clear hx0 hn;go_wp2;go_ret
  exact⟨congrArg (fun z=>Ending.returned (Value.int .i64 z)) b2.o.symm,a0.o.low⟩
end Go.Proofs.YtppgcnhlpnmieaaGreatDoor.R12
namespace Go.Proofs.YtppgcnhlpnmieaaGreatDoor.R12
open Go Go.RowKit R5 Scn Fms Hx
theorem Dump_no(E F:Int)(b:Nat)(w:World)(hb:b<18446744073709551616)(h:q0b E F b≠0):
  Calls Tryz.prog 23 #[fm E F,.int .u64 b] w fun e w'=>e=.returned (.tuple #[.string ⟨#[]⟩,.int .i64 (q0b E F b)])/\Below w.heap.size w w':=by
 have HF:=vv fun w=>R3.Fits E F b w hb
 obtain⟨q,hq⟩:=yx (q0b E F b);rw[<- hq] at HF h ⊢;have h':(q != 0)=true:=by rw[bne_iff_ne];exact h
 have HB:=vv ((Below.refl w.heap.size w).alloc (o:=.cells #[.int .i64 E,.int .i64 F] 23) lr);clear hq hb h;go_enter Tryz.func23,Tryz.ntmps23
 go_wp2_with fail
 refine(HF.o _).mono ?_;rintro e w1 ⟨rfl,hB⟩;have a0:=vn HB hB;clear hB;go_wp2;go_ret2
 exact⟨rfl,a0.o⟩
theorem Dump(E F b:Nat)(w:World)(h1:2<=E)(h2:E<=11)(h3:1<=F)(h4:F<=52)(hb:b<2^(1+E+F)):
  Calls Tryz.prog 23 #[fm E F,.int .u64 b] w fun e w'=>e=.returned (.tuple #[.string ⟨(q8S E F b).toArray⟩,.int .i64 0])/\Below w.heap.size w w':=by
 have a1:b<18446744073709551616:=Nat.lt_of_lt_of_le hb (by rw[show(18446744073709551616:Nat)=2^64 from rfl];exact Nat.pow_le_pow_right (by decide) (by omega));have b5:=q0t hb;have a2:q0b E F b=0:=by
  unfold q0b;rw[formOk_in h1 h2 h3 h4,if_pos rfl,if_neg (by omega)]
 have HF:=vv fun w=>R3.Fits E F b w a1
 rw[a2] at HF;have b1:=vv fun w=>qcY E F w (by omega) (by omega)
 have a5:Hid (∀g w,IntAt w g 0 (b:Int)->Calls Tryz.prog 84 #[.pointer (some ⟨g,0,none⟩),.int .i64 (((E+F+4)/4:Nat):Int)] w fun e w'=>e=.returned (.string ⟨(hexL b ((E+F+4)/4)).toArray⟩)/\Below w.heap.size w w'):=vv fun g w hx=>by
  have h:=q2A g 0 b ((E+F+4)/4) w hx (by omega) (by omega) (by omega)
  rwa [show max ((E+F+4)/4) ((bl b+3)/4)=(E+F+4)/4 by omega] at h
 have b6:=vv fun g w (h:IntAt w g 0 0)=>B.SetUint64 g 0 0 b w h a1
 obtain⟨s,hs⟩:∃s:ByteArray,s=⟨(hexL b ((E+F+4)/4)).toArray⟩:=⟨_,rfl⟩;have c2:(s.size:Int)<=100:=by
  have e:s.size=(hexL b ((E+F+4)/4)).length:=by rw[hs];exact List.size_toArray ..
  rw[e,hexL_len];omega
 rw[<- hs] at a5;obtain⟨d,hd⟩:=yx ((E+F+4)/4);rw[<- hd] at b1 a5;obtain⟨w0,a6⟩:=yx (w.alloc (.cells #[.int .i64 (E:Int),.int .i64 (F:Int)] 23));have hC:Ctx w [(w.heap.size,23,[.int .i64 (E:Int),.int .i64 (F:Int)])] w0:=by rw[a6];exact(Ctx.nil w).new _ _ rfl
 have HW:=vv a6;have HC:=vv hC;have b7:=vv (And.intro hs hd);clear a6 hC hs hd h1 h2 h3 h4 hb a1 b5 a2;go_enter Tryz.func23,Tryz.ntmps23
 go_wp2_with fail
 rw[<- HW.o];go_wp2_with fail
 refine(HF.o _).mono ?_;rintro e w1 ⟨rfl,hB⟩;have a3:=vv (HC.o.step hB);clear hB;have c0:=(a3.o.get 0 rfl).cell 0;have c1:=(a3.o.get 0 rfl).cell 1;have cl:=(a3.o.get 0 rfl).lt;simp only[List.getElem?_cons_zero,List.getElem?_cons_succ] at c0 c1;go_wp2_with fail
 refine q01 (fun w'=>w'.cell? ⟨w.heap.size,0,none⟩=some (.int .i64 (E:Int))/\w'.cell? ⟨w.heap.size,1,none⟩=some (.int .i64 (F:Int))) 6
  (.still 1 (.still 3 (.one 0 (.one 2 (.one 4 (.one 5 .done)))))) (by kernel_rfl) (by kernel_rfl) (fun _ _ d _ _ h=>by cases d<;>exact h) ⟨c0,c1⟩ (fun hS0=>?_)
 iterate 2
  refine q02 (v:=?_) rfl (by rfl) ?_ ?_;rotate_left
  ·intro w c3;go_simp;with_reducible rfl
  simp only[Act.put,sa,sb,sc]
 have a7:=vv a3.o.drew;obtain⟨wc,b2⟩:=yx (w1.drew);rw[<- b2] at hS0 a7 ⊢;clear b2 c0 c1 cl;refine q03 rfl (by rfl) (fun K hK=>?_);go_simp;obtain⟨z0,z1⟩:=q1x wc;obtain⟨g,hg⟩:=yx (wc.heap.size);obtain⟨wn,b3⟩:=yx (wc.alloc q8z);have HG:Hid (w.heap.size<g):=vv (by rw[hg];exact(a7.o.get 0 rfl).lt);have a4:=vv (a7.o.step z1);rw[<- b3] at z0 a4 ⊢;rw[<- hg] at z0 ⊢;have b4:=vv z0;clear z0 z1 b3 hg;refine hK.out _ _ ⟨(a4.o.get 0 rfl).cell 0,(a4.o.get 0 rfl).cell 1⟩ (fun a0=>?_);clear hK;refine q03 rfl (by rfl) (fun K hK=>?_);go_simp;refine(b6.o g _ b4.o).mono ?_;rintro e w4 hP;have hP:=hP.f b4.o;have a8:=vv (a4.o.fs hP.2.2 (by intro p hp;rw[List.mem_singleton.1 hp];have:=HG.o;show _<=g;omega) (by
  intro x hx p hp;rw[List.mem_singleton.1 hp];have:=HG.o;simp only[List.mem_cons,List.not_mem_nil,or_false] at hx;rcases hx with rfl<;>show g≠_<;>omega))
 obtain⟨rfl,hI,-⟩:=hP;have b8:=vv hI;clear hI;go_wp2_with fail
 refine hK.out _ _ ⟨(a8.o.get 0 rfl).cell 0,(a8.o.get 0 rfl).cell 1⟩ (fun a0=>?_);clear hK;refine q03 rfl (by rfl) (fun K hK=>?_);go_simp;refine(b1.o _).mono ?_;rintro e w5 ⟨rfl,hB⟩;have a9:=vv (a8.o.step hB);have b9:=vv (b8.o.below hB);clear hB;go_wp2_with fail
 refine hK.out _ _ ⟨(a9.o.get 0 rfl).cell 0,(a9.o.get 0 rfl).cell 1⟩ (fun a0=>?_);clear hK;refine q03 rfl (by rfl) (fun K hK=>?_);go_simp;refine(a5.o _ _ b9.o).mono ?_;rintro e w6 ⟨rfl,hB⟩;have b0:=vv (a9.o.step hB);clear hB;go_wp2_with fail
 refine hK.out _ _ ⟨(b0.o.get 0 rfl).cell 0,(b0.o.get 0 rfl).cell 1⟩ (fun a0=>?_);clear hK;refine q08 ?_;simp only[List.drop_succ_cons,List.drop_zero];go_wp2;go_ret2
 refine⟨qcf ?_,b0.o.low⟩;rw[b7.o.1];simp only[ByteArray.data_append,Array.toList_append,q8S]
end Go.Proofs.YtppgcnhlpnmieaaGreatDoor.R12
