/- Lemmas. -/
import Derived.Test.YtppgcnhlpnmieaaGreatDoorPartBQ
import Derived.Outline
set_option linter.all false
set_option maxRecDepth 100000
namespace Go.Proofs.YtppgcnhlpnmieaaGreatDoor.R3
open Go Go.RowKit R5 Scn Fms
set_option maxHeartbeats 1000000 in
theorem Fits(E F:Int)(b:Nat)(w:World)(hb:b<18446744073709551616):
  Calls Tryz.prog 74 #[fm E F,.int .u64 (b:Int)] w fun e w'=>e=.returned (.int .i64 (q0b E F b))/\Below w.heap.size w w':=by
 have HC:=vv fun w=>Check E F w
 have hQ:Blk (w.alloc (.cells #[.int .i64 E,.int .i64 F] 23)) w.heap.size 23 [.int .i64 E,.int .i64 F]:=Blk.made w 23 [.int .i64 E,.int .i64 F];obtain⟨w0,a3⟩:=yx (w.alloc (.cells #[.int .i64 E,.int .i64 F] 23));have hC:Ctx w [(w.heap.size,23,[.int .i64 E,.int .i64 F])] w0:=by rw[a3];exact(Ctx.nil w).new _ _ rfl
 have c0:=hC.get 0 rfl |>.cell 0;have c1:=hC.get 0 rfl |>.cell 1;have cl:=hC.get 0 rfl |>.lt;simp only[List.getElem?_cons_zero,List.getElem?_cons_succ] at c0 c1;have a5:=vv hC;have HW:=vv a3;clear a3 hQ hC;cases hok:R3.formOk E F with
 | false =>
  have HE:Hid (q0b E F b=5):=vv (by unfold q0b;rw[hok];rfl);rw[chk_no hok] at HC;clear hok hb;go_enter Tryz.func74,Tryz.ntmps74
  go_wp2_with fail
  rw[<- HW.o];go_wp2_with fail
  refine(HC.o _).mono ?_;rintro e w1 ⟨rfl,hB⟩;have HB:=vv (a5.o.step hB).low;clear hB;go_wp2;go_ret
  exact⟨q0T HE.o.symm,HB.o⟩
 | true =>
  obtain⟨ne,nf,rfl,rfl,h1,h2,h3,h4⟩:=formOk_nat hok;rw[chk_ok hok] at HC;have HP:=vv fun w (h:ne+nf<63)=>Pow (1+ne+nf) w (by omega)
  have b4:(ne:Int)<=11:=by omega
  have b5:(nf:Int)<=52:=by omega
  have hE:q0b (ne:Int) (nf:Int) b=if 2^(1+ne+nf)<=b then 6 else 0:=by
   unfold q0b;rw[hok,if_pos rfl];by_cases h:2^(1+ne+nf)<=b
   ·have:1+ne+nf<bl b:=by
     rcases Nat.lt_or_ge (1+ne+nf) (bl b) with k|k
     ·exact k
     ·have:=q1l b;have:=Nat.pow_le_pow_right (show 0<2 by decide) k;omega
    rw[if_pos h,if_pos (by omega)]
   ·have:=q0t (Nat.lt_of_not_le h);rw[if_neg h,if_neg (by omega)]
  have HE:=vv hE;have a6:IntKind.i64.wrap ((ne:Int)+(nf:Int))=(ne:Int)+(nf:Int):=IntWalk.i64_in _ (by omega);have a7:IntKind.i64.wrap (1+(ne:Int))=1+(ne:Int):=IntWalk.i64_in _ (by omega);have a8:IntKind.i64.wrap (1+(ne:Int)+(nf:Int))=1+(ne:Int)+(nf:Int):=IntWalk.i64_in _ (by omega);have b6:=vv (And.intro a6 (And.intro a7 a8));have b2:=vv hb;have b7:=vv (And.intro h1 h3);clear hok hb a6 a7 a8 hE h1 h2 h3 h4;go_enter Tryz.func74,Tryz.ntmps74
  go_wp2_with fail
  rw[<- HW.o];go_wp2_with fail
  refine(HC.o _).mono ?_;rintro e w1 ⟨rfl,hB⟩;have a1:=vv (a5.o.step hB);clear hB c0 c1 cl;have c0:=a1.o.get 0 rfl |>.cell 0;have c1:=a1.o.get 0 rfl |>.cell 1;have cl:=a1.o.get 0 rfl |>.lt;simp only[List.getElem?_cons_zero,List.getElem?_cons_succ] at c0 c1;by_cases hlt:ne+nf<63
  ·have b3:(ne:Int)+(nf:Int)<63:=by omega
   have a4:=vv fun w=>HP.o w hlt
   obtain⟨P,hP⟩:=yx (R3.tw (1+ne+nf));rw[<- hP] at a4;have a9:2^(1+ne+nf)=P:=hP.symm;have b0:Hid (q0b (ne:Int) (nf:Int) b=if P<=b then 6 else 0):=vv (by rw[HE.o,a9]);have a0:((1+ne+nf:Nat):Int)=1+(ne:Int)+(nf:Int):=by omega
   rw[a0] at a4;clear hP a9 a0;go_wp2_with fail
   refine(a4.o _).mono ?_;rintro e w' ⟨rfl,rfl⟩;rcases Nat.lt_or_ge b P with b1|b1
   ·have t1:¬(P:Int)<=(b:Int):=by omega
    have t2:(b:Int)<(P:Int):=by omega
    have a2:=vv (show q0b (ne:Int) (nf:Int) b=0 by rw[b0.o,if_neg (by omega)]);go_wp2;go_ret
    exact⟨q0T a2.o.symm,a1.o.low⟩
   ·have t1:(P:Int)<=(b:Int):=by omega
    have a2:=vv (show q0b (ne:Int) (nf:Int) b=6 by rw[b0.o,if_pos b1]);go_wp2;go_ret
    exact⟨q0T a2.o.symm,a1.o.low⟩
  ·have b3:¬(ne:Int)+(nf:Int)<63:=by omega
   have b8:(63:Int)<=(ne:Int)+(nf:Int):=by omega
   have a2:Hid (q0b (ne:Int) (nf:Int) b=0):=vv (by
    have e:ne+nf=63:=by omega
    rw[HE.o,if_neg];have:=b2.o;rw[show 1+ne+nf=64 by omega,show(2:Nat)^64=18446744073709551616 from rfl];omega)
   go_wp2;go_ret
   exact⟨q0T a2.o.symm,a1.o.low⟩
end Go.Proofs.YtppgcnhlpnmieaaGreatDoor.R3
namespace Go.Proofs.YtppgcnhlpnmieaaGreatDoor.R12
open Go Go.RowKit R5 Scn Fms Hx
def RlI(E F:Nat)(s:ByteArray)(d:Nat)(w:World)(x i:Value)(wr:World):Prop:=
 ∃k:Nat,k<=2+d/\i=.int .i64 (k:Int)/\x=.int .u64 ((q1f s (k-2):Nat):Int)/\(∀j,j<k->0<=atL s j)/\Ctx w [(w.heap.size,23,[.int .i64 (E:Int),.int .i64 (F:Int)])] wr
end Go.Proofs.YtppgcnhlpnmieaaGreatDoor.R12
