/- Lemmas. -/
import Derived.Test.YtppgcnhlpnmieaaGreatDoorPartBN
import Derived.Test.YtppgcnhlpnmieaaGreatDoorPartBJ
set_option linter.all false
set_option maxRecDepth 100000
namespace Go.Proofs.YtppgcnhlpnmieaaGreatDoor.Hx
open Go Go.RowKit R5 Scn Fms Exa
theorem q3Z:∀k,hexL 0 k=List.replicate k 48
 | 0=>rfl
 | k+1=>by
  show hx (0/16^k%16)::hexL 0 k=_;rw[Nat.zero_div,q3Z k,List.replicate_succ]
  rfl
set_option maxHeartbeats 8000000 in
theorem qbQ(E F b:Nat)(neg g:Bool)(x:Int)(places mode:Nat)(w:World)(hb:b<18446744073709551616)(hp:Ten w)(hpl:places<=2000)(hmd:mode<=4)
  (hfit:q0b E F b=0) (hF:∀w',Below w.heap.size w w'->Calls Tryz.prog 53 #[fm E F,.int .u64 (b:Int)] w' (qbX neg g 0 x w')) :
  Calls Tryz.prog 20 #[fm E F,.int .u64 b,.int .i64 (places:Int),.int .u8 (mode:Int)] w fun e w'=>e=.returned (.tuple #[.string ⟨(q7L neg g 0 x mode places).toArray⟩,.int .i64 0])/\Below w.heap.size w w':=by
 have a1:=vv fun w=>Fms.Fits E F b w hb
 rw[hfit] at a1;have hL:q7L neg g 0 x mode places=txtL neg (List.replicate (places+1) 48) 0:=by
  unfold q7L;rw[if_pos rfl,q3Z]
 rw[hL];have a3:=vv fun w' (h:Below w.heap.size w w')=>q9t neg (List.replicate (places+1) 48) 0 w' (by simp) (by rw[List.length_replicate];omega) (by decide) (by decide) (hp.below h)
 have a4:Hid (∀w',Calls Tryz.prog 68 #[.string Rpt.nought,.int .i64 (1+(places:Int))] w' fun e w''=>e=.returned (.string ⟨(List.replicate (places+1) 48).toArray⟩)/\Below w'.heap.size w' w''):=vv fun w'=>by
  have h:=Rpt.Repeat (places+1) w' (by omega) (by omega)
  rwa [show((places+1:Nat):Int)=1+(places:Int) by omega] at h
 obtain⟨t,ht⟩:∃t:ByteArray,t=⟨(List.replicate (places+1) 48).toArray⟩:=⟨_,rfl⟩;obtain⟨r,hr⟩:∃r:ByteArray,r=⟨(txtL neg (List.replicate (places+1) 48) 0).toArray⟩:=⟨_,rfl⟩;rw[<- ht,<- hr] at a3;rw[<- ht] at a4;rw[<- hr];have a7:(places:Int)<=2000:=by omega
 have b1:(mode:Int)<=4:=by omega
 have dm:decide ((4:Int)<(mode:Int))=false:=decide_eq_false (by omega);obtain⟨w0,a2⟩:=yx (w.alloc (.cells #[.int .i64 (E:Int),.int .i64 (F:Int)] 23));have hC:Ctx w [(w.heap.size,23,[.int .i64 (E:Int),.int .i64 (F:Int)])] w0:=by rw[a2];exact(Ctx.nil w).new _ _ rfl
 have HW:=vv a2;have HC:=vv hC;have a8:=vv hF;have c0:=hC.get 0 rfl |>.cell 0;have c1:=hC.get 0 rfl |>.cell 1;have cl:=hC.get 0 rfl |>.lt;simp only[List.getElem?_cons_zero,List.getElem?_cons_succ] at c0 c1;clear a2 hC hF hp hpl hmd hfit hb ht hr hL;go_enter Tryz.func20,Tryz.ntmps20
 go_wp2_with fail
 rw[<- HW.o];go_wp2_with fail
 refine(a1.o _).mono ?_;rintro e w1 ⟨rfl,hB⟩;have a0:=vv (HC.o.step hB);clear hB c0 c1 cl HC;have c0:=a0.o.get 0 rfl |>.cell 0;have c1:=a0.o.get 0 rfl |>.cell 1;have cl:=a0.o.get 0 rfl |>.lt;simp only[List.getElem?_cons_zero,List.getElem?_cons_succ] at c0 c1;go_wp2_with fail
 refine(a8.o _ a0.o.low).mono ?_;rintro e w2 ⟨A,m,rfl,hA,_,hB⟩;have hm:m=0:=hA.len.symm;subst hm;have a5:Below w2.heap.size w2 (w2.alloc (.cells #[.bool g,.slice A 0 0,.int .i64 x] 30)):=(Below.refl _ _).alloc lr _;have a9:=vv (a0.o.step (hB.trans (a5.mono hB.size)));clear hA hB a5 c0 c1 cl a0;go_wp2_with fail
 refine(a4.o _).mono ?_;rintro e w3 ⟨rfl,hB⟩;have a6:=vv (a9.o.step hB);clear hB;go_wp2_with fail
 refine(a3.o _ a6.o.low).mono ?_;rintro e w4 ⟨rfl,hB⟩;have b0:=vv (a6.o.step hB);clear hB;go_wp2;go_ret2
 exact⟨rfl,b0.o.low⟩
end Go.Proofs.YtppgcnhlpnmieaaGreatDoor.Hx
