/- Lemmas. -/
import Derived.Test.YtcdimmblnbkjjaaGreatDoorPartAK
import Derived.Test.YtcdimmblnbkjjaaGreatDoorPartAT
import Derived.Deep.RegionWith
set_option linter.all false
namespace Go.Proofs.YtcdimmblnbkjjaaGreatDoor.B
open Go Go.RowKit
end Go.Proofs.YtcdimmblnbkjjaaGreatDoor.B
namespace Go.Proofs.YtcdimmblnbkjjaaGreatDoor.A
open Go Go.RowKit
theorem qbm(g o:Nat)(v u:Int)(b:Bool)(A:Option Addr)(n c:Nat)(xs:List Nat)(w:World)(h:IntAt w g o v)(hr:Rd w A n c xs)(hz:∀a,A=some a->a.off=0)
  (hu:u.natAbs=val xs) (hb:decide (u<0)=(b && decide (0<val xs))) :
  Calls Tryz.prog 141 #[.pointer (some ⟨g,o,none⟩),.bool b,.slice A n c] w (q0v g o u w):=by
 have a1:=hr.sm;have HT:=vv (q1T A n c xs w hr);have HI:=vv h;have a4:=h.lt;have a5:=h.fz o;have a6:=h.fz (o+1);obtain⟨A',n',c',h0,h1,a2,a3⟩:=h.ex;have HU:=vv hu;have HB:=vv hb;clear h hr a2 a3 hu hb;go_enter Tryz.func141,Tryz.ntmps141
 go_wp2_with fail
 refine HT.o.mono ?_;rintro e w' ⟨m,rfl,rfl,hR⟩;have a7:=hR.sm;have a0:m=0↔val xs=0:=by rw[<- hR.words];exact q0c
 have HR:=vv hR;clear hR HT a1;cases b
 ·have HF:Hid (decide (u<0)=false):=vv (by rw[HB.o];rfl);clear a0;go_wp2;go_ret
  exact⟨rfl,HI.o.put HF.o.symm (by rw[HU.o];exact HR.o) hz,q6M _ _ _ _ _⟩
 ·have HF:Hid (decide (u<0)=decide (0<m)):=vv (by rw[HB.o,Bool.true_and];by_cases h:m=0<;>simp<;>omega);clear a0;go_wp2;go_ret
  exact⟨rfl,HI.o.put HF.o.symm (by rw[HU.o];exact HR.o) hz,q6M _ _ _ _ _⟩
theorem q0X(g o:Nat)(v u:Int)(b:Bool)(A:Option Addr)(n c N:Nat)(w:World)(h:IntAt w g o v)(hr:Rd w A n c (toL N))(hf:∀a,A=some a->a.off=0)
  (hu:u.natAbs=N) (hb:decide (u<0)=(b && decide (0<N))) :
  Calls Tryz.prog 141 #[.pointer (some ⟨g,o,none⟩),.bool b,.slice A n c] w (q0v g o u w):=
 qbm g o v u b A n c (toL N) w h hr hf (by rw[q03];exact hu) (by rw[q03];exact hb)
theorem Set(g o gx ox:Nat)(v u:Int)(w:World)(h:IntAt w g o v)(hx:IntAt w gx ox u):
  Calls Tryz.prog 138 #[.pointer (some ⟨g,o,none⟩),.pointer (some ⟨gx,ox,none⟩)] w (q0v g o u w):=by
 have HI:=vv h;have a0:=hx.lt;obtain⟨A,n,c,h0,h1,hr,hz⟩:=hx.ex;have HR:=vv hr.drew;have HZ:=vv hz;clear hr hz h hx;go_enter Tryz.func138,Tryz.ntmps138
 go_wp2_with fail
 go_region_with (first
  | (go_at_call 140;(with_reducible refine(q1P _ _ _ _ _ HR.o).mono ?_);rintro e w1 ⟨rfl,hO,hB⟩;have a1:Hid (Rd w1 (some ⟨w.heap.size,0,none⟩) n n (toL u.natAbs)):=vv (hO.rd HR.o.len.symm lr HR.o.sm);have a2:=(hB.cell (p:=⟨gx,ox,none⟩) a0).trans h0)
  | (go_at_call 141;(with_reducible refine(q0X g o v u _ _ n n u.natAbs _ (HI.o.drew.below hB) a1.o (fun a e=>by cases e;rfl) rfl (q9x u)).mono ?_);rintro e w2 ⟨rfl,hI,hF⟩))
 all_goals
  go_wp2;go_ret
  exact⟨rfl,hI,((Fm.of_below hB HI.o.lt).trans hF).undrew⟩
theorem Abs(g o gx ox:Nat)(v u:Int)(w:World)(h:IntAt w g o v)(hx:IntAt w gx ox u):
  Calls Tryz.prog 137 #[.pointer (some ⟨g,o,none⟩),.pointer (some ⟨gx,ox,none⟩)] w (q0v g o (u.natAbs:Int) w):=by
 have HI:=vv h;have a0:=hx.lt;obtain⟨A,n,c,h0,h1,hr,hz⟩:=hx.ex;have HR:=vv hr;clear hr hz h hx;go_enter Tryz.func137,Tryz.ntmps137
 go_wp2_with fail
 refine(q1P _ _ _ _ _ HR.o).mono ?_;rintro e w1 ⟨rfl,hO,hB⟩;have HO:=vv hO;clear hO;go_wp2_with fail
 refine(q0X g o v (u.natAbs:Int) _ _ n n u.natAbs _ (HI.o.below hB) (HO.o.rd HR.o.len.symm lr HR.o.sm) (fun a e=>by cases e;rfl) rfl (q4l (by omega))).mono ?_;rintro e w2 ⟨rfl,hI,hF⟩;go_wp2;go_ret
 exact⟨rfl,hI,(Fm.of_below hB HI.o.lt).trans hF⟩
theorem Neg(g o gx ox:Nat)(v u:Int)(w:World)(h:IntAt w g o v)(hx:IntAt w gx ox u):
  Calls Tryz.prog 185 #[.pointer (some ⟨g,o,none⟩),.pointer (some ⟨gx,ox,none⟩)] w (q0v g o (-u) w):=by
 have HI:=vv h;have a0:=hx.lt;obtain⟨A,n,c,h0,h1,hr,hz⟩:=hx.ex;have HR:=vv hr.drew;clear hr hz h hx;go_enter Tryz.func185,Tryz.ntmps185
 go_wp2_with fail
 go_region_with (first
  | (go_at_call 140;(with_reducible refine(q1P _ _ _ _ _ HR.o).mono ?_);rintro e w1 ⟨rfl,hO,hB⟩;have a1:Hid (Rd w1 (some ⟨w.heap.size,0,none⟩) n n (toL u.natAbs)):=vv (hO.rd HR.o.len.symm lr HR.o.sm);have a2:=(hB.cell (p:=⟨gx,ox,none⟩) a0).trans h0)
  | (go_at_call 141;(with_reducible refine(q0X g o v (-u) _ _ n n u.natAbs _ (HI.o.drew.below hB) a1.o (fun a e=>by cases e;rfl) (Int.natAbs_neg u) (qay u)).mono ?_);rintro e w2 ⟨rfl,hI,hF⟩))
 all_goals
  go_wp2;go_ret
  exact⟨rfl,hI,((Fm.of_below hB HI.o.lt).trans hF).undrew⟩
theorem q8N(g o:Nat)(v:Int)(A:Option Addr)(n c:Nat)(xs:List Nat)(w:World)(h:IntAt w g o v)(hr:Rd w A n c xs):
  Calls Tryz.prog 278 #[.pointer (some ⟨g,o,none⟩),.slice A n c] w (q0v g o (val xs:Int) w):=by
 have HI:=vv h;have HR:=vv hr;clear hr h;go_enter Tryz.func278,Tryz.ntmps278
 go_wp2_with fail
 refine(q1P _ _ _ _ _ HR.o).mono ?_;rintro e w1 ⟨rfl,hO,hB⟩;have HO:=vv hO;clear hO;go_wp2_with fail
 refine(qbm g o v (val xs:Int) _ _ n n xs _ (HI.o.below hB) (HO.o.rd HR.o.len.symm lr HR.o.sm) (fun a e=>by cases e;rfl) rfl (q4l (by omega))).mono ?_;rintro e w2 ⟨rfl,hI,hF⟩;go_wp2;go_ret
 exact⟨rfl,hI,(Fm.of_below hB HI.o.lt).trans hF⟩
theorem q8O(g o:Nat)(v x:Int)(w:World)(h:IntAt w g o v)(h1:-9223372036854775808<=x)(h2:x<=9223372036854775807):
  Calls Tryz.prog 94 #[.pointer (some ⟨g,o,none⟩),.int .i64 x] w (q0v g o x w):=by
 have HI:=vv h;clear h;rcases Int.lt_or_le x 0 with hx|hx
 ·obtain⟨k,hk⟩:∃k:Nat,k=x.natAbs:=⟨_,rfl⟩;have a1:k<18446744073709551616:=by omega
  have e1:IntKind.u64.wrap (-IntKind.u64.wrap x)=(k:Int):=by rw[IntKind.wrap_u64,IntKind.wrap_u64];omega
  have e2:IntKind.u64.wrap (-(x%18446744073709551616))=(k:Int):=by rw[IntKind.wrap_u64];omega
  have HF:=vv (q43 k w a1);have HK:=vv hk;clear hk a1;go_enter Tryz.func94,Tryz.ntmps94
  go_wp2_with fail
  refine HF.o.mono ?_;rintro e w1 ⟨A,m,c,rfl,hR,a0,hB⟩;have HR:=vv hR;clear hR;go_wp2_with fail
  refine(q0X g o v x _ A m c k _ (HI.o.below hB) HR.o (fun a e=>(a0 a e).2) HK.o.symm (by have:=HK.o;simp;omega)).mono ?_;rintro e w2 ⟨rfl,hI,hF⟩;go_wp2;go_ret
  exact⟨rfl,hI,(Fm.of_below hB HI.o.lt).trans hF⟩
 ·obtain⟨k,rfl⟩:∃k:Nat,x=k:=⟨x.toNat,by omega⟩;have HF:=vv (q43 k w (by omega));go_enter Tryz.func94,Tryz.ntmps94
  go_wp2_with fail
  refine HF.o.mono ?_;rintro e w1 ⟨A,m,c,rfl,hR,a0,hB⟩;have HR:=vv hR;clear hR;go_wp2_with fail
  refine(q0X g o v k _ A m c k _ (HI.o.below hB) HR.o (fun a e=>(a0 a e).2) rfl (q4l (by omega))).mono ?_;rintro e w2 ⟨rfl,hI,hF⟩;go_wp2;go_ret
  exact⟨rfl,hI,(Fm.of_below hB HI.o.lt).trans hF⟩
theorem Sign(g o:Nat)(u:Int)(w:World)(h:IntAt w g o u):
  Calls Tryz.prog 96 #[.pointer (some ⟨g,o,none⟩)] w fun e w'=>e=.returned (.int .i64 u.sign)/\w=w':=by
 have a0:=h.lt;obtain⟨A,n,c,h0,h1,hr,hz⟩:=h.ex;have hn:n=0↔u=0:=by rw[<- hr.words,q0c];omega
 have a1:=hr.sm;clear hr hz h;rcases Int.lt_trichotomy u 0 with hu|hu|hu
 ·have hd:decide (u<0)=true:=decide_eq_true hu;have e1:((n:Int)==0)=false:=by simp;omega
  have HS:=vv (Int.sign_eq_neg_one_of_neg hu);rw[hd] at h0;clear hn hu hd;go_enter Tryz.func96,Tryz.ntmps96
  go_wp2;go_ret
  exact⟨q0A HS.o.symm,rfl⟩
 ·obtain rfl:n=0:=hn.2 hu;subst hu;clear hn;go_enter Tryz.func96,Tryz.ntmps96
  go_wp2;go_ret
  exact⟨rfl,rfl⟩
 ·have hd:decide (u<0)=false:=decide_eq_false (by omega);have e1:((n:Int)==0)=false:=by simp;omega
  have HS:=vv (Int.sign_eq_one_of_pos hu);rw[hd] at h0;clear hn hu hd;go_enter Tryz.func96,Tryz.ntmps96
  go_wp2;go_ret
  exact⟨q0A HS.o.symm,rfl⟩
theorem BitLen(g o:Nat)(u:Int)(w:World)(h:IntAt w g o u):
  Calls Tryz.prog 54 #[.pointer (some ⟨g,o,none⟩)] w fun e w'=>e=.returned (.int .i64 ((bl u.natAbs:Nat):Int))/\w=w':=by
 have a0:=h.lt;obtain⟨A,n,c,h0,h1,hr,hz⟩:=h.ex;have HB:=vv (bitLen _ _ _ _ _ hr);clear hr hz h h0;go_enter Tryz.func54,Tryz.ntmps54
 go_wp2_with fail
 refine HB.o.mono ?_;rintro e w' ⟨rfl,rfl⟩;go_wp2;go_ret
 exact⟨rfl,rfl⟩
end Go.Proofs.YtcdimmblnbkjjaaGreatDoor.A
