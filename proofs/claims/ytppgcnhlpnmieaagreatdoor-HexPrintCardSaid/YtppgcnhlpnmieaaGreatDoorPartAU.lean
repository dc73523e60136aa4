/- Lemmas. -/
import Derived.Test.YtppgcnhlpnmieaaGreatDoorPartAJ
import Derived.Test.YtppgcnhlpnmieaaGreatDoorPartAT
import Derived.Deep.RegionWith
set_option linter.all false
namespace Go.Proofs.YtppgcnhlpnmieaaGreatDoor.B
open Go Go.RowKit
theorem qaV(g o:Nat)(v u:Int)(b:Bool)(A:Option Addr)(n c:Nat)(xs:List Nat)(w:World)(h:IntAt w g o v)(hr:Rd w A n c xs)(hz:∀a,A=some a->a.off=0)
  (hu:u.natAbs=val xs) (hb:decide (u<0)=(b && decide (0<val xs))) :
  Calls Tryz.prog 142 #[.pointer (some ⟨g,o,none⟩),.bool b,.slice A n c] w (q0i g o u w):=by
 have a1:=hr.sm;have HT:=vv (q1a A n c xs w hr);have HI:=vv h;have a4:=h.lt;have a5:=h.fz o;have a6:=h.fz (o+1);obtain⟨A',n',c',h0,h1,a2,a3⟩:=h.ex;have HU:=vv hu;have HB:=vv hb;clear h hr a2 a3 hu hb;go_enter Tryz.func142,Tryz.ntmps142
 go_wp2_with fail
 refine HT.o.mono ?_;rintro e w' ⟨m,rfl,rfl,hR⟩;have a7:=hR.sm;have a0:m=0↔val xs=0:=by rw[<- hR.words];exact q05
 have HR:=vv hR;clear hR HT a1;cases b
 ·have HF:Hid (decide (u<0)=false):=vv (by rw[HB.o];rfl);clear a0;go_wp2;go_ret
  exact⟨rfl,HI.o.put HF.o.symm (by rw[HU.o];exact HR.o) hz,q3S _ _ _ _ _⟩
 ·have HF:Hid (decide (u<0)=decide (0<m)):=vv (by rw[HB.o,Bool.true_and];by_cases h:m=0<;>simp<;>omega);clear a0;go_wp2;go_ret
  exact⟨rfl,HI.o.put HF.o.symm (by rw[HU.o];exact HR.o) hz,q3S _ _ _ _ _⟩
theorem q0m(g o:Nat)(v u:Int)(b:Bool)(A:Option Addr)(n c N:Nat)(w:World)(h:IntAt w g o v)(hr:Rd w A n c (toL N))(hf:∀a,A=some a->a.off=0)
  (hu:u.natAbs=N) (hb:decide (u<0)=(b && decide (0<N))) :
  Calls Tryz.prog 142 #[.pointer (some ⟨g,o,none⟩),.bool b,.slice A n c] w (q0i g o u w):=
 qaV g o v u b A n c (toL N) w h hr hf (by rw[q00];exact hu) (by rw[q00];exact hb)
theorem Set(g o gx ox:Nat)(v u:Int)(w:World)(h:IntAt w g o v)(hx:IntAt w gx ox u):
  Calls Tryz.prog 144 #[.pointer (some ⟨g,o,none⟩),.pointer (some ⟨gx,ox,none⟩)] w (q0i g o u w):=by
 have HI:=vv h;have a0:=hx.lt;obtain⟨A,n,c,h0,h1,hr,hz⟩:=hx.ex;have HR:=vv hr.drew;have HZ:=vv hz;clear hr hz h hx;go_enter Tryz.func144,Tryz.ntmps144
 go_wp2_with fail
 go_region_with (first
  | (go_at_call 143;(with_reducible refine(q0F _ _ _ _ _ HR.o).mono ?_);rintro e w1 ⟨rfl,hO,hB⟩;have a1:Hid (Rd w1 (some ⟨w.heap.size,0,none⟩) n n (toL u.natAbs)):=vv (hO.rd HR.o.len.symm lr HR.o.sm);have a2:=(hB.cell (p:=⟨gx,ox,none⟩) a0).trans h0)
  | (go_at_call 142;(with_reducible refine(q0m g o v u _ _ n n u.natAbs _ (HI.o.drew.below hB) a1.o (fun a e=>by cases e;rfl) rfl (q6d u)).mono ?_);rintro e w2 ⟨rfl,hI,hF⟩))
 all_goals
  go_wp2;go_ret
  exact⟨rfl,hI,((Fm.of_below hB HI.o.lt).trans hF).undrew⟩
theorem Abs(g o gx ox:Nat)(v u:Int)(w:World)(h:IntAt w g o v)(hx:IntAt w gx ox u):
  Calls Tryz.prog 65 #[.pointer (some ⟨g,o,none⟩),.pointer (some ⟨gx,ox,none⟩)] w (q0i g o (u.natAbs:Int) w):=by
 have HI:=vv h;have a0:=hx.lt;obtain⟨A,n,c,h0,h1,hr,hz⟩:=hx.ex;have HR:=vv hr;clear hr hz h hx;go_enter Tryz.func65,Tryz.ntmps65
 go_wp2_with fail
 refine(q0F _ _ _ _ _ HR.o).mono ?_;rintro e w1 ⟨rfl,hO,hB⟩;have HO:=vv hO;clear hO;go_wp2_with fail
 refine(q0m g o v (u.natAbs:Int) _ _ n n u.natAbs _ (HI.o.below hB) (HO.o.rd HR.o.len.symm lr HR.o.sm) (fun a e=>by cases e;rfl) rfl (q1w (by omega))).mono ?_;rintro e w2 ⟨rfl,hI,hF⟩;go_wp2;go_ret
 exact⟨rfl,hI,(Fm.of_below hB HI.o.lt).trans hF⟩
theorem Neg(g o gx ox:Nat)(v u:Int)(w:World)(h:IntAt w g o v)(hx:IntAt w gx ox u):
  Calls Tryz.prog 264 #[.pointer (some ⟨g,o,none⟩),.pointer (some ⟨gx,ox,none⟩)] w (q0i g o (-u) w):=by
 have HI:=vv h;have a0:=hx.lt;obtain⟨A,n,c,h0,h1,hr,hz⟩:=hx.ex;have HR:=vv hr.drew;clear hr hz h hx;go_enter Tryz.func264,Tryz.ntmps264
 go_wp2_with fail
 go_region_with (first
  | (go_at_call 143;(with_reducible refine(q0F _ _ _ _ _ HR.o).mono ?_);rintro e w1 ⟨rfl,hO,hB⟩;have a1:Hid (Rd w1 (some ⟨w.heap.size,0,none⟩) n n (toL u.natAbs)):=vv (hO.rd HR.o.len.symm lr HR.o.sm);have a2:=(hB.cell (p:=⟨gx,ox,none⟩) a0).trans h0)
  | (go_at_call 142;(with_reducible refine(q0m g o v (-u) _ _ n n u.natAbs _ (HI.o.drew.below hB) a1.o (fun a e=>by cases e;rfl) (Int.natAbs_neg u) (q7Z u)).mono ?_);rintro e w2 ⟨rfl,hI,hF⟩))
 all_goals
  go_wp2;go_ret
  exact⟨rfl,hI,((Fm.of_below hB HI.o.lt).trans hF).undrew⟩
theorem SetWords(g o:Nat)(v:Int)(A:Option Addr)(n c:Nat)(xs:List Nat)(w:World)(h:IntAt w g o v)(hr:Rd w A n c xs):
  Calls Tryz.prog 178 #[.pointer (some ⟨g,o,none⟩),.slice A n c] w (q0i g o (val xs:Int) w):=by
 have HI:=vv h;have HR:=vv hr;clear hr h;go_enter Tryz.func178,Tryz.ntmps178
 go_wp2_with fail
 refine(q0F _ _ _ _ _ HR.o).mono ?_;rintro e w1 ⟨rfl,hO,hB⟩;have HO:=vv hO;clear hO;go_wp2_with fail
 refine(qaV g o v (val xs:Int) _ _ n n xs _ (HI.o.below hB) (HO.o.rd HR.o.len.symm lr HR.o.sm) (fun a e=>by cases e;rfl) rfl (q1w (by omega))).mono ?_;rintro e w2 ⟨rfl,hI,hF⟩;go_wp2;go_ret
 exact⟨rfl,hI,(Fm.of_below hB HI.o.lt).trans hF⟩
theorem SetInt64(g o:Nat)(v x:Int)(w:World)(h:IntAt w g o v)(h1:-9223372036854775808<=x)(h2:x<=9223372036854775807):
  Calls Tryz.prog 181 #[.pointer (some ⟨g,o,none⟩),.int .i64 x] w (q0i g o x w):=by
 have HI:=vv h;clear h;rcases Int.lt_or_le x 0 with hx|hx
 ·obtain⟨k,hk⟩:∃k:Nat,k=x.natAbs:=⟨_,rfl⟩;have a1:k<18446744073709551616:=by omega
  have e1:IntKind.u64.wrap (-IntKind.u64.wrap x)=(k:Int):=by rw[IntKind.wrap_u64,IntKind.wrap_u64];omega
  have e2:IntKind.u64.wrap (-(x%18446744073709551616))=(k:Int):=by rw[IntKind.wrap_u64];omega
  have HF:=vv (q1Z k w a1);have HK:=vv hk;clear hk a1;go_enter Tryz.func181,Tryz.ntmps181
  go_wp2_with fail
  refine HF.o.mono ?_;rintro e w1 ⟨A,m,c,rfl,hR,a0,hB⟩;have HR:=vv hR;clear hR;go_wp2_with fail
  refine(q0m g o v x _ A m c k _ (HI.o.below hB) HR.o (fun a e=>(a0 a e).2) HK.o.symm (by have:=HK.o;simp;omega)).mono ?_;rintro e w2 ⟨rfl,hI,hF⟩;go_wp2;go_ret
  exact⟨rfl,hI,(Fm.of_below hB HI.o.lt).trans hF⟩
 ·obtain⟨k,rfl⟩:∃k:Nat,x=k:=⟨x.toNat,by omega⟩;have HF:=vv (q1Z k w (by omega));go_enter Tryz.func181,Tryz.ntmps181
  go_wp2_with fail
  refine HF.o.mono ?_;rintro e w1 ⟨A,m,c,rfl,hR,a0,hB⟩;have HR:=vv hR;clear hR;go_wp2_with fail
  refine(q0m g o v k _ A m c k _ (HI.o.below hB) HR.o (fun a e=>(a0 a e).2) rfl (q1w (by omega))).mono ?_;rintro e w2 ⟨rfl,hI,hF⟩;go_wp2;go_ret
  exact⟨rfl,hI,(Fm.of_below hB HI.o.lt).trans hF⟩
theorem Sign(g o:Nat)(u:Int)(w:World)(h:IntAt w g o u):
  Calls Tryz.prog 177 #[.pointer (some ⟨g,o,none⟩)] w fun e w'=>e=.returned (.int .i64 u.sign)/\w=w':=by
 have a0:=h.lt;obtain⟨A,n,c,h0,h1,hr,hz⟩:=h.ex;have hn:n=0↔u=0:=by rw[<- hr.words,q05];omega
 have a1:=hr.sm;clear hr hz h;rcases Int.lt_trichotomy u 0 with hu|hu|hu
 ·have hd:decide (u<0)=true:=decide_eq_true hu;have e1:((n:Int)==0)=false:=by simp;omega
  have HS:=vv (Int.sign_eq_neg_one_of_neg hu);rw[hd] at h0;clear hn hu hd;go_enter Tryz.func177,Tryz.ntmps177
  go_wp2;go_ret
  exact⟨q0T HS.o.symm,rfl⟩
 ·obtain rfl:n=0:=hn.2 hu;subst hu;clear hn;go_enter Tryz.func177,Tryz.ntmps177
  go_wp2;go_ret
  exact⟨rfl,rfl⟩
 ·have hd:decide (u<0)=false:=decide_eq_false (by omega);have e1:((n:Int)==0)=false:=by simp;omega
  have HS:=vv (Int.sign_eq_one_of_pos hu);rw[hd] at h0;clear hn hu hd;go_enter Tryz.func177,Tryz.ntmps177
  go_wp2;go_ret
  exact⟨q0T HS.o.symm,rfl⟩
theorem BitLen(g o:Nat)(u:Int)(w:World)(h:IntAt w g o u):
  Calls Tryz.prog 115 #[.pointer (some ⟨g,o,none⟩)] w fun e w'=>e=.returned (.int .i64 ((bl u.natAbs:Nat):Int))/\w=w':=by
 have a0:=h.lt;obtain⟨A,n,c,h0,h1,hr,hz⟩:=h.ex;have HB:=vv (bitLen _ _ _ _ _ hr);clear hr hz h h0;go_enter Tryz.func115,Tryz.ntmps115
 go_wp2_with fail
 refine HB.o.mono ?_;rintro e w' ⟨rfl,rfl⟩;go_wp2;go_ret
 exact⟨rfl,rfl⟩
end Go.Proofs.YtppgcnhlpnmieaaGreatDoor.B
namespace Go.Proofs.YtppgcnhlpnmieaaGreatDoor.A
open Go Go.RowKit
theorem qaV(g o:Nat)(v u:Int)(b:Bool)(A:Option Addr)(n c:Nat)(xs:List Nat)(w:World)(h:IntAt w g o v)(hr:Rd w A n c xs)(hz:∀a,A=some a->a.off=0)
  (hu:u.natAbs=val xs) (hb:decide (u<0)=(b && decide (0<val xs))) :
  Calls Tryz.prog 240 #[.pointer (some ⟨g,o,none⟩),.bool b,.slice A n c] w (q0i g o u w):=by
 have a1:=hr.sm;have HT:=vv (q1a A n c xs w hr);have HI:=vv h;have a4:=h.lt;have a5:=h.fz o;have a6:=h.fz (o+1);obtain⟨A',n',c',h0,h1,a2,a3⟩:=h.ex;have HU:=vv hu;have HB:=vv hb;clear h hr a2 a3 hu hb;go_enter Tryz.func240,Tryz.ntmps240
 go_wp2_with fail
 refine HT.o.mono ?_;rintro e w' ⟨m,rfl,rfl,hR⟩;have a7:=hR.sm;have a0:m=0↔val xs=0:=by rw[<- hR.words];exact q05
 have HR:=vv hR;clear hR HT a1;cases b
 ·have HF:Hid (decide (u<0)=false):=vv (by rw[HB.o];rfl);clear a0;go_wp2;go_ret
  exact⟨rfl,HI.o.put HF.o.symm (by rw[HU.o];exact HR.o) hz,q3S _ _ _ _ _⟩
 ·have HF:Hid (decide (u<0)=decide (0<m)):=vv (by rw[HB.o,Bool.true_and];by_cases h:m=0<;>simp<;>omega);clear a0;go_wp2;go_ret
  exact⟨rfl,HI.o.put HF.o.symm (by rw[HU.o];exact HR.o) hz,q3S _ _ _ _ _⟩
theorem q0m(g o:Nat)(v u:Int)(b:Bool)(A:Option Addr)(n c N:Nat)(w:World)(h:IntAt w g o v)(hr:Rd w A n c (toL N))(hf:∀a,A=some a->a.off=0)
  (hu:u.natAbs=N) (hb:decide (u<0)=(b && decide (0<N))) :
  Calls Tryz.prog 240 #[.pointer (some ⟨g,o,none⟩),.bool b,.slice A n c] w (q0i g o u w):=
 qaV g o v u b A n c (toL N) w h hr hf (by rw[q00];exact hu) (by rw[q00];exact hb)
theorem Set(g o gx ox:Nat)(v u:Int)(w:World)(h:IntAt w g o v)(hx:IntAt w gx ox u):
  Calls Tryz.prog 250 #[.pointer (some ⟨g,o,none⟩),.pointer (some ⟨gx,ox,none⟩)] w (q0i g o u w):=by
 have HI:=vv h;have a0:=hx.lt;obtain⟨A,n,c,h0,h1,hr,hz⟩:=hx.ex;have HR:=vv hr.drew;have HZ:=vv hz;clear hr hz h hx;go_enter Tryz.func250,Tryz.ntmps250
 go_wp2_with fail
 go_region_with (first
  | (go_at_call 241;(with_reducible refine(q0F _ _ _ _ _ HR.o).mono ?_);rintro e w1 ⟨rfl,hO,hB⟩;have a1:Hid (Rd w1 (some ⟨w.heap.size,0,none⟩) n n (toL u.natAbs)):=vv (hO.rd HR.o.len.symm lr HR.o.sm);have a2:=(hB.cell (p:=⟨gx,ox,none⟩) a0).trans h0)
  | (go_at_call 240;(with_reducible refine(q0m g o v u _ _ n n u.natAbs _ (HI.o.drew.below hB) a1.o (fun a e=>by cases e;rfl) rfl (q6d u)).mono ?_);rintro e w2 ⟨rfl,hI,hF⟩))
 all_goals
  go_wp2;go_ret
  exact⟨rfl,hI,((Fm.of_below hB HI.o.lt).trans hF).undrew⟩
theorem Abs(g o gx ox:Nat)(v u:Int)(w:World)(h:IntAt w g o v)(hx:IntAt w gx ox u):
  Calls Tryz.prog 251 #[.pointer (some ⟨g,o,none⟩),.pointer (some ⟨gx,ox,none⟩)] w (q0i g o (u.natAbs:Int) w):=by
 have HI:=vv h;have a0:=hx.lt;obtain⟨A,n,c,h0,h1,hr,hz⟩:=hx.ex;have HR:=vv hr;clear hr hz h hx;go_enter Tryz.func251,Tryz.ntmps251
 go_wp2_with fail
 refine(q0F _ _ _ _ _ HR.o).mono ?_;rintro e w1 ⟨rfl,hO,hB⟩;have HO:=vv hO;clear hO;go_wp2_with fail
 refine(q0m g o v (u.natAbs:Int) _ _ n n u.natAbs _ (HI.o.below hB) (HO.o.rd HR.o.len.symm lr HR.o.sm) (fun a e=>by cases e;rfl) rfl (q1w (by omega))).mono ?_;rintro e w2 ⟨rfl,hI,hF⟩;go_wp2;go_ret
 exact⟨rfl,hI,(Fm.of_below hB HI.o.lt).trans hF⟩
theorem Neg(g o gx ox:Nat)(v u:Int)(w:World)(h:IntAt w g o v)(hx:IntAt w gx ox u):
  Calls Tryz.prog 152 #[.pointer (some ⟨g,o,none⟩),.pointer (some ⟨gx,ox,none⟩)] w (q0i g o (-u) w):=by
 have HI:=vv h;have a0:=hx.lt;obtain⟨A,n,c,h0,h1,hr,hz⟩:=hx.ex;have HR:=vv hr.drew;clear hr hz h hx;go_enter Tryz.func152,Tryz.ntmps152
 go_wp2_with fail
 go_region_with (first
  | (go_at_call 241;(with_reducible refine(q0F _ _ _ _ _ HR.o).mono ?_);rintro e w1 ⟨rfl,hO,hB⟩;have a1:Hid (Rd w1 (some ⟨w.heap.size,0,none⟩) n n (toL u.natAbs)):=vv (hO.rd HR.o.len.symm lr HR.o.sm);have a2:=(hB.cell (p:=⟨gx,ox,none⟩) a0).trans h0)
  | (go_at_call 240;(with_reducible refine(q0m g o v (-u) _ _ n n u.natAbs _ (HI.o.drew.below hB) a1.o (fun a e=>by cases e;rfl) (Int.natAbs_neg u) (q7Z u)).mono ?_);rintro e w2 ⟨rfl,hI,hF⟩))
 all_goals
  go_wp2;go_ret
  exact⟨rfl,hI,((Fm.of_below hB HI.o.lt).trans hF).undrew⟩
theorem SetWords(g o:Nat)(v:Int)(A:Option Addr)(n c:Nat)(xs:List Nat)(w:World)(h:IntAt w g o v)(hr:Rd w A n c xs):
  Calls Tryz.prog 302 #[.pointer (some ⟨g,o,none⟩),.slice A n c] w (q0i g o (val xs:Int) w):=by
 have HI:=vv h;have HR:=vv hr;clear hr h;go_enter Tryz.func302,Tryz.ntmps302
 go_wp2_with fail
 refine(q0F _ _ _ _ _ HR.o).mono ?_;rintro e w1 ⟨rfl,hO,hB⟩;have HO:=vv hO;clear hO;go_wp2_with fail
 refine(qaV g o v (val xs:Int) _ _ n n xs _ (HI.o.below hB) (HO.o.rd HR.o.len.symm lr HR.o.sm) (fun a e=>by cases e;rfl) rfl (q1w (by omega))).mono ?_;rintro e w2 ⟨rfl,hI,hF⟩;go_wp2;go_ret
 exact⟨rfl,hI,(Fm.of_below hB HI.o.lt).trans hF⟩
theorem SetInt64(g o:Nat)(v x:Int)(w:World)(h:IntAt w g o v)(h1:-9223372036854775808<=x)(h2:x<=9223372036854775807):
  Calls Tryz.prog 194 #[.pointer (some ⟨g,o,none⟩),.int .i64 x] w (q0i g o x w):=by
 have HI:=vv h;clear h;rcases Int.lt_or_le x 0 with hx|hx
 ·obtain⟨k,hk⟩:∃k:Nat,k=x.natAbs:=⟨_,rfl⟩;have a1:k<18446744073709551616:=by omega
  have e1:IntKind.u64.wrap (-IntKind.u64.wrap x)=(k:Int):=by rw[IntKind.wrap_u64,IntKind.wrap_u64];omega
  have e2:IntKind.u64.wrap (-(x%18446744073709551616))=(k:Int):=by rw[IntKind.wrap_u64];omega
  have HF:=vv (q1Z k w a1);have HK:=vv hk;clear hk a1;go_enter Tryz.func194,Tryz.ntmps194
  go_wp2_with fail
  refine HF.o.mono ?_;rintro e w1 ⟨A,m,c,rfl,hR,a0,hB⟩;have HR:=vv hR;clear hR;go_wp2_with fail
  refine(q0m g o v x _ A m c k _ (HI.o.below hB) HR.o (fun a e=>(a0 a e).2) HK.o.symm (by have:=HK.o;simp;omega)).mono ?_;rintro e w2 ⟨rfl,hI,hF⟩;go_wp2;go_ret
  exact⟨rfl,hI,(Fm.of_below hB HI.o.lt).trans hF⟩
 ·obtain⟨k,rfl⟩:∃k:Nat,x=k:=⟨x.toNat,by omega⟩;have HF:=vv (q1Z k w (by omega));go_enter Tryz.func194,Tryz.ntmps194
  go_wp2_with fail
  refine HF.o.mono ?_;rintro e w1 ⟨A,m,c,rfl,hR,a0,hB⟩;have HR:=vv hR;clear hR;go_wp2_with fail
  refine(q0m g o v k _ A m c k _ (HI.o.below hB) HR.o (fun a e=>(a0 a e).2) rfl (q1w (by omega))).mono ?_;rintro e w2 ⟨rfl,hI,hF⟩;go_wp2;go_ret
  exact⟨rfl,hI,(Fm.of_below hB HI.o.lt).trans hF⟩
theorem Sign(g o:Nat)(u:Int)(w:World)(h:IntAt w g o u):
  Calls Tryz.prog 165 #[.pointer (some ⟨g,o,none⟩)] w fun e w'=>e=.returned (.int .i64 u.sign)/\w=w':=by
 have a0:=h.lt;obtain⟨A,n,c,h0,h1,hr,hz⟩:=h.ex;have hn:n=0↔u=0:=by rw[<- hr.words,q05];omega
 have a1:=hr.sm;clear hr hz h;rcases Int.lt_trichotomy u 0 with hu|hu|hu
 ·have hd:decide (u<0)=true:=decide_eq_true hu;have e1:((n:Int)==0)=false:=by simp;omega
  have HS:=vv (Int.sign_eq_neg_one_of_neg hu);rw[hd] at h0;clear hn hu hd;go_enter Tryz.func165,Tryz.ntmps165
  go_wp2;go_ret
  exact⟨q0T HS.o.symm,rfl⟩
 ·obtain rfl:n=0:=hn.2 hu;subst hu;clear hn;go_enter Tryz.func165,Tryz.ntmps165
  go_wp2;go_ret
  exact⟨rfl,rfl⟩
 ·have hd:decide (u<0)=false:=decide_eq_false (by omega);have e1:((n:Int)==0)=false:=by simp;omega
  have HS:=vv (Int.sign_eq_one_of_pos hu);rw[hd] at h0;clear hn hu hd;go_enter Tryz.func165,Tryz.ntmps165
  go_wp2;go_ret
  exact⟨q0T HS.o.symm,rfl⟩
theorem BitLen(g o:Nat)(u:Int)(w:World)(h:IntAt w g o u):
  Calls Tryz.prog 98 #[.pointer (some ⟨g,o,none⟩)] w fun e w'=>e=.returned (.int .i64 ((bl u.natAbs:Nat):Int))/\w=w':=by
 have a0:=h.lt;obtain⟨A,n,c,h0,h1,hr,hz⟩:=h.ex;have HB:=vv (bitLen _ _ _ _ _ hr);clear hr hz h h0;go_enter Tryz.func98,Tryz.ntmps98
 go_wp2_with fail
 refine HB.o.mono ?_;rintro e w' ⟨rfl,rfl⟩;go_wp2;go_ret
 exact⟨rfl,rfl⟩
end Go.Proofs.YtppgcnhlpnmieaaGreatDoor.A
