/- Lemmas. -/
import Derived.Test.YtcdimmblnbkjjaaGreatDoorPartAJ
import Derived.Deep.RegionHeld3
import Derived.Test.YtcdimmblnbkjjaaGreatDoorPartAH
set_option linter.all false
namespace Go.Proofs.YtcdimmblnbkjjaaGreatDoor.B
open Go Go.RowKit
end Go.Proofs.YtcdimmblnbkjjaaGreatDoor.B
namespace Go.Proofs.YtcdimmblnbkjjaaGreatDoor.A
open Go Go.RowKit
theorem q8e(A B:Option Addr)(n m c d:Nat)(xs ys:List Nat)(w:World)
  (ih:∀(A B:Option Addr) (n' m' c d:Nat) (xs ys:List Nat) (w:World),n'+m'<n+m->Rd w A n' c xs->Rd w B m' d ys->Calls Tryz.prog 142 #[.slice A n' c,.slice B m' d] w (q0e (val xs*val ys) w))
  (ha:Rd w A n c xs) (hb:Rd w B m d ys) (hs:n+m<35184372088832) (h40:40<=m) (h2:2*m<=n) :
  Calls Tryz.prog 142 #[.slice A n c,.slice B m d] w (q0e (val xs*val ys) w):=by
 have b7:=mk1 (n+m) hs;have ec:((n+m:Nat):Int)=(n:Int)+(m:Int):=by omega
 rw[ec] at b7;clear ec;have c9:=ha.le;obtain⟨b,off,rfl,d0,_⟩:=ha.cell (by omega);have IH:=vv ih;clear ih;have t1:decide (n<m)=false:=by simp;omega
 have t2:decide ((m:Int)<40)=false:=by simp;omega
 have t3:decide (2*(m:Int)<=(n:Int))=true:=by simp;omega
 go_enter Tryz.func142,Tryz.ntmps142
 go_wp2_with fail
 go_loopw [6] (fun i wr=>∃(p:Nat) (V:List Nat),i=.int .i64 p/\p<=n+m/\V.length=n+m+1/\Own wr w.heap.size 34 V/\val V=val (xs.take p)*val ys/\Below w.heap.size w wr) (fun i _=>n+m-(intOf i).toNat)
 case atStart=>exact⟨0,List.replicate (n+m+1) 0,rfl,Nat.zero_le _,by simp,Own.made _ _ _,by simp [val,q0h],(Below.refl _ _).alloc lr _⟩
 case round =>
  obtain⟨p,V,rfl,hp,a7,a1,a2,a0⟩:=hrel;have HV:=vv a2;have HL:=vv a7;have HO:=vv a1;have hg:=a1.lt;have a3:=HO;clear a2 a7 a1;by_cases hpn:p<n
  ·obtain⟨q,d1,d2,a8⟩:∃q,q<=m/\p+q<=n/\(xs.drop p).take m=(xs.drop p).take q/\(p+m<=n->q=m)/\(n<p+m->q=n-p):=by
    by_cases h:p+m<=n
    ·exact⟨m,lr,h,rfl,fun _=>rfl,fun h'=>absurd h' (by omega)⟩
    ·refine⟨n-p,by omega,by omega,?_,fun h'=>absurd h' h,fun _=>rfl⟩;rw[q0l (by rw[List.length_drop,ha.len];omega),q0l (by rw[List.length_drop,ha.len];omega)]
   have hC:=vv ((((ha.below a0 rfl).drop (k:=p) (by omega)).take (k:=q) (by omega)));have HQ:=vv a8;clear a8;have fin:∀(m':Nat) (w1:World) (A1:Option Addr) (n1 c1:Nat),Rd w1 A1 n1 c1 (toL (val (toL (val ((xs.drop p).take q)))*val ys))->val V+4294967296^p*(val (toL (val ((xs.drop p).take q)))*val ys)=val (xs.take (p+m))*val ys /\
     val V+4294967296^p*(val (toL (val ((xs.drop p).take q)))*val ys)<4294967296^(n+m+1):=by
    intro m' w1 A1 n1 c1 _;have e:val V+4294967296^p*(val (toL (val ((xs.drop p).take q)))*val ys)=val (xs.take (p+m))*val ys:=by
     rw[HV.o,q03,q2C,HQ.o.1,Nat.add_mul,Nat.mul_assoc]
    refine⟨e,?_⟩;rw[e];have h1:=Nat.mul_le_mul_right (val ys) (q27 xs (p+m));have h2:=q3W ha.lim hb.lim;rw[ha.len,hb.len] at h2;have h3:4294967296^(n+m)<=4294967296^(n+m+1):=Nat.pow_le_pow_right (by omega) (by omega);omega
   have Fin:=vv fin;clear fin;have HB:=vv (hb.below a0 rfl);by_cases hpm:p+m<=n
   all_goals
    go_wp2_with fail
    first|(have e:m=q:=(HQ.o.2.1 hpm).symm)|(have e:n-p=q:=(HQ.o.2.2 (by omega)).symm)
    subst e;refine(q1T _ _ _ _ _ hC.o).mono ?_;rintro e w' ⟨m',rfl,rfl,a4⟩;have b8:=a4.words;have b9:m'<=m:=by
     have h1:=hC.o.lt;have h2:=q17 h1;omega
    clear b8;have c0:=vv a4;clear a4;go_wp2_with fail
    refine(IH.o _ _ m' m _ _ _ _ _ (by omega) c0.o HB.o).mono ?_;rintro e w1 ⟨A1,n1,c1,rfl,a5,a9,a6⟩;have c2:=vv (HO.o.below a6 hg);have b0:=vv (a0.trans (a6.mono a0.size));have b1:=vv (Fin.o m' w1 A1 n1 c1 a5);have b2:∀a,A1=some a->a.block≠w.heap.size:=fun a e=>by have:=a9 a e;omega
    have c3:=vv b2;have c4:=vv a5;clear a5 a9 a6 b2;go_wp2_with fail
    refine(q4H w.heap.size (n+m+1) (n+m+1) V A1 n1 c1 p _ _ rfl w1 c2.o HL.o (by omega) c4.o c3.o (by omega) b1.o.2).mono ?_;rintro e w2 ⟨rfl,⟨V2,b3,b4,b5⟩,b6⟩;have c5:=vv b3;have c6:=vv b4;have c7:=vv (b5.trans b1.o.1);have c8:=vv (q0a b0.o b6 (by have:=b0.o.size;omega) lr);clear b3 b4 b5 b6;go_wp2;go_roundw
    case rel=>exact⟨p+m,V2,by go_num,by omega,c6.o,c5.o,c7.o,c8.o⟩
    case measure=>simp [intOf];omega
  ·have hR:=vv (a3.o.rd (n:=n+m+1) (c:=n+m+1) HL.o.symm lr (by omega));go_wp2_with fail
   refine(q1T _ _ _ _ _ hR.o).mono ?_;rintro e w' ⟨m',rfl,rfl,a4⟩;go_wp2;go_ret
   refine⟨_,m',n+m+1,rfl,?_,Fr.at_ lr,a0⟩;have e:=HV.o;rw[q0l (xs:=xs) (by rw[ha.len];omega)] at e;rw[<- e];exact a4
theorem q4s(A B:Option Addr)(n m c d:Nat)(xs ys:List Nat)(w:World)(ha:Rd w A n c xs)(hb:Rd w B m d ys)(hs:n+m<35184372088832)(h40:m<40)(h2:m<=n):
  Calls Tryz.prog 142 #[.slice A n c,.slice B m d] w (q0e (val xs*val ys) w):=by
 go_enter Tryz.func142,Tryz.ntmps142
 go_wp2_with fail
 refine(qaH A B n m c d xs ys w ha hb (by omega)).mono ?_;rintro e w1 ⟨A1,n1,c1,rfl,a0,a1,a2⟩;go_wp2;go_ret
 exact⟨A1,n1,c1,rfl,a0,a1,a2⟩
theorem q8f(A B:Option Addr)(n m c d:Nat)(xs ys:List Nat)(w:World)
  (ih:∀(A B:Option Addr) (n' m' c d:Nat) (xs ys:List Nat) (w:World),n'+m'<n+m->Rd w A n' c xs->Rd w B m' d ys->Calls Tryz.prog 142 #[.slice A n' c,.slice B m' d] w (q0e (val xs*val ys) w))
  (ha:Rd w A n c xs) (hb:Rd w B m d ys) (hs:n+m<35184372088832) (h40:40<=m) (h2:n<2*m) (hmn:m<=n) :
  Calls Tryz.prog 142 #[.slice A n c,.slice B m d] w (q0e (val xs*val ys) w):=by
 have k3:=mk1 (n+m) hs;have ec:((n+m:Nat):Int)=(n:Int)+(m:Int):=by omega
 rw[ec] at k3;clear ec;have l1:=ha.le;have l2:=hb.le;obtain⟨b,off,rfl,l3,_⟩:=ha.cell (by omega);obtain⟨b',off',rfl,k4,_⟩:=hb.cell (by omega);have IH:=vv ih;clear ih;have b6:Below w.heap.size w (w.alloc (.cells (madeCells #[.int .u32 0] (n+m+1)) 34)):=(Below.refl _ _).alloc lr _;have HA:=vv (ha.below b6 rfl);have HB:=vv (hb.below b6 rfl);have HO:=vv (Own.made w (n+m+1) 34);have e9:=vv b6;clear b6;obtain⟨h,hh,h3,h4⟩:∃h:Nat,((n:Int)+1)/2=(h:Int)/\2*h<=n+1/\n<=2*h:=⟨(n+1)/2,by omega,by omega,by omega⟩;have i1:(0:Int)<=(h:Int):=by omega
 have i2:(h:Int)<=(c:Int):=by omega
 have i3:(h:Int)<=(d:Int):=by omega
 go_enter Tryz.func142,Tryz.ntmps142
 go_wp2_with fail
 have a2:=vv (HA.o.take (k:=h) (by omega));have a3:=vv (HB.o.take (k:=h) (by omega));have LA:=vv ha.lim;have LB:=vv hb.lim;have LNA:=vv ha.len;have LNB:=vv hb.len;have LXL:=vv ((a2.o).lt);have LYL:=vv ((a3.o).lt);have LXH:Hid (val (xs.drop h)<4294967296^h):=vv (q1M (q0G (q0F ha.lim h)) (by rw[List.length_drop,ha.len];omega));have LYH:Hid (val (ys.drop h)<4294967296^h):=vv (q1M (q0G (q0F hb.lim h)) (by rw[List.length_drop,hb.len];omega));go_region_held3 (fun _=>True) (trivial) (first
  | (go_at_call 144;(with_reducible refine(q1T _ _ _ _ _ (a2.o.drew)).mono ?_);rintro e w' ⟨ma,rfl,rfl,c8⟩;have l4:ma<=h:=c8.trim_le (q0t LA.o _) (by rw[List.length_take];omega))
  | (go_at_call 144;(with_reducible refine(q1T _ _ _ _ _ (a3.o.drew)).mono ?_);rintro e w' ⟨mb,rfl,rfl,c9⟩;have l5:mb<=h:=c9.trim_le (q0t LB.o _) (by rw[List.length_take];omega))
  | (go_at_call 142;(with_reducible refine(IH.o _ _ _ _ _ _ _ _ _ (by omega) c8 c9).mono ?_);intro e w1 f0;obtain⟨A1,n1,c1,rfl,hR1,hF1,hB1⟩:=f0.val2))
 have d0:=vv (HA.o.drew.below hB1 rfl);have d1:=vv (HB.o.drew.below hB1 rfl);have b7:=vv (HO.o.drew.below hB1 (by simp));have d2:=vv ((q04 e9.o).trans (hB1.mono (by simp)));have f1:=vv hR1;have k5:=vv (hF1.mono (B:=w.heap.size+1) (by simp));clear c8 c9 hR1 hF1 hB1 a2 a3;go_wp2_with fail
 have j1:(h:Int)<=(n:Int):=by omega
 have j2:(h:Int)<=(m:Int):=by omega
 have a7:=vv ((d0.o.drop (k:=h) (by omega)).drew);have l6:¬c=h:=by omega
 obtain⟨Ab,l7,a0⟩:∃Ab:Option Addr,(if d=h then some (⟨b',off',none⟩:Addr) else some ⟨b',off'+h,none⟩)=Ab/\∀w',Rd w' (some ⟨b',off',none⟩) m d ys->Rd w' Ab (m-h) (d-h) (ys.drop h):=by
  by_cases hdh:d=h
  ·exact⟨_,if_pos hdh,fun w' d3=>d3.drop0 hdh.symm _⟩
  ·exact⟨_,if_neg hdh,fun w' d3=>d3.drop (by omega)⟩
 have a8:=vv a0;have a9:=vv ((a0 _ d1.o).drew);clear a0;go_region_held3 (fun _=>True) (trivial) (first
  | (go_at_call 142;(with_reducible refine(IH.o _ _ _ _ _ _ _ _ _ (by omega) a7.o a9.o).mono ?_);rintro e w2 ⟨A2,n2,c2,rfl,f2,f3,a4⟩))
 have d4:=vv (d0.o.drew.below a4 rfl);have d5:=vv (d1.o.drew.below a4 rfl);have b0:=vv (b7.o.drew.below a4 b7.o.lt);have b1:=vv ((q04 d2.o).trans (a4.mono (by have:=d2.o.size;simpa using this)));have f4:=vv (f1.o.drew.below a4 rfl);have f5:=vv f2;have d6:=vv (f3.mono (B:=w.heap.size+1) (by have:=b7.o.lt;rw[World.size_drew];omega));clear a7 a9 f2 f3 a4 d0 d1 b7 d2 f1;go_wp2_with fail
 have a2:=vv ((d4.o.take (k:=h) (by omega)).drew);have a3:=vv ((d5.o.take (k:=h) (by omega)).drew);have a7:=vv ((d4.o.drop (k:=h) (by omega)).drew);have a9:=vv ((a8.o _ d5.o).drew);go_region_held3 (fun _=>True) (trivial) (first
  | (go_at_call 144;(with_reducible refine(q1T _ _ _ _ _ a2.o).mono ?_);rintro e w' ⟨mc,rfl,rfl,d7⟩;have l8:mc<=h:=d7.trim_le (q0t LA.o _) (by rw[List.length_take];omega))
  | (go_at_call 194;(with_reducible refine(q1Y _ _ _ _ _ _ _ _ _ d7 a7.o (by omega) (by omega)).mono ?_);intro e w3 f6;obtain⟨A3,n3,c3,rfl,hR3,hF3,hB3⟩:=f6.add2;have l9:n3<=h+1:=hR3.bound (q5n LXL.o LXH.o))
  | (go_at_call 144;(with_reducible refine(q1T _ _ _ _ _ (a3.o.below hB3 rfl)).mono ?_);rintro e w' ⟨md,rfl,rfl,d8⟩;have k6:md<=h:=d8.trim_le (q0t LB.o _) (by rw[List.length_take];omega))
  | (go_at_call 194;(with_reducible refine(q1Y _ _ _ _ _ _ _ _ _ d8 (a9.o.below hB3 rfl) (by omega) (by omega)).mono ?_);intro e w4 f7;obtain⟨A4,n4,c4,rfl,hR4,hF4,hB4⟩:=f7.add2;have m0:n4<=h+1:=hR4.bound (q5n LYL.o LYH.o))
  | (go_at_call 142;(with_reducible refine(IH.o _ _ _ _ _ _ _ _ _ (by omega) (hR3.below hB4 rfl) hR4).mono ?_);intro e w5 f8;obtain⟨A5,n5,c5,rfl,hR5,hF5,hB5⟩:=f8.val2))
 have d9:=vv ((((b0.o.drew.below hB3 b0.o.lt).below hB4 (Nat.lt_of_lt_of_le b0.o.lt hB3.size)).below hB5 (Nat.lt_of_lt_of_le (Nat.lt_of_lt_of_le b0.o.lt hB3.size) hB4.size)));have f9:=vv ((((q04 b1.o).trans (hB3.mono b1.o.size)).trans (hB4.mono (Nat.le_trans b1.o.size hB3.size))).trans (hB5.mono (Nat.le_trans (Nat.le_trans b1.o.size hB3.size) hB4.size)));have b8:=vv (((f4.o.drew.below hB3 rfl).below hB4 rfl).below hB5 rfl);have g0:=vv (((f5.o.drew.below hB3 rfl).below hB4 rfl).below hB5 rfl);have e0:=vv hR5;clear a2 a3 a7 a9 d7 hR3 hF3 hB3 d8 hR4 hF4 hB4 hR5 hF5 hB5 d4 d5 b0 b1 f4 f5 HA HB HO e9 a8 IH;clear f0 f6 f7 f8;have K1:=vv (q5x (val (xs.take h)) (val (xs.drop h)) (val (ys.take h)) (val (ys.drop h)));have K2:=vv (q5w (val (xs.take h)) (val (xs.drop h)) (val (ys.take h)) (val (ys.drop h)));have K3:Hid (val (xs.take h)*val (ys.take h)+4294967296^h*((val (xs.take h)+val (xs.drop h))*(val (ys.take h)+val (ys.drop h))-val (xs.take h)*val (ys.take h)-val (xs.drop h)*val (ys.drop h))+4294967296^(2*h)*(val (xs.drop h)*val (ys.drop h))=val xs*val ys):=vv (by
  have e:=qbU (val (xs.take h)) (val (xs.drop h)) (val (ys.take h)) (val (ys.drop h)) (4294967296^h);rw[<- q0r xs h (by rw[LNA.o];omega),<- q0r ys h (by rw[LNB.o];omega),<- Nat.pow_add,<- Nat.two_mul] at e;exact e)
 have K4:Hid (val xs*val ys<4294967296^(n+m+1)):=vv (by
  have e:=q3W LA.o LB.o;rw[LNA.o,LNB.o] at e;have:4294967296^(n+m)<=4294967296^(n+m+1):=Nat.pow_le_pow_right (by omega) (by omega);omega)
 generalize hL:val (xs.take h)*val (ys.take h)=L at *
 generalize hH:val (xs.drop h)*val (ys.drop h)=H at *
 generalize hM:(val (xs.take h)+val (xs.drop h))*(val (ys.take h)+val (ys.drop h))=M at *
 clear hL hH hM;have g1:=vv d9.o.lt;go_wp2_with fail
 refine(q1U _ _ _ _ _ _ _ _ _ e0.o b8.o (by rw[q03,q03];exact K1.o) (b8.o.le_of e0.o K1.o)).mono ?_;intro e w6 g2;obtain⟨A6,n6,c6,rfl,g3,k7,a5⟩:=g2.sub2;have b9:=vv (g0.o.below a5 rfl);have g4:=vv (b8.o.below a5 rfl);have g5:=vv (d9.o.below a5 g1.o);have g6:=vn f9 a5;have e1:=vv g3;have S6:=vv (Nat.le_trans g1.o a5.size);clear g2 g3 k7 a5 g0 b8 d9 f9 e0;go_wp2_with fail
 refine(q1U _ _ _ _ _ _ _ _ _ e1.o b9.o (by rw[q03,q03];exact K2.o) (b9.o.le_of e1.o K2.o)).mono ?_;intro e w7 g7;obtain⟨A7,n7,c7,rfl,g8,g9,b2⟩:=g7.sub2;have i0:=vv (b9.o.below b2 rfl);have i4:=vv (g4.o.below b2 rfl);have i5:=vv (g5.o.below b2 S6.o);have e2:=vn g6 b2;have i6:=vv g8;have i7:=vv (g9.mono (B:=w.heap.size+1) S6.o);clear g7 g8 g9 b2 b9 g4 g5 g6 e1;have i8:∀(A:Option Addr),Fr (w.heap.size+1) A->∀a,A=some a->a.block≠w.heap.size:=fun _ hf a e=>by have:=hf a e;omega
 have a6:=vv i8;clear i8;go_wp2_with fail
 refine(q4H w.heap.size (n+m+1) (n+m+1) (List.replicate (n+m+1) 0) A1 n1 c1 0 L 0 rfl w7 i5.o (by simp) (by omega) i4.o (a6.o _ k5.o) (by omega) (by rw[q0h,Nat.pow_zero];have:=K3.o;have:=K4.o;omega)).mono ?_;rintro e w8 ⟨rfl,⟨V8,i9,j0,e3⟩,c0⟩;rw[q0h,Nat.pow_zero,Nat.zero_add,Nat.one_mul] at e3;have j3:=vv i9;have j4:=vv j0;have j5:=vv e3;have j6:=vv (i6.o.only c0 (a6.o _ i7.o));have j7:=vv (i0.o.only c0 (a6.o _ d6.o));have e4:=vv (q0a e2.o c0 e2.o.size lr);clear i9 j0 e3 c0 i5 i4 i6 i0 e2;go_wp2_with fail
 refine(q4H w.heap.size (n+m+1) (n+m+1) V8 A7 n7 c7 h (M-L-H) _ rfl w8 j3.o j4.o (by omega) j6.o (a6.o _ i7.o) (by omega) (by rw[j5.o];have:=K3.o;have:=K4.o;omega)).mono ?_;rintro e w9 ⟨rfl,⟨V9,j8,j9,e5⟩,e6⟩;rw[j5.o] at e5;have k8:=vv j8;have k9:=vv j9;have k0:=vv e5;have l0:=vv (j7.o.only e6 (a6.o _ d6.o));have k1:=vv (q0a e4.o e6 e4.o.size lr);clear j8 j9 e5 e6 j3 j4 j6 j7 e4;go_wp2_with fail
 refine(q4H w.heap.size (n+m+1) (n+m+1) V9 A2 n2 c2 (2*h) H _ (by omega) w9 k8.o k9.o (by omega) l0.o (a6.o _ d6.o) (by omega) (by rw[k0.o,K3.o];exact K4.o)).mono ?_;rintro e w10 ⟨rfl,⟨V10,b3,b4,a1⟩,b5⟩;rw[k0.o,K3.o] at a1;have e7:=vv (q0a k1.o b5 k1.o.size lr);have e8:=vv a1;have hR:=vv (b3.rd (n:=n+m+1) (c:=n+m+1) b4.symm lr (by omega));clear b3 b4 a1 b5;go_wp2_with fail
 refine(q1T _ _ _ _ _ hR.o).mono ?_;rintro e w' ⟨m',rfl,rfl,k2⟩;go_wp2;go_ret
 refine⟨_,m',n+m+1,rfl,?_,Fr.at_ lr,e7.o⟩;rw[e8.o] at k2;exact k2
theorem q4W(A B:Option Addr)(n m c d:Nat)(xs ys:List Nat)(w:World)
  (ih:∀(A B:Option Addr) (n' m' c d:Nat) (xs ys:List Nat) (w:World),n'+m'<n+m->Rd w A n' c xs->Rd w B m' d ys->Calls Tryz.prog 142 #[.slice A n' c,.slice B m' d] w (q0e (val xs*val ys) w))
  (ha:Rd w A n c xs) (hb:Rd w B m d ys) (hs:n+m<35184372088832) (h40:40<=m) (h2:2*m<=n) :
  Calls Tryz.prog 142 #[.slice B m d,.slice A n c] w (q0e (val xs*val ys) w):=by
 have b7:=mk1 (n+m) hs;have ec:((n+m:Nat):Int)=(n:Int)+(m:Int):=by omega
 rw[ec] at b7;clear ec;have c9:=ha.le;obtain⟨b,off,rfl,d0,_⟩:=ha.cell (by omega);have IH:=vv ih;clear ih;have t1:decide (n<m)=false:=by simp;omega
 have t2:decide ((m:Int)<40)=false:=by simp;omega
 have t3:decide (2*(m:Int)<=(n:Int))=true:=by simp;omega
 have t1':decide (m<n)=true:=by simp;omega
 go_enter Tryz.func142,Tryz.ntmps142
 go_wp2_with fail
 go_loopw [6] (fun i wr=>∃(p:Nat) (V:List Nat),i=.int .i64 p/\p<=n+m/\V.length=n+m+1/\Own wr w.heap.size 34 V/\val V=val (xs.take p)*val ys/\Below w.heap.size w wr) (fun i _=>n+m-(intOf i).toNat)
 case atStart=>exact⟨0,List.replicate (n+m+1) 0,rfl,Nat.zero_le _,by simp,Own.made _ _ _,by simp [val,q0h],(Below.refl _ _).alloc lr _⟩
 case round =>
  obtain⟨p,V,rfl,hp,a7,a1,a2,a0⟩:=hrel;have HV:=vv a2;have HL:=vv a7;have HO:=vv a1;have hg:=a1.lt;have a3:=HO;clear a2 a7 a1;by_cases hpn:p<n
  ·obtain⟨q,d1,d2,a8⟩:∃q,q<=m/\p+q<=n/\(xs.drop p).take m=(xs.drop p).take q/\(p+m<=n->q=m)/\(n<p+m->q=n-p):=by
    by_cases h:p+m<=n
    ·exact⟨m,lr,h,rfl,fun _=>rfl,fun h'=>absurd h' (by omega)⟩
    ·refine⟨n-p,by omega,by omega,?_,fun h'=>absurd h' h,fun _=>rfl⟩;rw[q0l (by rw[List.length_drop,ha.len];omega),q0l (by rw[List.length_drop,ha.len];omega)]
   have hC:=vv ((((ha.below a0 rfl).drop (k:=p) (by omega)).take (k:=q) (by omega)));have HQ:=vv a8;clear a8;have fin:∀(m':Nat) (w1:World) (A1:Option Addr) (n1 c1:Nat),Rd w1 A1 n1 c1 (toL (val (toL (val ((xs.drop p).take q)))*val ys))->val V+4294967296^p*(val (toL (val ((xs.drop p).take q)))*val ys)=val (xs.take (p+m))*val ys /\
     val V+4294967296^p*(val (toL (val ((xs.drop p).take q)))*val ys)<4294967296^(n+m+1):=by
    intro m' w1 A1 n1 c1 _;have e:val V+4294967296^p*(val (toL (val ((xs.drop p).take q)))*val ys)=val (xs.take (p+m))*val ys:=by
     rw[HV.o,q03,q2C,HQ.o.1,Nat.add_mul,Nat.mul_assoc]
    refine⟨e,?_⟩;rw[e];have h1:=Nat.mul_le_mul_right (val ys) (q27 xs (p+m));have h2:=q3W ha.lim hb.lim;rw[ha.len,hb.len] at h2;have h3:4294967296^(n+m)<=4294967296^(n+m+1):=Nat.pow_le_pow_right (by omega) (by omega);omega
   have Fin:=vv fin;clear fin;have HB:=vv (hb.below a0 rfl);by_cases hpm:p+m<=n
   all_goals
    go_wp2_with fail
    first|(have e:m=q:=(HQ.o.2.1 hpm).symm)|(have e:n-p=q:=(HQ.o.2.2 (by omega)).symm)
    subst e;refine(q1T _ _ _ _ _ hC.o).mono ?_;rintro e w' ⟨m',rfl,rfl,a4⟩;have b8:=a4.words;have b9:m'<=m:=by
     have h1:=hC.o.lt;have h2:=q17 h1;omega
    clear b8;have c0:=vv a4;clear a4;go_wp2_with fail
    refine(IH.o _ _ m' m _ _ _ _ _ (by omega) c0.o HB.o).mono ?_;rintro e w1 ⟨A1,n1,c1,rfl,a5,a9,a6⟩;have c2:=vv (HO.o.below a6 hg);have b0:=vv (a0.trans (a6.mono a0.size));have b1:=vv (Fin.o m' w1 A1 n1 c1 a5);have b2:∀a,A1=some a->a.block≠w.heap.size:=fun a e=>by have:=a9 a e;omega
    have c3:=vv b2;have c4:=vv a5;clear a5 a9 a6 b2;go_wp2_with fail
    refine(q4H w.heap.size (n+m+1) (n+m+1) V A1 n1 c1 p _ _ rfl w1 c2.o HL.o (by omega) c4.o c3.o (by omega) b1.o.2).mono ?_;rintro e w2 ⟨rfl,⟨V2,b3,b4,b5⟩,b6⟩;have c5:=vv b3;have c6:=vv b4;have c7:=vv (b5.trans b1.o.1);have c8:=vv (q0a b0.o b6 (by have:=b0.o.size;omega) lr);clear b3 b4 b5 b6;go_wp2;go_roundw
    case rel=>exact⟨p+m,V2,by go_num,by omega,c6.o,c5.o,c7.o,c8.o⟩
    case measure=>simp [intOf];omega
  ·have hR:=vv (a3.o.rd (n:=n+m+1) (c:=n+m+1) HL.o.symm lr (by omega));go_wp2_with fail
   refine(q1T _ _ _ _ _ hR.o).mono ?_;rintro e w' ⟨m',rfl,rfl,a4⟩;go_wp2;go_ret
   refine⟨_,m',n+m+1,rfl,?_,Fr.at_ lr,a0⟩;have e:=HV.o;rw[q0l (xs:=xs) (by rw[ha.len];omega)] at e;rw[<- e];exact a4
theorem q4r(A B:Option Addr)(n m c d:Nat)(xs ys:List Nat)(w:World)(ha:Rd w A n c xs)(hb:Rd w B m d ys)(hs:n+m<35184372088832)(h40:m<40)(h2:m<n):
  Calls Tryz.prog 142 #[.slice B m d,.slice A n c] w (q0e (val xs*val ys) w):=by
 have t1':decide (m<n)=true:=by simp;omega
 go_enter Tryz.func142,Tryz.ntmps142
 go_wp2_with fail
 refine(qaH A B n m c d xs ys w ha hb (by omega)).mono ?_;rintro e w1 ⟨A1,n1,c1,rfl,a0,a1,a2⟩;go_wp2;go_ret
 exact⟨A1,n1,c1,rfl,a0,a1,a2⟩
theorem q4X(A B:Option Addr)(n m c d:Nat)(xs ys:List Nat)(w:World)
  (ih:∀(A B:Option Addr) (n' m' c d:Nat) (xs ys:List Nat) (w:World),n'+m'<n+m->Rd w A n' c xs->Rd w B m' d ys->Calls Tryz.prog 142 #[.slice A n' c,.slice B m' d] w (q0e (val xs*val ys) w))
  (ha:Rd w A n c xs) (hb:Rd w B m d ys) (hs:n+m<35184372088832) (h40:40<=m) (h2:n<2*m) (hmn:m<n) :
  Calls Tryz.prog 142 #[.slice B m d,.slice A n c] w (q0e (val xs*val ys) w):=by
 have k3:=mk1 (n+m) hs;have ec:((n+m:Nat):Int)=(n:Int)+(m:Int):=by omega
 rw[ec] at k3;clear ec;have l1:=ha.le;have l2:=hb.le;obtain⟨b,off,rfl,l3,_⟩:=ha.cell (by omega);obtain⟨b',off',rfl,k4,_⟩:=hb.cell (by omega);have IH:=vv ih;clear ih;have b6:Below w.heap.size w (w.alloc (.cells (madeCells #[.int .u32 0] (n+m+1)) 34)):=(Below.refl _ _).alloc lr _;have HA:=vv (ha.below b6 rfl);have HB:=vv (hb.below b6 rfl);have HO:=vv (Own.made w (n+m+1) 34);have e9:=vv b6;clear b6;obtain⟨h,hh,h3,h4⟩:∃h:Nat,((n:Int)+1)/2=(h:Int)/\2*h<=n+1/\n<=2*h:=⟨(n+1)/2,by omega,by omega,by omega⟩;have i1:(0:Int)<=(h:Int):=by omega
 have i2:(h:Int)<=(c:Int):=by omega
 have i3:(h:Int)<=(d:Int):=by omega
 have t1':decide (m<n)=true:=by simp;omega
 go_enter Tryz.func142,Tryz.ntmps142
 go_wp2_with fail
 have a2:=vv (HA.o.take (k:=h) (by omega));have a3:=vv (HB.o.take (k:=h) (by omega));have LA:=vv ha.lim;have LB:=vv hb.lim;have LNA:=vv ha.len;have LNB:=vv hb.len;have LXL:=vv ((a2.o).lt);have LYL:=vv ((a3.o).lt);have LXH:Hid (val (xs.drop h)<4294967296^h):=vv (q1M (q0G (q0F ha.lim h)) (by rw[List.length_drop,ha.len];omega));have LYH:Hid (val (ys.drop h)<4294967296^h):=vv (q1M (q0G (q0F hb.lim h)) (by rw[List.length_drop,hb.len];omega));go_region_held3 (fun _=>True) (trivial) (first
  | (go_at_call 144;(with_reducible refine(q1T _ _ _ _ _ (a2.o.drew)).mono ?_);rintro e w' ⟨ma,rfl,rfl,c8⟩;have l4:ma<=h:=c8.trim_le (q0t LA.o _) (by rw[List.length_take];omega))
  | (go_at_call 144;(with_reducible refine(q1T _ _ _ _ _ (a3.o.drew)).mono ?_);rintro e w' ⟨mb,rfl,rfl,c9⟩;have l5:mb<=h:=c9.trim_le (q0t LB.o _) (by rw[List.length_take];omega))
  | (go_at_call 142;(with_reducible refine(IH.o _ _ _ _ _ _ _ _ _ (by omega) c8 c9).mono ?_);intro e w1 f0;obtain⟨A1,n1,c1,rfl,hR1,hF1,hB1⟩:=f0.val2))
 have d0:=vv (HA.o.drew.below hB1 rfl);have d1:=vv (HB.o.drew.below hB1 rfl);have b7:=vv (HO.o.drew.below hB1 (by simp));have d2:=vv ((q04 e9.o).trans (hB1.mono (by simp)));have f1:=vv hR1;have k5:=vv (hF1.mono (B:=w.heap.size+1) (by simp));clear c8 c9 hR1 hF1 hB1 a2 a3;go_wp2_with fail
 have j1:(h:Int)<=(n:Int):=by omega
 have j2:(h:Int)<=(m:Int):=by omega
 have a7:=vv ((d0.o.drop (k:=h) (by omega)).drew);have l6:¬c=h:=by omega
 obtain⟨Ab,l7,a0⟩:∃Ab:Option Addr,(if d=h then some (⟨b',off',none⟩:Addr) else some ⟨b',off'+h,none⟩)=Ab/\∀w',Rd w' (some ⟨b',off',none⟩) m d ys->Rd w' Ab (m-h) (d-h) (ys.drop h):=by
  by_cases hdh:d=h
  ·exact⟨_,if_pos hdh,fun w' d3=>d3.drop0 hdh.symm _⟩
  ·exact⟨_,if_neg hdh,fun w' d3=>d3.drop (by omega)⟩
 have a8:=vv a0;have a9:=vv ((a0 _ d1.o).drew);clear a0;go_region_held3 (fun _=>True) (trivial) (first
  | (go_at_call 142;(with_reducible refine(IH.o _ _ _ _ _ _ _ _ _ (by omega) a7.o a9.o).mono ?_);rintro e w2 ⟨A2,n2,c2,rfl,f2,f3,a4⟩))
 have d4:=vv (d0.o.drew.below a4 rfl);have d5:=vv (d1.o.drew.below a4 rfl);have b0:=vv (b7.o.drew.below a4 b7.o.lt);have b1:=vv ((q04 d2.o).trans (a4.mono (by have:=d2.o.size;simpa using this)));have f4:=vv (f1.o.drew.below a4 rfl);have f5:=vv f2;have d6:=vv (f3.mono (B:=w.heap.size+1) (by have:=b7.o.lt;rw[World.size_drew];omega));clear a7 a9 f2 f3 a4 d0 d1 b7 d2 f1;go_wp2_with fail
 have a2:=vv ((d4.o.take (k:=h) (by omega)).drew);have a3:=vv ((d5.o.take (k:=h) (by omega)).drew);have a7:=vv ((d4.o.drop (k:=h) (by omega)).drew);have a9:=vv ((a8.o _ d5.o).drew);go_region_held3 (fun _=>True) (trivial) (first
  | (go_at_call 144;(with_reducible refine(q1T _ _ _ _ _ a2.o).mono ?_);rintro e w' ⟨mc,rfl,rfl,d7⟩;have l8:mc<=h:=d7.trim_le (q0t LA.o _) (by rw[List.length_take];omega))
  | (go_at_call 194;(with_reducible refine(q1Y _ _ _ _ _ _ _ _ _ d7 a7.o (by omega) (by omega)).mono ?_);intro e w3 f6;obtain⟨A3,n3,c3,rfl,hR3,hF3,hB3⟩:=f6.add2;have l9:n3<=h+1:=hR3.bound (q5n LXL.o LXH.o))
  | (go_at_call 144;(with_reducible refine(q1T _ _ _ _ _ (a3.o.below hB3 rfl)).mono ?_);rintro e w' ⟨md,rfl,rfl,d8⟩;have k6:md<=h:=d8.trim_le (q0t LB.o _) (by rw[List.length_take];omega))
  | (go_at_call 194;(with_reducible refine(q1Y _ _ _ _ _ _ _ _ _ d8 (a9.o.below hB3 rfl) (by omega) (by omega)).mono ?_);intro e w4 f7;obtain⟨A4,n4,c4,rfl,hR4,hF4,hB4⟩:=f7.add2;have m0:n4<=h+1:=hR4.bound (q5n LYL.o LYH.o))
  | (go_at_call 142;(with_reducible refine(IH.o _ _ _ _ _ _ _ _ _ (by omega) (hR3.below hB4 rfl) hR4).mono ?_);intro e w5 f8;obtain⟨A5,n5,c5,rfl,hR5,hF5,hB5⟩:=f8.val2))
 have d9:=vv ((((b0.o.drew.below hB3 b0.o.lt).below hB4 (Nat.lt_of_lt_of_le b0.o.lt hB3.size)).below hB5 (Nat.lt_of_lt_of_le (Nat.lt_of_lt_of_le b0.o.lt hB3.size) hB4.size)));have f9:=vv ((((q04 b1.o).trans (hB3.mono b1.o.size)).trans (hB4.mono (Nat.le_trans b1.o.size hB3.size))).trans (hB5.mono (Nat.le_trans (Nat.le_trans b1.o.size hB3.size) hB4.size)));have b8:=vv (((f4.o.drew.below hB3 rfl).below hB4 rfl).below hB5 rfl);have g0:=vv (((f5.o.drew.below hB3 rfl).below hB4 rfl).below hB5 rfl);have e0:=vv hR5;clear a2 a3 a7 a9 d7 hR3 hF3 hB3 d8 hR4 hF4 hB4 hR5 hF5 hB5 d4 d5 b0 b1 f4 f5 HA HB HO e9 a8 IH;clear f0 f6 f7 f8;have K1:=vv (q5x (val (xs.take h)) (val (xs.drop h)) (val (ys.take h)) (val (ys.drop h)));have K2:=vv (q5w (val (xs.take h)) (val (xs.drop h)) (val (ys.take h)) (val (ys.drop h)));have K3:Hid (val (xs.take h)*val (ys.take h)+4294967296^h*((val (xs.take h)+val (xs.drop h))*(val (ys.take h)+val (ys.drop h))-val (xs.take h)*val (ys.take h)-val (xs.drop h)*val (ys.drop h))+4294967296^(2*h)*(val (xs.drop h)*val (ys.drop h))=val xs*val ys):=vv (by
  have e:=qbU (val (xs.take h)) (val (xs.drop h)) (val (ys.take h)) (val (ys.drop h)) (4294967296^h);rw[<- q0r xs h (by rw[LNA.o];omega),<- q0r ys h (by rw[LNB.o];omega),<- Nat.pow_add,<- Nat.two_mul] at e;exact e)
 have K4:Hid (val xs*val ys<4294967296^(n+m+1)):=vv (by
  have e:=q3W LA.o LB.o;rw[LNA.o,LNB.o] at e;have:4294967296^(n+m)<=4294967296^(n+m+1):=Nat.pow_le_pow_right (by omega) (by omega);omega)
 generalize hL:val (xs.take h)*val (ys.take h)=L at *
 generalize hH:val (xs.drop h)*val (ys.drop h)=H at *
 generalize hM:(val (xs.take h)+val (xs.drop h))*(val (ys.take h)+val (ys.drop h))=M at *
 clear hL hH hM;have g1:=vv d9.o.lt;go_wp2_with fail
 refine(q1U _ _ _ _ _ _ _ _ _ e0.o b8.o (by rw[q03,q03];exact K1.o) (b8.o.le_of e0.o K1.o)).mono ?_;intro e w6 g2;obtain⟨A6,n6,c6,rfl,g3,k7,a5⟩:=g2.sub2;have b9:=vv (g0.o.below a5 rfl);have g4:=vv (b8.o.below a5 rfl);have g5:=vv (d9.o.below a5 g1.o);have g6:=vn f9 a5;have e1:=vv g3;have S6:=vv (Nat.le_trans g1.o a5.size);clear g2 g3 k7 a5 g0 b8 d9 f9 e0;go_wp2_with fail
 refine(q1U _ _ _ _ _ _ _ _ _ e1.o b9.o (by rw[q03,q03];exact K2.o) (b9.o.le_of e1.o K2.o)).mono ?_;intro e w7 g7;obtain⟨A7,n7,c7,rfl,g8,g9,b2⟩:=g7.sub2;have i0:=vv (b9.o.below b2 rfl);have i4:=vv (g4.o.below b2 rfl);have i5:=vv (g5.o.below b2 S6.o);have e2:=vn g6 b2;have i6:=vv g8;have i7:=vv (g9.mono (B:=w.heap.size+1) S6.o);clear g7 g8 g9 b2 b9 g4 g5 g6 e1;have i8:∀(A:Option Addr),Fr (w.heap.size+1) A->∀a,A=some a->a.block≠w.heap.size:=fun _ hf a e=>by have:=hf a e;omega
 have a6:=vv i8;clear i8;go_wp2_with fail
 refine(q4H w.heap.size (n+m+1) (n+m+1) (List.replicate (n+m+1) 0) A1 n1 c1 0 L 0 rfl w7 i5.o (by simp) (by omega) i4.o (a6.o _ k5.o) (by omega) (by rw[q0h,Nat.pow_zero];have:=K3.o;have:=K4.o;omega)).mono ?_;rintro e w8 ⟨rfl,⟨V8,i9,j0,e3⟩,c0⟩;rw[q0h,Nat.pow_zero,Nat.zero_add,Nat.one_mul] at e3;have j3:=vv i9;have j4:=vv j0;have j5:=vv e3;have j6:=vv (i6.o.only c0 (a6.o _ i7.o));have j7:=vv (i0.o.only c0 (a6.o _ d6.o));have e4:=vv (q0a e2.o c0 e2.o.size lr);clear i9 j0 e3 c0 i5 i4 i6 i0 e2;go_wp2_with fail
 refine(q4H w.heap.size (n+m+1) (n+m+1) V8 A7 n7 c7 h (M-L-H) _ rfl w8 j3.o j4.o (by omega) j6.o (a6.o _ i7.o) (by omega) (by rw[j5.o];have:=K3.o;have:=K4.o;omega)).mono ?_;rintro e w9 ⟨rfl,⟨V9,j8,j9,e5⟩,e6⟩;rw[j5.o] at e5;have k8:=vv j8;have k9:=vv j9;have k0:=vv e5;have l0:=vv (j7.o.only e6 (a6.o _ d6.o));have k1:=vv (q0a e4.o e6 e4.o.size lr);clear j8 j9 e5 e6 j3 j4 j6 j7 e4;go_wp2_with fail
 refine(q4H w.heap.size (n+m+1) (n+m+1) V9 A2 n2 c2 (2*h) H _ (by omega) w9 k8.o k9.o (by omega) l0.o (a6.o _ d6.o) (by omega) (by rw[k0.o,K3.o];exact K4.o)).mono ?_;rintro e w10 ⟨rfl,⟨V10,b3,b4,a1⟩,b5⟩;rw[k0.o,K3.o] at a1;have e7:=vv (q0a k1.o b5 k1.o.size lr);have e8:=vv a1;have hR:=vv (b3.rd (n:=n+m+1) (c:=n+m+1) b4.symm lr (by omega));clear b3 b4 a1 b5;go_wp2_with fail
 refine(q1T _ _ _ _ _ hR.o).mono ?_;rintro e w' ⟨m',rfl,rfl,k2⟩;go_wp2;go_ret
 refine⟨_,m',n+m+1,rfl,?_,Fr.at_ lr,e7.o⟩;rw[e8.o] at k2;exact k2
theorem q3Y(s:Nat):∀(A B:Option Addr) (n m c d:Nat) (xs ys:List Nat) (w:World),n+m<=s->n+m<35184372088832->Rd w A n c xs->Rd w B m d ys ->
  Calls Tryz.prog 142 #[.slice A n c,.slice B m d] w (q0e (val xs*val ys) w):=by
 induction s with
 | zero =>
  intro A B n m c d xs ys w h hs ha hb;exact q4s A B n m c d xs ys w ha hb hs (by omega) (by omega)
 | succ s ih =>
  intro A B n m c d xs ys w h hs ha hb;have ih':∀(A B:Option Addr) (n' m' c d:Nat) (xs ys:List Nat) (w:World),n'+m'<n+m->Rd w A n' c xs->Rd w B m' d ys->Calls Tryz.prog 142 #[.slice A n' c,.slice B m' d] w (q0e (val xs*val ys) w):=
   fun A B n' m' c d xs ys w hl ha hb=>ih A B n' m' c d xs ys w (by omega) (by omega) ha hb
  rcases Nat.lt_or_ge n m with a1|a1
  ·rw[Nat.mul_comm];rcases Nat.lt_or_ge n 40 with a0|a0
   ·exact q4r B A m n d c ys xs w hb ha (by omega) a0 a1
   ·have ih2:∀(A B:Option Addr) (n' m' c d:Nat) (xs ys:List Nat) (w:World),n'+m'<m+n->Rd w A n' c xs->Rd w B m' d ys->Calls Tryz.prog 142 #[.slice A n' c,.slice B m' d] w (q0e (val xs*val ys) w):=
     fun A B n' m' c d xs ys w hl=>ih' A B n' m' c d xs ys w (by omega)
    rcases Nat.lt_or_ge m (2*n) with h2|h2
    ·exact q4X B A m n d c ys xs w ih2 hb ha (by omega) a0 h2 a1
    ·exact q4W B A m n d c ys xs w ih2 hb ha (by omega) a0 h2
  ·rcases Nat.lt_or_ge m 40 with a0|a0
   ·exact q4s A B n m c d xs ys w ha hb hs a0 a1
   ·rcases Nat.lt_or_ge n (2*m) with h2|h2
    ·exact q8f A B n m c d xs ys w ih' ha hb hs a0 h2 a1
    ·exact q8e A B n m c d xs ys w ih' ha hb hs a0 h2
theorem q2S(A B:Option Addr)(n m c d:Nat)(xs ys:List Nat)(w:World)(ha:Rd w A n c xs)(hb:Rd w B m d ys)(hs:n+m<35184372088832):
  Calls Tryz.prog 142 #[.slice A n c,.slice B m d] w (q0e (val xs*val ys) w):=q3Y (n+m) A B n m c d xs ys w lr hs ha hb
end Go.Proofs.YtcdimmblnbkjjaaGreatDoor.A
