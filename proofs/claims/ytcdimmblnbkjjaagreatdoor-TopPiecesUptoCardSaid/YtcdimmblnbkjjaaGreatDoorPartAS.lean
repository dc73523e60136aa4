/- Lemmas. -/
import Derived.Test.YtcdimmblnbkjjaaGreatDoorPartAR
import Derived.Test.YtcdimmblnbkjjaaGreatDoorPartAD
import Derived.Test.YtcdimmblnbkjjaaGreatDoorPartAI
import Derived.Test.YtcdimmblnbkjjaaGreatDoorPartAE
set_option linter.all false
set_option maxRecDepth 100000
namespace Go.Proofs.YtcdimmblnbkjjaaGreatDoor.B
open Go Go.RowKit
end Go.Proofs.YtcdimmblnbkjjaaGreatDoor.B
namespace Go.Proofs.YtcdimmblnbkjjaaGreatDoor.A
open Go Go.RowKit
theorem q13(A:Option Addr)(n c N:Nat)(w:World)(ha:Rd w A n c (toL N))(h0:0<N)(hs:Std w):
  Calls Tryz.prog 266 #[.slice A n c] w fun e w'=>e=.returned (.int .i64 ((tz N:Nat):Int))/\w=w':=by
 have a8:=ha.sm;have HA:=vv ha;have a3:Hid (N<4294967296^n):=vv (by have:=ha.lt;rwa [q03] at this);have a1:0<n:=by
  rcases Nat.eq_zero_or_pos n with rfl|h
  ·have:=a3.o;rw[Nat.pow_zero] at this;omega
  ·exact h
 obtain⟨b,off,rfl,hb,a0⟩:=ha.cell a1;have HC:=vv a0;clear ha a0;go_enter Tryz.func266,Tryz.ntmps266
 go_wp2;go_loop [3] (fun t=>∃k:Nat,k<n/\t=.int .i64 k/\N%4294967296^k=0) (fun t=>n-(intOf t).toNat)
 case atStart=>exact⟨0,a1,rfl,by rw[Nat.pow_zero,Nat.mod_one]⟩
 case round =>
  obtain⟨k,hk,rfl,hz⟩:=hrel;have HZ:=vv hz;clear hz;have hx:=HC.o k hk;have hl:=HA.o.nth_lt k;have a4:nth (toL N) k=N/4294967296^k%4294967296:=q0V N k;have a2:=vv a4;clear a4;by_cases h0:nth (toL N) k=0
  ·have h1:(((nth (toL N) k:Nat):Int)==0)=true:=by rw[h0];rfl
   have HN:Hid (N%4294967296^(k+1)=0):=vv (by
    rw[Nat.pow_succ,Nat.mod_mul,HZ.o,<- a2.o,h0];simp)
   have a5:k+1<n:=by
    rcases Nat.lt_or_ge (k+1) n with h|h
    ·exact h
    ·exfalso
     have e:k+1=n:=by omega
     have:=HN.o;rw[e,Nat.mod_eq_of_lt a3.o] at this;omega
   clear h0;go_wp2;go_round
   case rel=>exact⟨k+1,a5,rfl,HN.o⟩
   case measure=>simp [intOf];omega
  ·have h1:(((nth (toL N) k:Nat):Int)==0)=false:=by rw[beq_eq_false_iff_ne];omega
   have ht:((k:Int)==(n:Int))=false:=by simp;omega
   have HT:=vv (q9p HZ.o (by rw[<- a2.o];exact h0));have HB:Hid (tz (nth (toL N) k)<=31):=vv (by
    have:=q1S (Nat.pos_of_ne_zero h0);have h2:bl (nth (toL N) k)<=32:=q1F (by omega);omega)
   have HE:=vv (qbx (Nat.pos_of_ne_zero h0) hl);have HP:=vv (Nat.pos_of_ne_zero h0);have a6:=vv (qc5 _ w hl HP.o hs);clear h0;go_wp2_with fail
   refine a6.o.mono ?_;rintro e w' ⟨rfl,rfl⟩;rw[HE.o];have a7:=HB.o;go_wp2;go_ret
   exact⟨q0A (by rw[HT.o,<- a2.o];omega),rfl⟩
theorem q7Q(A:Option Addr)(n c N k s:Nat)(z:Int)(hz:z=((32*k+s:Nat):Int))(w:World)(ha:Rd w A n c (toL N))(hs:s<32)(hk:k<35184372088832)(hN:N<2^(32*k+s+60)):
  Calls Tryz.prog 297 #[.slice A n c,.int .i64 z] w fun e w'=>e=.returned (.int .u64 ((N/2^(32*k+s):Nat):Int))/\w=w':=by
 have a5:=ha.sm;have z0:0<=z:=by omega
 have z1:z<=2251799813685248:=by omega
 have zq:z/32=(k:Int):=by omega
 have zr:z%32=(s:Int):=by omega
 clear hz;obtain⟨e1,e2⟩:=q6u hs hN;have HV:=vv e1;clear e1 hN;generalize N/2^(32*k+s)=Q at *
 obtain⟨r,hr⟩:=yx (64-s);obtain⟨t,ht⟩:=yx (32-s);rw[<- hr] at e2;rw[<- hr,<- ht] at HV;have er:(64:Int)-(s:Int)=(r:Int):=by omega
 have et:(32:Int)-(s:Int)=(t:Int):=by omega
 have a3:=ha.nth_lt k;have a4:=ha.nth_lt (k+1);have a6:=ha.nth_lt (k+2);have HG:Hid (∀i,n<=i->nth (toL N) i=0):=vv fun i hi=>q1i _ _ (by rw[ha.len];exact hi)
 have b1:nth (toL N) (k+1)*2^t<2^r:=by
  have:2^r=4294967296*2^t:=by rw[hr,ht,show 64-s=32+(32-s) by omega,Nat.pow_add]
  rw[this];exact Nat.mul_lt_mul_of_pos_right a4 (Nat.two_pow_pos _)
 have b0:nth (toL N) k/2^s<2^t:=by
  apply Nat.div_lt_of_lt_mul
  rw[<- Nat.pow_add,show s+t=32 by omega];exact a3
 have b2:nth (toL N) (k+2)*2^r+nth (toL N) (k+1)*2^t<18446744073709551616:=by
  have h1:2^r<=2^64:=Nat.pow_le_pow_right (by omega) (by omega);rcases Nat.eq_zero_or_pos s with h|h
  ·have e64:r=64:=by omega
   rw[e64] at e2 b1 ⊢;rcases Nat.eq_zero_or_pos (nth (toL N) (k+2)) with h0|h0
   ·rw[h0,Nat.zero_mul,Nat.zero_add];exact b1
   ·exact absurd (Nat.lt_of_le_of_lt (Nat.le_mul_of_pos_left _ h0) e2) (by decide)
  ·have h1:2^r<=2^63:=Nat.pow_le_pow_right (by omega) (by omega);omega
 have X2:=vv (q2f (nth (toL N) (k+2)) r (by omega));have X1:=vv (q2f (nth (toL N) (k+1)) t (by omega));have O1:=vv (qaP (nth (toL N) (k+2)) (nth (toL N) (k+1)*2^t) r b1 b2);have a0:nth (toL N) (k+2)*2^r+nth (toL N) (k+1)*2^t=(4294967296*nth (toL N) (k+2)+nth (toL N) (k+1))*2^t:=by
  rw[hr,ht,show 64-s=32+(32-s) by omega,Nat.pow_add,Nat.add_mul,<- Nat.mul_assoc,Nat.mul_comm (nth (toL N) (k+2))]
 have O0:=vv (qaP (4294967296*nth (toL N) (k+2)+nth (toL N) (k+1)) (nth (toL N) k/2^s) t b0 (by
  rw[<- a0];have h3:(nth (toL N) (k+2)*2^r+nth (toL N) (k+1)*2^t)%2^t=0:=by rw[a0];exact Nat.mul_mod_left _ _
  have h4:(2:Nat)^64=2^t*2^(64-t):=by rw[<- Nat.pow_add,show t+(64-t)=64 by omega]
  have h5:(4294967296*nth (toL N) (k+2)+nth (toL N) (k+1))<2^(64-t):=by
   rw[a0] at b2;have:(4294967296*nth (toL N) (k+2)+nth (toL N) (k+1))*2^t<2^(64-t)*2^t:=by rw[<- Nat.pow_add,show 64-t+t=64 by omega];exact b2
   exact Nat.lt_of_mul_lt_mul_right this
  rw[a0];have h6:(4294967296*nth (toL N) (k+2)+nth (toL N) (k+1)+1)*2^t<=2^(64-t)*2^t:=Nat.mul_le_mul_right _ h5;rw[<- Nat.pow_add,show 64-t+t=64 by omega,Nat.add_mul] at h6;omega))
 rw[<- a0] at O0;have X0:=vv (q2z (nth (toL N) k) s);have S0:Hid (s=0->nth (toL N) (k+2)=0):=vv fun h=>by
  have e64:r=64:=by omega
  rw[e64] at e2;rcases Nat.eq_zero_or_pos (nth (toL N) (k+2)) with h0|h0
  ·exact h0
  ·exact absurd (Nat.lt_of_le_of_lt (Nat.le_mul_of_pos_left _ h0) e2) (by decide)
 clear b0 b1 b2 e2 a0 hr ht;have HA:=vv ha;clear ha;generalize ew0:nth (toL N) k=w0 at *
 generalize ew1:nth (toL N) (k+1)=w1 at *
 generalize ew2:nth (toL N) (k+2)=w2 at *
 have W0:=vv ew0;have W1:=vv ew1;have W2:=vv ew2;clear ew0 ew1 ew2;have Y2:Hid (w2*2^r<18446744073709551616):=vv (by
  have:=HV.o;have h:=O1.o;by_cases a2:s=0
  ·rw[S0.o a2];omega
  ·exact Nat.lt_of_not_le fun hc=>by
    have h1:=X2.o;rw[IntKind.wrap_u64] at h1;omega)
 go_enter Tryz.func297,Tryz.ntmps297
 go_wp2;go_loop [7,8] (fun x i=>∃(j:Nat) (y:Int),i=.int .i64 y/\y+1=j/\j<=3/\x=.int .u64 ((if j=3 then 0 else if j=2 then w2*2^r else if j=1 then w2*2^r+w1*2^t else w2*2^r+w1*2^t+w0/2^s:Nat):Int)) (fun _ i=>(intOf i+1).toNat)
 case atStart=>exact⟨3,2,rfl,by omega,by omega,rfl⟩
 case round =>
  obtain⟨j,y,rfl,hy,hj,rfl⟩:=hrel;have a1:j=0\/j=1\/j=2\/j=3:=by omega
  rcases a1 with rfl|rfl|rfl|rfl
  ·obtain rfl:y = -1:=by omega
   clear hy hj;go_wp2;go_ret
   exact⟨q0A (by rw[HV.o];rfl),rfl⟩
  ·obtain rfl:y=0:=by omega
   clear hy hj;by_cases hin:k<n
   ·obtain⟨b,off,rfl,hb,hc⟩:=HA.o.cell (by omega);have hx:=hc k hin;rw[W0.o] at hx;clear hc;go_wp2;go_round
    case rel=>exact⟨0,-1,rfl,rfl,by omega,by
     have:=O0.o;rw[<- X0.o] at this;exact congrArg (Value.int IntKind.u64) this⟩
    case measure=>simp [intOf]
   ·have hz:w0=0:=by rw[<- W0.o];exact HG.o _ (by omega)
    have HZ:=vv hz;clear hz;go_wp2;go_round
    case rel=>exact⟨0,-1,rfl,rfl,by omega,by
     have:=O0.o;rw[HZ.o,Nat.zero_div] at this;simp only[HZ.o,Nat.zero_div];have h2:((0:Nat):Int)/2^s=((0:Nat):Int):=by rw[q2z,Nat.zero_div]
     exact congrArg (Value.int IntKind.u64) (by first|exact this|(rw[<- this];rfl)|(simp at this ⊢;exact this))⟩
    case measure=>simp [intOf]
  ·obtain rfl:y=1:=by omega
   clear hy hj;by_cases hin:k+1<n
   ·obtain⟨b,off,rfl,hb,hc⟩:=HA.o.cell (by omega);have hx:=hc (k+1) hin;rw[W1.o] at hx;clear hc;go_wp2;go_round
    case rel=>exact⟨1,0,rfl,rfl,by omega,by
     have:=O1.o;rw[<- X1.o] at this;exact congrArg (Value.int IntKind.u64) this⟩
    case measure=>simp [intOf]
   ·have hz:w1=0:=by rw[<- W1.o];exact HG.o _ (by omega)
    have HZ:=vv hz;clear hz;go_wp2;go_round
    case rel=>exact⟨1,0,rfl,rfl,by omega,by
     have:=O1.o;rw[HZ.o,Nat.zero_mul] at this;simp only[HZ.o,Nat.zero_mul];exact congrArg (Value.int IntKind.u64) (by first|exact this|(rw[<- this];rfl)|(simp at this ⊢;exact this))⟩
    case measure=>simp [intOf]
  ·obtain rfl:y=2:=by omega
   clear hy hj;by_cases hin:k+2<n
   ·obtain⟨b,off,rfl,hb,hc⟩:=HA.o.cell (by omega);have hx:=hc (k+2) hin;rw[W2.o] at hx;clear hc;rcases Nat.eq_zero_or_pos s with h|h
    ·have a2:¬0<s:=by omega
     have HZ:=vv (S0.o h);clear h;go_wp2;go_round
     case rel=>exact⟨2,1,rfl,rfl,by omega,by rw[HZ.o];simp⟩
     case measure=>simp [intOf]
    ·go_wp2;go_round
     case rel=>exact⟨2,1,rfl,rfl,by omega,congrArg (Value.int IntKind.u64) X2.o⟩
     case measure=>simp [intOf]
   ·have hz:w2=0:=by rw[<- W2.o];exact HG.o _ (by omega)
    have HZ:=vv hz;clear hz;rcases Nat.eq_zero_or_pos s with h|h
    ·have a2:¬0<s:=by omega
     clear h;go_wp2;go_round
     case rel=>exact⟨2,1,rfl,rfl,by omega,by rw[HZ.o];simp⟩
     case measure=>simp [intOf]
    ·go_wp2;go_round
     case rel=>exact⟨2,1,rfl,rfl,by omega,by
      have:=X2.o;rw[HZ.o] at this;simp only[HZ.o];exact congrArg (Value.int IntKind.u64) (by simp)⟩
     case measure=>simp [intOf]
theorem q6v(A:Option Addr)(n c N e:Nat)(z:Int)(hz:z=(e:Int))(w:World)(ha:Rd w A n c (toL N))(hk:e<35184372088832)(hN:N<2^(e+60)):
  Calls Tryz.prog 297 #[.slice A n c,.int .i64 z] w fun e' w'=>e'=.returned (.int .u64 ((N/2^e:Nat):Int))/\w=w':=by
 have h:=q7Q A n c N (e/32) (e%32) z (by omega) w ha (Nat.mod_lt _ (by omega)) (by omega) (by rw[show 32*(e/32)+e%32=e by omega];exact hN);rw[show 32*(e/32)+e%32=e by omega] at h;exact h
theorem q3F{p:Int}{x:Nat}(h1:-1073741824<p)(h2:p<1073741824)(hx:x<4294967296):-4611686013058678785<=p*(x:Int)/\p*(x:Int)<=4611686013058678785:=by
 have e1:p*(x:Int)<=1073741823*(x:Int):=Int.mul_le_mul_of_nonneg_right (by omega) (by omega);have e2:-1073741823*(x:Int)<=p*(x:Int):=Int.mul_le_mul_of_nonneg_right (by omega) (by omega);omega
theorem q8J(A B:Option Addr)(n m c d a b R:Nat)(p q:Int)(w:World)(ha:Rd w A n c (toL a))(hb:Rd w B m d (toL b))(hs:n+1<=35184372088832)(hba:b<=a)
  (p1:-1073741824<p) (p2:p<1073741824) (q1:-1073741824<q) (q2:q<1073741824) (hR:(R:Int)=p*(a:Int)+q*(b:Int)) (hRa:R<=a) :
  Calls Tryz.prog 298 #[.slice A n c,.slice B m d,.int .i64 p,.int .i64 q] w (q0e R w):=by
 have a9:=mk1 n hs;have b8:m<=n:=hb.le_of ha hba;have b0:=vv hR;have b1:Hid (R<4294967296^n):=vv (by
  have:=q0o a;rw[ha.words] at this;exact Nat.lt_of_le_of_lt hRa this)
 have b2:=vv ha.len;have a7:=vv hb.len;clear hR;go_enter Tryz.func298,Tryz.ntmps298
 go_wp2;go_loopw [10,11] (fun y i wr=>∃(k:Nat) (t:Int) (U:List Nat),i=.int .i64 k/\k<=n/\y=.int .i64 t /\ -2147483648<=t/\t<=2147483648/\U.length=n+1/\Own wr w.heap.size 34 U /\
   ((val (U.take k):Nat):Int)+4294967296^k*t=p*((val ((toL a).take k):Nat):Int)+q*((val ((toL b).take k):Nat):Int)/\Below w.heap.size w wr) (fun _ i _=>n-(intOf i).toNat)
 case atStart=>exact⟨0,0,List.replicate (n+1) 0,rfl,Nat.zero_le _,rfl,by omega,by omega,by simp,Own.made _ _ _,by simp [val],(Below.refl _ _).alloc lr _⟩
 case round =>
  obtain⟨k,t,U,rfl,hk,rfl,b9,c0,a8,a0,a4,a1⟩:=hrel;have HV:=vv a4;have HL:=vv a8;clear a4 a8 a9;by_cases hkn:k<n
  ·obtain⟨bb,off,rfl,b3,a3⟩:=ha.cell (by omega);have hx:wr.cell? ⟨bb,off+k,none⟩=some (.int .u32 ((nth (toL a) k:Nat):Int)):=(a1.cell (p:=⟨bb,off+k,none⟩) b3).trans (a3 k hkn);clear a3;have b4:=ha.nth_lt k;have ho:=a0.cell (i:=k) (by rw[HL.o];omega);have hf:=a0.frozen k;have HO:=vv a0;clear a0;obtain⟨k1,k2⟩:=q3F p1 p2 b4;have EA:=vv (q09 (toL a) k);have EB:=vv (q09 (toL b) k);by_cases hkm:k<m
   ·obtain⟨bc,of2,rfl,a6,a2⟩:=hb.cell (by omega);have c1:wr.cell? ⟨bc,of2+k,none⟩=some (.int .u32 ((nth (toL b) k:Nat):Int)):=(a1.cell (p:=⟨bc,of2+k,none⟩) a6).trans (a2 k hkm);clear a2;have b5:=hb.nth_lt k;obtain⟨k3,k4⟩:=q3F q1 q2 b5;go_wp2;go_roundw
    case rel =>
     refine⟨k+1,_,U.set k ((p*((nth (toL a) k:Nat):Int)+t+q*((nth (toL b) k:Nat):Int))%4294967296).toNat,by go_num,by omega,rfl,by omega,by omega,by rw[List.length_set];exact HL.o,
      HO.o.set (by rw[HL.o];omega) (by omega) (by omega),?_,a1.setCell lr _⟩
     have:=q3P (x:=((nth (toL a) k:Nat):Int)) (y:=((nth (toL b) k:Nat):Int)) (t:=p*((nth (toL a) k:Nat):Int)+t+q*((nth (toL b) k:Nat):Int)) (by rw[HL.o];omega) HV.o (by omega);rw[this,EA.o,EB.o,Int.natCast_add,Int.natCast_add,Int.natCast_mul,Int.natCast_mul,Int.natCast_pow]
     rfl
    case measure=>simp [intOf];omega
   ·have E0:=vv (q1i (toL b) k (by rw[a7.o];omega));go_wp2;go_roundw
    case rel =>
     refine⟨k+1,_,U.set k ((p*((nth (toL a) k:Nat):Int)+t)%4294967296).toNat,by go_num,by omega,rfl,by omega,by omega,by rw[List.length_set];exact HL.o,
      HO.o.set (by rw[HL.o];omega) (by omega) (by omega),?_,a1.setCell lr _⟩
     have:=q3P (x:=((nth (toL a) k:Nat):Int)) (y:=0) (t:=p*((nth (toL a) k:Nat):Int)+t) (by rw[HL.o];omega) HV.o (by omega);rw[this,EA.o,EB.o,E0.o,Int.natCast_add,Int.natCast_add,Int.natCast_mul,Int.natCast_mul,Int.natCast_pow]
     rfl
    case measure=>simp [intOf];omega
  ·obtain rfl:k=n:=by omega
   have hv:((val (U.take k):Nat):Int)+4294967296^k*t=(R:Int):=by
    rw[HV.o,q0l (xs:=toL a) (by rw[b2.o];omega),q0l (xs:=toL b) (by rw[a7.o];omega),q03,q03];exact b0.o.symm
   obtain⟨rfl,he⟩:=q7x HL.o a0.2 b1.o hv;have HE:=vv he;have ho:=a0.cell (i:=k) (by rw[HL.o];omega);have hf:=a0.frozen k;have HO:=vv (a0.set (i:=k) (x:=0) (z:=0) (by rw[HL.o];omega) (by omega) rfl);have b6:=vv (HO.o.rd (n:=k+1) (c:=k+1) (by rw[List.length_set];exact HL.o.symm) lr (by omega));have a5:Below w.heap.size w (wr.setCell ⟨w.heap.size,k,none⟩ (.int .u32 0)):=a1.setCell lr _;clear hv he a0;go_wp2_with fail
   refine(q1T _ _ _ _ _ b6.o).mono ?_;rintro e w' ⟨m',rfl,rfl,b7⟩;go_wp2;go_ret
   refine⟨_,m',k+1,rfl,?_,Fr.at_ lr,a5⟩;have e:=HE.o;rw[<- e];exact b7
end Go.Proofs.YtcdimmblnbkjjaaGreatDoor.A
