/- Lemmas. -/
import Derived.Test.YtcdimmblnbkjjaaGreatDoorPartAJ
import Derived.Test.YtcdimmblnbkjjaaGreatDoorPartAH
import Derived.Test.YtcdimmblnbkjjaaGreatDoorPartAB
import Derived.Test.YtcdimmblnbkjjaaGreatDoorPartAN
set_option linter.all false
namespace Go.Proofs.YtcdimmblnbkjjaaGreatDoor.B
open Go Go.RowKit
end Go.Proofs.YtcdimmblnbkjjaaGreatDoor.B
namespace Go.Proofs.YtcdimmblnbkjjaaGreatDoor.A
open Go Go.RowKit
theorem qbs(x:Nat)(w:World)(h:x<4294967296):Calls Tryz.prog 146 #[.int .u32 (x:Int)] w fun e w'=>e=.returned (.int .i64 ((bl x:Nat):Int))/\w=w':=
 (Tryz.bits_Len32 x w (by omega) (by omega)).mono fun e w' ⟨h1,h2⟩=>⟨by rw[h1,Int.toNat_natCast,q90 (by omega)],h2.symm⟩
theorem qcf(x:Nat)(w:World)(h:x<4294967296):Calls Tryz.prog 257 #[.int .u32 (x:Int)] w fun e w'=>e=.returned (.int .i64 ((32-bl x:Nat):Int))/\w=w':=
 (Tryz.bits_LeadingZeros32 x w (by omega) (by omega)).mono fun e w' ⟨h1,h2⟩=>⟨by
  have hb:bl x<=32:=q1F (by omega);rw[h1,Int.toNat_natCast,q90 (by omega)];exact q0A (by omega),h2.symm⟩
theorem bitLen(A:Option Addr)(n c N:Nat)(w:World)(ha:Rd w A n c (toL N)):
  Calls Tryz.prog 95 #[.slice A n c] w fun e w'=>e=.returned (.int .i64 ((bl N:Nat):Int))/\w=w':=by
 have a1:=ha.sm;have hw:=ha.words;rcases Nat.eq_zero_or_pos n with rfl|a0
 ·have h0:N=0:=q0c.1 hw;subst h0;go_enter Tryz.func95,Tryz.ntmps95
  go_wp2;go_ret
  exact⟨rfl,rfl⟩
 ·have h0:0<N:=by
   rcases Nat.eq_zero_or_pos N with h|h
   ·subst h;rw[q1r] at hw;omega
   ·exact h
  obtain⟨e1,_⟩:=bl_words h0;rw[hw] at e1;obtain⟨m,rfl⟩:∃m,n=m+1:=⟨n-1,by omega⟩;rw[Nat.add_sub_cancel] at e1;have E1:=vv e1;clear e1 hw;obtain⟨b,off,rfl,hb,hc⟩:=ha.cell (by omega);have hx:=hc m (by omega);have hl:=ha.nth_lt m;clear hc;have a2:bl (nth (toL N) m)<=32:=q1F (by omega);go_enter Tryz.func95,Tryz.ntmps95
  go_wp2_with fail
  refine(qbs _ _ hl).mono ?_;rintro e w' ⟨rfl,rfl⟩;go_wp2;go_ret
  exact⟨q0A (by rw[E1.o];omega),rfl⟩
theorem q8D(A:Option Addr)(n c d:Nat)(xs:List Nat)(w:World)(ha:Rd w A n c xs)(hd:0<d)(hd':d<4294967296):
  Calls Tryz.prog 281 #[.slice A n c,.int .u32 (d:Int)] w fun e w'=>∃A' m c',e=.returned (.tuple #[.slice A' m c',.int .u32 ((val xs%d:Nat):Int)])/\Rd w' A' m c' (toL (val xs/d))/\Fr w.heap.size A'/\Below w.heap.size w w':=by
 have b3:=mk n ha.sm;have a9:=ha.sm;go_enter Tryz.func281,Tryz.ntmps281
 go_wp2;go_loopw [7,8] (fun q i wr=>∃(k:Nat) (z:Int) (r:Nat) (V:List Nat),i=.int .i64 z/\z+1=k/\k<=n/\q=.int .u64 r/\r<d/\r=(val xs/4294967296^k)%d/\V.length=n/\Own wr w.heap.size 34 V /\
   (∀j,k<=j->nth V j=(val xs/d)/4294967296^j%4294967296)/\Below w.heap.size w wr) (fun _ i _=>(intOf i+1).toNat)
 case atStart =>
  have e0:val xs/4294967296^n=0:=Nat.div_eq_of_lt ha.lt;refine⟨n,_,0,List.replicate n 0,rfl,by omega,lr,rfl,hd,by rw[e0];simp,by simp,Own.made _ _ _,fun j hj=>?_,(Below.refl _ _).alloc lr _⟩;have h1:val xs/d/4294967296^j=0:=by
   rw[Nat.div_div_eq_div_mul,Nat.mul_comm,<- Nat.div_div_eq_div_mul,Nat.div_eq_of_lt (q1M ha.lt hj)];simp
  rw[h1,q19]
 case round =>
  obtain⟨k,z,r,V,rfl,hz,hk,rfl,hr,a4,a5,a0,a1,a3⟩:=hrel;have HR:=vv a4;have HL:=vv a5;have HS:=vv a1;have HO:=vv a0;clear a4 a5 a1;rcases Nat.eq_zero_or_pos k with rfl|b0
  ·obtain rfl:z = -1:=by omega
   clear hz;have hv:val V=val xs/d:=by
    have:=q2h (U:=V) (Q:=val xs/d) fun i _=>HS.o i (Nat.zero_le _)
    rw[this,HL.o];exact Nat.mod_eq_of_lt (Nat.lt_of_le_of_lt (Nat.div_le_self _ _) ha.lt)
   have HV:=vv hv;clear hv;have hR:=vv (a0.rd (n:=n) (c:=n) HL.o.symm lr a9);have a6:val xs%d=r:=by have:=HR.o;rw[Nat.pow_zero,Nat.div_one] at this;exact this.symm
   have b1:=vv a6;clear a6 a0;go_wp2_with fail
   refine(q1T _ _ _ _ _ hR.o).mono ?_;rintro e w' ⟨m',rfl,rfl,a7⟩;rw[HV.o] at a7;go_wp2;go_ret2
   refine⟨_,m',n,?_,a7,Fr.at_ lr,a3⟩;rw[b1.o];first|rfl|simp
  ·obtain⟨j,rfl⟩:∃j,k=j+1:=⟨k-1,by omega⟩;obtain rfl:z=(j:Int):=by omega
   clear hz;obtain⟨b,off,rfl,b2,a2⟩:=ha.cell (by omega);have hx:wr.cell? ⟨b,off+j,none⟩=some (.int .u32 ((nth xs j:Nat):Int)):=(a3.cell (p:=⟨b,off+j,none⟩) b2).trans (a2 j (by omega));clear a2;have a8:=ha.nth_lt j;have ho:=a0.cell (i:=j) (by rw[HL.o];omega);have hf:=a0.frozen j;have D:=vv (q7r (V:=V) hd hr a8 (fun q hq=>HS.o q hq) HR.o ha.lim);have b4:(1:Int)<=(d:Int):=by omega
   have b5:=qaR (nth xs j) r a8 (by omega);have HJ:Hid ((((nth xs j:Nat):Int)+4294967296*(r:Int))/(d:Int)%4294967296=(((r*4294967296+nth xs j)/d:Nat):Int)/\(((nth xs j:Nat):Int)+4294967296*(r:Int))%(d:Int)=(((r*4294967296+nth xs j)%d:Nat):Int)):=vv (by
    have e:((nth xs j:Nat):Int)+4294967296*(r:Int)=((r*4294967296+nth xs j:Nat):Int):=by omega
    rw[e,<- Int.natCast_ediv,<- Int.natCast_emod];have:=D.o.2.2;generalize (r*4294967296+nth xs j)/d=Q at *
    exact⟨by omega,rfl⟩)
   clear a0;go_wp2;go_roundw
   case rel =>
    refine⟨j,_,(r*4294967296+nth xs j)%d,V.set j ((r*4294967296+nth xs j)/d),rfl,by omega,by omega,congrArg _ HJ.o.2,Nat.mod_lt _ hd,D.o.2.1,by rw[List.length_set];exact HL.o,
     HO.o.set (by rw[HL.o];omega) D.o.2.2 HJ.o.1,fun p hp=>?_,a3.setCell lr _⟩
    by_cases hpj:p=j
    ·subst hpj;rw[q0M V p _ p (by rw[HL.o];omega),if_pos rfl];exact D.o.1
    ·rw[q0q _ _ hpj];exact HS.o p (by omega)
   case measure=>simp [intOf]
theorem up_(A:Option Addr)(n c:Nat)(xs:List Nat)(k s:Nat)(z:Int)(hz:z=((32*k+s:Nat):Int))(w:World)(ha:Rd w A n c xs)(hs:s<32)(hk:n+k<35184372088832):
  Calls Tryz.prog 143 #[.slice A n c,.int .i64 z] w (q0e (val xs*2^(32*k+s)) w):=by
 have b7:=ha.sm;have a2:=ha.len;have z0:0<=z:=by omega
 have z1:z<=2251799813685248:=by omega
 have zq:z/32=(k:Int):=by omega
 have zr:z%32=(s:Int):=by omega
 clear hz;rcases Nat.eq_zero_or_pos n with rfl|b1
 ·go_enter Tryz.func143,Tryz.ntmps143
  go_wp2;go_ret
  have h0:xs=[]:=List.eq_nil_of_length_eq_zero a2;subst h0;exact⟨none,0,0,rfl,by rw[q4M,Nat.zero_mul];exact Rd.nil _,Fr.none_ _,Below.refl _ _⟩
 ·have b2:=mk1 (n+k) hk;have ec:((n+k:Nat):Int)=(n:Int)+(k:Int):=by omega
  rw[ec] at b2;clear ec;have b8:((n:Int)==0)=false:=by simp;omega
  have b3:=vv a2;clear a2;go_enter Tryz.func143,Tryz.ntmps143
  go_wp2;go_loopw [8] (fun i wr=>∃(j h:Nat) (V:List Nat),i=.int .i64 j/\j<=n/\V.length=n+k+1/\Own wr w.heap.size 34 V/\nth V (j+k)=h/\h<2^s /\
    val (V.take (j+k))+4294967296^(j+k)*h=4294967296^k*(2^s*val (xs.take j))/\Below w.heap.size w wr) (fun i _=>n-(intOf i).toNat)
  case atStart=>exact⟨0,0,List.replicate (n+k+1) 0,rfl,Nat.zero_le _,by simp,Own.made _ _ _,q19 _ _,Nat.two_pow_pos _,by simp [val,List.take_replicate,q0h],(Below.refl _ _).alloc lr _⟩
  case round =>
   obtain⟨j,h,V,rfl,hj,a6,a0,hh,a7,a4,a3⟩:=hrel;have HV:=vv a4;have HL:=vv a6;have HH:=vv hh;have HO:=vv a0;have a8:=vv a7;clear a4 a6 hh a7;have hg:=a0.lt;by_cases hjn:j<n
   ·obtain⟨b,off,rfl,b4,a1⟩:=ha.cell (by omega);have hx:wr.cell? ⟨b,off+j,none⟩=some (.int .u32 ((nth xs j:Nat):Int)):=(a3.cell (p:=⟨b,off+j,none⟩) b4).trans (a1 j hjn);clear a1;have a9:=ha.nth_lt j;have ho:=a0.cell (i:=j+k) (by rw[HL.o];omega);have hf:=a0.frozen (j+k);have b9:=a0.cell (i:=j+k+1) (by rw[HL.o];omega);have c0:=a0.frozen (j+k+1);rw[HH.o] at ho;have a5:h<4294967296:=by have h1:=a8.o;have h2:2^s<=2^31:=Nat.pow_le_pow_right (by omega) (by omega);omega
    have UP:=vv (q5l a9 hs);have UW:=vv (q9l (h:=h) UP.o.2.2 a5);have ST:=vv (q9m (by rw[HL.o];omega) HH.o a8.o rfl a9 hs HV.o);clear a0;go_wp2;go_roundw
    case rel =>
     have b5:h ||| (nth xs j*2^s)%4294967296<4294967296:=Nat.or_lt_two_pow (n:=32) a5 (Nat.mod_lt _ (by omega));refine⟨j+1,(nth xs j*2^s)/4294967296,(V.set (j+k) (h ||| (nth xs j*2^s)%4294967296)).set (j+k+1) ((nth xs j*2^s)/4294967296),by go_num,by omega,by rw[List.length_set,List.length_set];exact HL.o,
      (HO.o.set (by rw[HL.o];omega) b5 UW.o.1).set (by rw[List.length_set,HL.o];omega) (by have:=UP.o.2.2;omega) UW.o.2,?_,UP.o.2.1,ST.o,(a3.setCell lr _).setCell lr _⟩
     rw[show j+1+k=j+k+1 by omega,q0M _ _ _ _ (by rw[List.length_set,HL.o];omega),if_pos rfl]
    case measure=>simp [intOf];omega
   ·obtain rfl:j=n:=by omega
    have hv:=q9n HL.o (by rw[b3.o];exact lr) HH.o HV.o;have b6:=vv hv;clear hv;have hR:=vv (a0.rd (n:=j+k+1) (c:=j+k+1) HL.o.symm lr (by omega));clear a0;go_wp2_with fail
    refine(q1T _ _ _ _ _ hR.o).mono ?_;rintro e w' ⟨m',rfl,rfl,b0⟩;rw[b6.o] at b0;go_wp2;go_ret
    exact⟨_,m',j+k+1,rfl,b0,Fr.at_ lr,a3⟩
theorem up(A:Option Addr)(n c:Nat)(xs:List Nat)(e:Nat)(z:Int)(hz:z=(e:Int))(w:World)(ha:Rd w A n c xs)(hk:n+e<35184372088832):
  Calls Tryz.prog 143 #[.slice A n c,.int .i64 z] w (q0e (val xs*2^e) w):=by
 have h:=up_ A n c xs (e/32) (e%32) z (by omega) w ha (Nat.mod_lt _ (by omega)) (by omega);rw[show 32*(e/32)+e%32=e by omega] at h;exact h
theorem qbw(A:Option Addr)(n c:Nat)(xs:List Nat)(k s:Nat)(z:Int)(hz:z=((32*k+s:Nat):Int))(w:World)(ha:Rd w A n c xs)(hs:s<32)(hk:k<35184372088832):
  Calls Tryz.prog 267 #[.slice A n c,.int .i64 z] w (q0e (val xs/2^(32*k+s)) w):=by
 have b2:=ha.sm;have a3:=ha.len;have z0:0<=z:=by omega
 have z1:z<=2251799813685248:=by omega
 have zq:z/32=(k:Int):=by omega
 have zr:z%32=(s:Int):=by omega
 clear hz;by_cases hkn:n<=k
 ·have e0:val xs/2^(32*k+s)=0:=by
   have h1:=ha.lt;rw[q38] at h1;have h2:2^(32*n)<=2^(32*k+s):=Nat.pow_le_pow_right (by omega) (by omega);exact Nat.div_eq_of_lt (by omega)
  rw[e0];clear e0 a3;go_enter Tryz.func267,Tryz.ntmps267
  go_wp2;go_ret
  exact⟨none,0,0,rfl,Rd.nil _,Fr.none_ _,Below.refl _ _⟩
 ·have a8:=mk (n-k) (by omega);have ec:((n-k:Nat):Int)=(n:Int)-(k:Int):=by omega
  rw[ec] at a8;clear ec;have a4:=vv a3;clear a3;obtain⟨b,off,rfl,a5,a2⟩:=ha.cell (by omega);have HC:=vv a2;clear a2;go_enter Tryz.func267,Tryz.ntmps267
  go_wp2;go_loopw [8] (fun i wr=>∃(j:Nat) (V:List Nat),i=.int .i64 j/\j<=n-k/\V.length=n-k/\Own wr w.heap.size 34 V/\(∀p,p<j->nth V p=(val (xs.drop k)/2^s)/4294967296^p%4294967296)/\Below w.heap.size w wr) (fun i _=>n-k-(intOf i).toNat)
  case atStart=>exact⟨0,List.replicate (n-k) 0,rfl,Nat.zero_le _,by simp,Own.made _ _ _,fun p hp=>absurd hp (by omega),(Below.refl _ _).alloc lr _⟩
  case round =>
   obtain⟨j,V,rfl,hj,a6,a0,hd,a1⟩:=hrel;have HL:=vv a6;have HO:=vv a0;have HD:=vv hd;clear a6 hd;have hg:=a0.lt;by_cases hjn:j<n-k
   ·have hx:wr.cell? ⟨b,off+(j+k),none⟩=some (.int .u32 ((nth xs (j+k):Nat):Int)):=(a1.cell (p:=⟨b,off+(j+k),none⟩) a5).trans (HC.o (j+k) (by omega));have a9:=ha.nth_lt (j+k);have ho:=a0.cell (i:=j) (by rw[HL.o];omega);have hf:=a0.frozen j;clear a0;by_cases hj1:j+k+1<n
    ·have hy:wr.cell? ⟨b,off+(j+k+1),none⟩=some (.int .u32 ((nth xs (j+k+1):Nat):Int)):=(a1.cell (p:=⟨b,off+(j+k+1),none⟩) a5).trans (HC.o (j+k+1) (by omega));have b0:=ha.nth_lt (j+k+1);have DW:=vv (q7q _ _ s a9 b0);go_wp2;go_roundw
     case rel =>
      refine⟨j+1,V.set j ((nth xs (j+k)+4294967296*nth xs (j+k+1))/2^s%4294967296),by go_num,by omega,by rw[List.length_set];exact HL.o,HO.o.set (by rw[HL.o];omega) (Nat.mod_lt _ (by omega)) DW.o,fun p hp=>?_,a1.setCell lr _⟩;by_cases hpj:p=j
      ·subst hpj;rw[q0M V p _ p (by rw[HL.o];omega),if_pos rfl];have:=q3M (zs:=xs.drop k) (q0F ha.lim _) p s hs;rw[q0s,q0s,Nat.add_comm k p,<- Nat.add_assoc,Nat.add_comm k p] at this;exact this
      ·rw[q0q _ _ hpj];exact HD.o p (by omega)
     case measure=>simp [intOf];omega
    ·have DW:=vv (q68 (nth xs (j+k)) s);have E0:=vv (q1i xs (j+k+1) (by rw[a4.o];omega));go_wp2;go_roundw
     case rel =>
      refine⟨j+1,V.set j ((nth xs (j+k)+4294967296*0)/2^s%4294967296),by go_num,by omega,by rw[List.length_set];exact HL.o,HO.o.set (by rw[HL.o];omega) (Nat.mod_lt _ (by omega)) DW.o,fun p hp=>?_,a1.setCell lr _⟩;by_cases hpj:p=j
      ·subst hpj;rw[q0M V p _ p (by rw[HL.o];omega),if_pos rfl];have:=q3M (zs:=xs.drop k) (q0F ha.lim _) p s hs;rw[q0s,q0s,Nat.add_comm k p,<- Nat.add_assoc,Nat.add_comm k p,E0.o] at this;exact this
      ·rw[q0q _ _ hpj];exact HD.o p (by omega)
     case measure=>simp [intOf];omega
   ·obtain rfl:j=n-k:=by omega
    have hv:val V=val xs/2^(32*k+s):=by
     have h1:=q2h (U:=V) (Q:=val (xs.drop k)/2^s) fun i hi=>HD.o i (by rw[HL.o] at hi;exact hi)
     have h2:=q0G (q0F ha.lim k);rw[List.length_drop,a4.o] at h2;rw[h1,HL.o,Nat.mod_eq_of_lt (Nat.lt_of_le_of_lt (Nat.div_le_self _ _) h2),<- q0Z ha.lim,Nat.div_div_eq_div_mul,Nat.pow_add,q38]
    have b1:=vv hv;clear hv;have hR:=vv (a0.rd (n:=n-k) (c:=n-k) HL.o.symm lr (by omega));clear a0;go_wp2_with fail
    refine(q1T _ _ _ _ _ hR.o).mono ?_;rintro e w' ⟨m',rfl,rfl,a7⟩;rw[b1.o] at a7;go_wp2;go_ret
    exact⟨_,m',n-k,rfl,a7,Fr.at_ lr,a1⟩
theorem qbg(A:Option Addr)(n c:Nat)(xs:List Nat)(e:Nat)(z:Int)(hz:z=(e:Int))(w:World)(ha:Rd w A n c xs)(hk:e<35184372088832):
  Calls Tryz.prog 267 #[.slice A n c,.int .i64 z] w (q0e (val xs/2^e) w):=by
 have h:=qbw A n c xs (e/32) (e%32) z (by omega) w ha (Nat.mod_lt _ (by omega)) (by omega);rw[show 32*(e/32)+e%32=e by omega] at h;exact h
end Go.Proofs.YtcdimmblnbkjjaaGreatDoor.A
