/- Lemmas. -/
import Derived.Test.YtcdimmblnbkjjaaGreatDoorPartAU
import Derived.Laws.AppendOwn
import Derived.Maps.AppendAt
import Derived.Test.YtcdimmblnbkjjaaGreatDoorPartAT
set_option linter.all false
set_option maxHeartbeats 20000000
set_option maxRecDepth 100000
namespace Go.Proofs.YtcdimmblnbkjjaaGreatDoor
open Go Go.RowKit
theorem q3c{w:World}{base:Nat}{e:TypeId}{v:Value}{n:Nat}{U:List Nat}(h:w.ownsRow base e 1 v n (q0p U))(hl:Lim U)(hn:n<=35184372088832):
  ∃A c,v=.slice A n c/\Rd w A n c U/\Fr base A:=by
 have a0:U.length=n:=by have:=h.1;simpa [q0p] using this
 rcases h.2 with ⟨rfl,rfl⟩|⟨g,cap,cur,rfl,hb,hg,hc,hm,hs,ht⟩
 ·have:U=[]:=List.length_eq_zero_iff.1 a0;subst this;exact⟨none,0,rfl,Rd.nil _,Fr.none_ _⟩
 ·refine⟨_,cap,rfl,⟨a0,hc,hn,hl,fun _=>⟨g,0,rfl,(Array.getElem?_eq_some_iff.1 hg).1,fun j hj=>?_⟩⟩,Fr.at_ hb⟩;have e1:=q29 U (i:=j) (by omega);rw[<- ht,Nat.mul_one,List.getElem?_take,if_pos hj] at e1;simp only[World.cell?,hg,Nat.zero_add];rw[<- e1];simp
end Go.Proofs.YtcdimmblnbkjjaaGreatDoor
namespace Go.Proofs.YtcdimmblnbkjjaaGreatDoor.R1
open Go Go.RowKit
theorem q9e(A:Option Addr)(n c:Nat)(xs:List Nat)(w:World)(hr:Rd w A n c xs):
  Calls Tryz.prog 102 #[.slice A n c] w (B.TrimPost A c xs w):=by
 have a3:=hr.sm;have a1:=hr.len;have a4:=hr.le;go_enter Tryz.func102,Tryz.ntmps102
 go_wp2;go_loop [3] (fun t=>∃k:Nat,k<=n/\t=.int .i64 k/\∀i,k<=i->nth xs i=0) (fun t=>(intOf t).toNat)
 case atStart=>exact⟨n,lr,rfl,fun i hi=>q0A xs i (by omega)⟩
 case round =>
  obtain⟨k,hk,rfl,hz⟩:=hrel;have fin:∀m,m<=n->(∀i,m<=i->nth xs i=0)->(m=0\/nth xs (m-1)≠0)->Rd w A m c (toL (val xs)):=by
   intro m hm h0 h1;have e:=q0Q hr.lim (n:=m) h0 (h1.imp id fun h=>⟨by omega,h⟩);rw[<- e];exact hr.take hm
  have Fin:=vv fin;clear fin;rcases Nat.eq_zero_or_pos k with rfl|a2
  ·go_wp2;go_ret
   exact⟨0,rfl,rfl,Fin.o 0 (Nat.zero_le _) hz (.inl rfl)⟩
  ·obtain⟨m,rfl⟩:∃m,k=m+1:=⟨k-1,by omega⟩;obtain⟨b,off,rfl,hb,a0⟩:=hr.cell (by omega);have hx:=a0 m (by omega);clear a0;by_cases h0:nth xs m=0
   ·have h1:(((nth xs m:Nat):Int)==0)=true:=by rw[h0];rfl
    have H0:=vv h0;clear h0;go_wp2;go_round
    case rel=>exact⟨m,by omega,by go_num,fun i hi=>by
     rcases Nat.eq_or_lt_of_le hi with rfl|h
     ·exact H0.o
     ·exact hz i (by omega)⟩
    case measure=>simp [intOf]
   ·have h1:(((nth xs m:Nat):Int)==0)=false:=by rw[beq_eq_false_iff_ne];omega
    have H0:=vv h0;clear h0;go_wp2;go_ret
    exact⟨m+1,rfl,rfl,Fin.o _ (by omega) hz (.inr H0.o)⟩
theorem q8y(A:Option Addr)(n c k:Nat)(xs:List Nat)(w:World)(hr:Rd w A n c xs)(hk:k<=35184372088832):
  Calls Tryz.prog 150 #[.slice A n c,.int .i64 (k:Int)] w fun e w'=>e=.returned (.int .u64 ((nth xs k:Nat):Int))/\w=w':=by
 have a0:=hr.sm;rcases Nat.lt_or_ge k n with h|h
 ·obtain⟨b,off,rfl,hb,hc⟩:=hr.cell (by omega);have hx:=hc k h;have hl:=hr.nth_lt k;clear hc hr;go_enter Tryz.func150,Tryz.ntmps150
  go_wp2;go_ret
  exact⟨rfl,rfl⟩
 ·have HZ:Hid (nth xs k=0):=vv (q0A xs k (by rw[hr.len];exact h));have hd:decide (k<n)=false:=decide_eq_false (by omega);clear hr h;go_enter Tryz.func150,Tryz.ntmps150
  go_wp2;go_ret
  exact⟨q0i (by rw[HZ.o];rfl),rfl⟩
theorem q3D(A B:Option Addr)(n m c d:Nat)(xs ys:List Nat)(w:World)(ha:Rd w A n c xs)(hb:Rd w B m d ys)(hs:n+m<=35184372088832):
  Calls Tryz.prog 104 #[.slice A n c,.slice B m d] w (q08 (val xs*val ys) w):=by
 have b5:=Go.Proofs.YtcdimmblnbkjjaaGreatDoor.B.mk (n+m) hs;have ec:((n+m:Nat):Int)=(n:Int)+(m:Int):=by omega
 rw[ec] at b5;clear ec;go_enter Tryz.func104,Tryz.ntmps104
 go_wp2;go_loopw [6] (fun i wr=>∃(k:Nat) (U:List Nat),i=.int .i64 k/\k<=n/\U.length=n+m/\Own wr w.heap.size 34 U /\
   val (U.take (k+m))=val (xs.take k)*val ys/\Below w.heap.size w wr) (fun i _=>n-(intOf i).toNat)
 case atStart=>exact⟨0,List.replicate (n+m) 0,rfl,Nat.zero_le _,by simp,Own.made _ _ _,by simp [val,List.take_replicate,q0b],(Below.refl _ _).alloc lr _⟩
 case round =>
  obtain⟨k,U,rfl,hk,b0,a7,a2,a8⟩:=hrel;have HV:=vv a2;have HL:=vv b0;clear a2 b0;obtain⟨wo,rfl⟩:∃wo:World,wo=wr:=⟨_,rfl⟩;by_cases hkn:k<n
  ·obtain⟨b,off,rfl,b6,a4⟩:=ha.cell (by omega);have b7:=a4 k hkn;clear a4;have b1:=ha.nth_lt k;go_wp2;go_loopw [7,8] (fun q i wr=>∃(j y:Nat) (V:List Nat),i=.int .i64 j/\j<=m/\q=.int .u64 y/\y<4294967296/\V.length=n+m/\Own wr w.heap.size 34 V /\
    (∀p,k+j<=p->nth V p=nth U p)/\val (V.take (k+j))+4294967296^(k+j)*y=val (U.take (k+j))+4294967296^k*(nth xs k*val (ys.take j))/\Below w.heap.size w wr) (fun _ i _=>m-(intOf i).toNat)
   case atStart=>exact⟨0,0,U,rfl,Nat.zero_le _,rfl,by omega,HL.o,a7,fun _ _=>rfl,by simp [val],a8⟩
   case round =>
    obtain⟨j,y,V,rfl,hj,rfl,hy,b2,a0,a5,a2,a1⟩:=hrel;have b3:=vv a2;have a6:=vv b2;have HS:=vv a5;clear a2 b2 a5;have hg:=a0.lt;by_cases hjm:j<m
    ·have hx:wr.cell? ⟨b,off+k,none⟩=some (.int .u32 ((nth xs k:Nat):Int)):=(a1.cell (p:=⟨b,off+k,none⟩) b6).trans b7;obtain⟨b',off',rfl,a9,a3⟩:=hb.cell (by omega);have c0:wr.cell? ⟨b',off'+j,none⟩=some (.int .u32 ((nth ys j:Nat):Int)):=(a1.cell (p:=⟨b',off'+j,none⟩) a9).trans (a3 j hjm);clear a3;have b4:=hb.nth_lt j;have ho:=a0.cell (i:=k+j) (by rw[a6.o];omega);have hf:=a0.frozen (k+j);have c1:=a0.nth_lt (k+j);have c2:((nth xs k:Nat):Int)*((nth ys j:Nat):Int)<=18446744065119617025:=by
      have:=q0S b1 b4;omega
     have b8:(0:Int)<=((nth xs k:Nat):Int)*((nth ys j:Nat):Int):=Int.mul_nonneg (Int.natCast_nonneg _) (Int.natCast_nonneg _);have i1:(j:Int)<(m:Int):=by omega
     have i2:(0:Int)<=(j:Int):=by omega
     have i3:(k:Int)+(j:Int)<(n:Int)+(m:Int):=by omega
     have i4:(0:Int)<=(k:Int)+(j:Int):=by omega
     have i5:(k:Int)<(n:Int):=by omega
     have i6:(0:Int)<=(k:Int):=by omega
     go_wp2_with fail
     go_quiet (fail)
     have HB:=vv (q0S b1 b4);have HO:=vv a0;clear a0;go_wp2;go_roundw
     case rel =>
      have hd:(nth xs k*nth ys j+nth V (k+j)+y)/4294967296<4294967296:=by have:=HB.o;omega
      refine⟨j+1,(nth xs k*nth ys j+nth V (k+j)+y)/4294967296,V.set (k+j) ((nth xs k*nth ys j+nth V (k+j)+y)%4294967296),by go_num,by omega,congrArg _ (by omega),hd,by rw[List.length_set];exact a6.o,
       (HO.o.drewN _).set (by rw[a6.o];omega) (Nat.mod_lt _ (by omega)) (by omega),fun p hp=>?_,q45 (by rw[a6.o];omega) (HS.o _ lr) b3.o,(q0q a1 _).setCell lr _⟩
      rw[q0e _ _ (by omega)];exact HS.o p (by omega)
     case measure=>simp [intOf];omega
    ·obtain rfl:j=m:=by omega
     have ho:=a0.cell (i:=k+j) (by rw[a6.o];omega);have hf:=a0.frozen (k+j);have HO:=vv a0;clear a0;go_wp2;go_roundw
     case rel =>
      exact⟨k+1,V.set (k+j) y,by go_num,by omega,by rw[List.length_set];exact a6.o,HO.o.set (by rw[a6.o];omega) hy rfl,q50 hb.len (by rw[a6.o];omega) HV.o b3.o,a1.setCell lr _⟩
     case measure=>simp [intOf];omega
  ·obtain rfl:k=n:=by omega
   have hR:=vv (a7.rd (n:=k+m) (c:=k+m) HL.o.symm lr (by omega));go_wp2_with fail
   refine(q9e _ _ _ _ _ hR.o).mono ?_;rintro e w' ⟨m',rfl,rfl,b9⟩;go_wp2;go_ret
   refine⟨_,m',k+m,rfl,?_,Fr.at_ lr,a8⟩;have e:=HV.o;rw[q0c (xs:=U) (by rw[HL.o];omega),q0c (xs:=xs) (by rw[ha.len];omega)] at e;rw[<- e];exact b9
theorem q5J{U:List Nat}{N:Nat}(hl:Lim U)(hv:val U=N)(ht:U=[]\/4294967296^(U.length-1)<=N):U=toL N:=by
 rcases ht with rfl|ht
 ·have:N=0:=hv.symm;subst this;rfl
 ·rcases Nat.eq_zero_or_pos U.length with h0|h0
  ·have:U=[]:=List.length_eq_zero_iff.1 h0;subst this;have:N=0:=hv.symm;subst this;rfl
  ·have e:=q0Q hl (n:=U.length) (fun i hi=>q0A U i hi) (.inr ⟨lr,fun hz=>by
    have e1:=q06 U (U.length-1);rw[show U.length-1+1=U.length by omega,q0c lr] at e1;have e2:nth U (U.length-1)=0:=hz;rw[e2,Nat.mul_zero,Nat.add_zero] at e1;have e3:=q0C (q0h hl (U.length-1));rw[List.length_take,Nat.min_eq_left (by omega)] at e3;omega⟩)
   rw[q0c lr,hv] at e;exact e
theorem q9q(A A':Option Addr)(n m c d N M:Nat)(w:World)(ha:Rd w A n c (toL N))(hb:Rd w A' m d (toL M))(hn:n<=17592186044416)(hm:m<=17592186044416):
  Calls Tryz.prog 103 #[.slice A n c,.slice A' m d] w (q08 (N+M) w):=by
 have c4:Hid (∀k,k<n->4294967296^k<=N):=vv fun k hk=>by
  have hN:0<N:=by
   rcases Nat.eq_zero_or_pos N with e|e
   ·have:=ha.words;rw[e,q0P] at this;omega
   ·exact e
  have:=q1O hN;rw[ha.words] at this;exact Nat.le_trans (Nat.pow_le_pow_right (by omega) (by omega)) this
 have c5:Hid (∀k,k<m->4294967296^k<=M):=vv fun k hk=>by
  have hM:0<M:=by
   rcases Nat.eq_zero_or_pos M with e|e
   ·have:=hb.words;rw[e,q0P] at this;omega
   ·exact e
  have:=q1O hM;rw[hb.words] at this;exact Nat.le_trans (Nat.pow_le_pow_right (by omega) (by omega)) this
 have HA:=vv fun w' (h:Below w.heap.size w w')=>ha.below h rfl
 have HB:=vv fun w' (h:Below w.heap.size w w')=>hb.below h rfl
 have b4:=vv ha.len;have b5:=vv hb.len;obtain⟨i0,hi,b6,b7,b8⟩:=info_parts Go.Proofs.YtcdimmblnbkjjaaGreatDoor.B.inf;have b9:=ha.nth_lt;have c0:=hb.nth_lt;have c6:=vv b9;have c7:=vv c0;clear ha hb b9 c0;go_enter Tryz.func103,Tryz.ntmps103
 go_wp2;go_loopw [5,6,7] (fun v q i wr=>∃(k y:Nat) (U:List Nat),i=.int .i64 k/\q=.int .u64 y/\y<=1/\k<=max n m+1/\(max n m<k->y=0)/\U.length=k/\Lim U/\wr.ownsRow w.heap.size 34 1 v k (q0p U) /\
   val U+4294967296^k*y=val ((toL N).take k)+val ((toL M).take k)/\(U=[]\/4294967296^(k-1)<=N+M)/\Below w.heap.size w wr) (fun _ _ i _=>max n m+1-(intOf i).toNat)
 case atStart=>exact⟨0,0,[],rfl,rfl,by omega,Nat.zero_le _,fun _=>rfl,rfl,q0K,World.ownsRow_nil _ _ _ _,by simp [val],.inl rfl,Below.refl _ _⟩
 case round =>
  obtain⟨k,y,U,rfl,rfl,hy,hk,c1,c2,a6,a8,a9,b0,b1⟩:=hrel;have HV:=vv a9;have HL:=vv c2;have HT:=vv b0;have c8:=vv c1;have HR:=vv a8;have HU:=vv a6;have a1:=vv b1;clear a9 c2 b0 c1 a6 b1;by_cases a5:k<n\/k<m\/0<y
  ·have d1:k<=max n m:=by
    rcases a5 with h|h|h
    ·omega
    ·omega
    ·by_cases hh:max n m<k
     ·have:=c8.o hh;omega
     ·omega
   have HP:Hid (4294967296^k<=N+M):=by
    refine vv ?_;rcases a5 with h|h|h
    ·have:=c4.o k h;omega
    ·have:=c5.o k h;omega
    ·have h1:=HV.o;have h2:=q13 (toL N) k;have h3:=q13 (toL M) k;rw[q01] at h2 h3;have h4:4294967296^k*1<=4294967296^k*y:=Nat.mul_le_mul_left _ h;omega
   have hx:=c6.o k;have hz:=c7.o k;clear a8;rcases(by omega:k<n\/(¬k<n/\k<m)\/(¬k<n/\¬k<m/\0<y)) with h1|⟨h1,h2⟩|⟨h1,h2,h3⟩
   ·have t1:decide (k<n)=true:=decide_eq_true h1;clear a5;go_wp2_with fail
    refine(q8y A n c k (toL N) _ (HA.o _ a1.o) (by omega)).mono ?_;rintro e w' ⟨rfl,rfl⟩;go_wp2_with fail
    refine(q8y A' m d k (toL M) _ (HB.o _ a1.o) (by omega)).mono ?_;rintro e w' ⟨rfl,rfl⟩;go_wp2_with (at_builtin;refine wpList_append_own _ rfl _ _ 26 rfl w.heap.size 34 i0 (.int .u32 0) 1 4 Tryz.underlying26 hi b6 b7 b8 rfl (by decide) _ k (q0p U) rfl (HR.o.alloc _) ⟨wr.heap.size,0,none⟩ 1 1 [.int .u32 ((((nth (toL N) k:Nat):Int)+((nth (toL M) k:Nat):Int)+(y:Int))%4294967296)] rfl rfl (cell_one_new _ _ _) (by simp [Value.oneCell']) (by unfold maxLen;omega) (by omega) (by have:=a1.o.size;simp;omega) ?_)
    intro v' w1 a2 a0 _;have a3:w1.ownsRow w.heap.size 34 1 v' (k+1) (q0p (U++[(nth (toL N) k+nth (toL M) k+y)%4294967296])):=by
     have e:q0p (U++[(nth (toL N) k+nth (toL M) k+y)%4294967296])=q0p U++[.int .u32 ((((nth (toL N) k:Nat):Int)+((nth (toL M) k:Nat):Int)+(y:Int))%4294967296)]:=by
      simp [q0p]
     rw[e];exact a2
    have a7:Below w.heap.size w w1:=by
     have a4:Below w.heap.size w (wr.alloc (.cells #[.int .u32 ((((nth (toL N) k:Nat):Int)+((nth (toL M) k:Nat):Int)+(y:Int))%4294967296)] 34)):=a1.o.alloc a1.o.size _;exact⟨a0.os.trans a4.os,a0.tape.trans a4.tape,a0.output.trans a4.output,Nat.le_trans a4.size a0.size,fun i hi=>(a0.block i (Nat.lt_of_lt_of_le hi a4.size) (fun e=>by have:=(HR.o.lt i e.symm).1;omega)).trans (a4.block i hi)⟩
    have b2:=vv a3;have b3:=vv a7;clear a2 a0 a3 a7;go_wp2;go_roundw
    case rel =>
     refine⟨k+1,(nth (toL N) k+nth (toL M) k+y)/4294967296,U++[(nth (toL N) k+nth (toL M) k+y)%4294967296],by go_num,congrArg _ (by omega),by omega,by omega,fun h=>?_,by rw[List.length_append,HL.o];rfl,q19.2 ⟨HU.o,q0w.2 ⟨Nat.mod_lt _ (by omega),q0K⟩⟩,b2.o,?_,.inr (by rw[Nat.add_sub_cancel];exact HP.o),b3.o⟩
     ·have e1:nth (toL N) k=0:=q0A _ _ (by rw[b4.o];omega);have e2:nth (toL M) k=0:=q0A _ _ (by rw[b5.o];omega);rw[e1,e2];omega
     ·have e:=HV.o;rw[q27,HL.o,q06,q06,Nat.pow_succ];have e3:=Nat.div_add_mod (nth (toL N) k+nth (toL M) k+y) 4294967296;generalize (nth (toL N) k+nth (toL M) k+y)/4294967296=q at *
      generalize (nth (toL N) k+nth (toL M) k+y)%4294967296=r at *
      have e4:4294967296^k*(4294967296*q+r)=4294967296^k*(nth (toL N) k+nth (toL M) k+y):=by rw[e3]
      generalize 4294967296^k=P at *
      grind
    case measure=>simp [intOf];omega
   ·have t1:decide (k<n)=false:=decide_eq_false h1;have t2:decide (k<m)=true:=decide_eq_true h2;clear a5;go_wp2_with fail
    refine(q8y A n c k (toL N) _ (HA.o _ a1.o) (by omega)).mono ?_;rintro e w' ⟨rfl,rfl⟩;go_wp2_with fail
    refine(q8y A' m d k (toL M) _ (HB.o _ a1.o) (by omega)).mono ?_;rintro e w' ⟨rfl,rfl⟩;go_wp2_with (at_builtin;refine wpList_append_own _ rfl _ _ 26 rfl w.heap.size 34 i0 (.int .u32 0) 1 4 Tryz.underlying26 hi b6 b7 b8 rfl (by decide) _ k (q0p U) rfl (HR.o.alloc _) ⟨wr.heap.size,0,none⟩ 1 1 [.int .u32 ((((nth (toL N) k:Nat):Int)+((nth (toL M) k:Nat):Int)+(y:Int))%4294967296)] rfl rfl (cell_one_new _ _ _) (by simp [Value.oneCell']) (by unfold maxLen;omega) (by omega) (by have:=a1.o.size;simp;omega) ?_)
    intro v' w1 a2 a0 _;have a3:w1.ownsRow w.heap.size 34 1 v' (k+1) (q0p (U++[(nth (toL N) k+nth (toL M) k+y)%4294967296])):=by
     have e:q0p (U++[(nth (toL N) k+nth (toL M) k+y)%4294967296])=q0p U++[.int .u32 ((((nth (toL N) k:Nat):Int)+((nth (toL M) k:Nat):Int)+(y:Int))%4294967296)]:=by
      simp [q0p]
     rw[e];exact a2
    have a7:Below w.heap.size w w1:=by
     have a4:Below w.heap.size w (wr.alloc (.cells #[.int .u32 ((((nth (toL N) k:Nat):Int)+((nth (toL M) k:Nat):Int)+(y:Int))%4294967296)] 34)):=a1.o.alloc a1.o.size _;exact⟨a0.os.trans a4.os,a0.tape.trans a4.tape,a0.output.trans a4.output,Nat.le_trans a4.size a0.size,fun i hi=>(a0.block i (Nat.lt_of_lt_of_le hi a4.size) (fun e=>by have:=(HR.o.lt i e.symm).1;omega)).trans (a4.block i hi)⟩
    have b2:=vv a3;have b3:=vv a7;clear a2 a0 a3 a7;go_wp2;go_roundw
    case rel =>
     refine⟨k+1,(nth (toL N) k+nth (toL M) k+y)/4294967296,U++[(nth (toL N) k+nth (toL M) k+y)%4294967296],by go_num,congrArg _ (by omega),by omega,by omega,fun h=>?_,by rw[List.length_append,HL.o];rfl,q19.2 ⟨HU.o,q0w.2 ⟨Nat.mod_lt _ (by omega),q0K⟩⟩,b2.o,?_,.inr (by rw[Nat.add_sub_cancel];exact HP.o),b3.o⟩
     ·have e1:nth (toL N) k=0:=q0A _ _ (by rw[b4.o];omega);have e2:nth (toL M) k=0:=q0A _ _ (by rw[b5.o];omega);rw[e1,e2];omega
     ·have e:=HV.o;rw[q27,HL.o,q06,q06,Nat.pow_succ];have e3:=Nat.div_add_mod (nth (toL N) k+nth (toL M) k+y) 4294967296;generalize (nth (toL N) k+nth (toL M) k+y)/4294967296=q at *
      generalize (nth (toL N) k+nth (toL M) k+y)%4294967296=r at *
      have e4:4294967296^k*(4294967296*q+r)=4294967296^k*(nth (toL N) k+nth (toL M) k+y):=by rw[e3]
      generalize 4294967296^k=P at *
      grind
    case measure=>simp [intOf];omega
   ·have t1:decide (k<n)=false:=decide_eq_false h1;have t2:decide (k<m)=false:=decide_eq_false h2;have t3:decide (0<y)=true:=decide_eq_true h3;clear a5;go_wp2_with fail
    refine(q8y A n c k (toL N) _ (HA.o _ a1.o) (by omega)).mono ?_;rintro e w' ⟨rfl,rfl⟩;go_wp2_with fail
    refine(q8y A' m d k (toL M) _ (HB.o _ a1.o) (by omega)).mono ?_;rintro e w' ⟨rfl,rfl⟩;go_wp2_with (at_builtin;refine wpList_append_own _ rfl _ _ 26 rfl w.heap.size 34 i0 (.int .u32 0) 1 4 Tryz.underlying26 hi b6 b7 b8 rfl (by decide) _ k (q0p U) rfl (HR.o.alloc _) ⟨wr.heap.size,0,none⟩ 1 1 [.int .u32 ((((nth (toL N) k:Nat):Int)+((nth (toL M) k:Nat):Int)+(y:Int))%4294967296)] rfl rfl (cell_one_new _ _ _) (by simp [Value.oneCell']) (by unfold maxLen;omega) (by omega) (by have:=a1.o.size;simp;omega) ?_)
    intro v' w1 a2 a0 _;have a3:w1.ownsRow w.heap.size 34 1 v' (k+1) (q0p (U++[(nth (toL N) k+nth (toL M) k+y)%4294967296])):=by
     have e:q0p (U++[(nth (toL N) k+nth (toL M) k+y)%4294967296])=q0p U++[.int .u32 ((((nth (toL N) k:Nat):Int)+((nth (toL M) k:Nat):Int)+(y:Int))%4294967296)]:=by
      simp [q0p]
     rw[e];exact a2
    have a7:Below w.heap.size w w1:=by
     have a4:Below w.heap.size w (wr.alloc (.cells #[.int .u32 ((((nth (toL N) k:Nat):Int)+((nth (toL M) k:Nat):Int)+(y:Int))%4294967296)] 34)):=a1.o.alloc a1.o.size _;exact⟨a0.os.trans a4.os,a0.tape.trans a4.tape,a0.output.trans a4.output,Nat.le_trans a4.size a0.size,fun i hi=>(a0.block i (Nat.lt_of_lt_of_le hi a4.size) (fun e=>by have:=(HR.o.lt i e.symm).1;omega)).trans (a4.block i hi)⟩
    have b2:=vv a3;have b3:=vv a7;clear a2 a0 a3 a7;go_wp2;go_roundw
    case rel =>
     refine⟨k+1,(nth (toL N) k+nth (toL M) k+y)/4294967296,U++[(nth (toL N) k+nth (toL M) k+y)%4294967296],by go_num,congrArg _ (by omega),by omega,by omega,fun h=>?_,by rw[List.length_append,HL.o];rfl,q19.2 ⟨HU.o,q0w.2 ⟨Nat.mod_lt _ (by omega),q0K⟩⟩,b2.o,?_,.inr (by rw[Nat.add_sub_cancel];exact HP.o),b3.o⟩
     ·have e1:nth (toL N) k=0:=q0A _ _ (by rw[b4.o];omega);have e2:nth (toL M) k=0:=q0A _ _ (by rw[b5.o];omega);rw[e1,e2];omega
     ·have e:=HV.o;rw[q27,HL.o,q06,q06,Nat.pow_succ];have e3:=Nat.div_add_mod (nth (toL N) k+nth (toL M) k+y) 4294967296;generalize (nth (toL N) k+nth (toL M) k+y)/4294967296=q at *
      generalize (nth (toL N) k+nth (toL M) k+y)%4294967296=r at *
      have e4:4294967296^k*(4294967296*q+r)=4294967296^k*(nth (toL N) k+nth (toL M) k+y):=by rw[e3]
      generalize 4294967296^k=P at *
      grind
    case measure=>simp [intOf];omega
  ·have h1:¬k<n:=fun h=>a5 (.inl h)
   have h2:¬k<m:=fun h=>a5 (.inr (.inl h))
   have h3:y=0:=by
    rcases Nat.eq_zero_or_pos y with h|h
    ·exact h
    ·exact absurd (.inr (.inr h)) a5
   subst h3;have t1:decide (k<n)=false:=decide_eq_false h1;have t2:decide (k<m)=false:=decide_eq_false h2;have HE:Hid (U=toL (N+M)):=by
    have e:=HV.o;rw[q0c (xs:=toL N) (by rw[b4.o];omega),q0c (xs:=toL M) (by rw[b5.o];omega),q01,q01,Nat.mul_zero,Nat.add_zero] at e;exact vv (q5J HU.o e (HT.o.imp id fun h=>by rw[HL.o];exact h))
   obtain⟨Av,cv,rfl,c3,c9⟩:=q3c HR.o HU.o (by omega);have d0:=vv c3;clear a5 c3 a8;go_wp2;go_ret
   exact⟨_,_,_,rfl,by rw[<- HE.o];exact d0.o,c9,a1.o⟩
end Go.Proofs.YtcdimmblnbkjjaaGreatDoor.R1
namespace Go.Proofs.YtcdimmblnbkjjaaGreatDoor
open Go Go.RowKit
def dv(l:List UInt8):Nat:=l.foldl (fun a c=>10*a+(c.toNat-48)) 0
theorem q6O(l:List UInt8)(c:UInt8):dv (l++[c])=10*dv l+(c.toNat-48):=by simp [dv,List.foldl_append]
theorem q8k(l:List UInt8):∀a,l.foldl (fun a c=>10*a+(c.toNat-48)) a=a*10^l.length+dv l:=by
 induction l with
 | nil=>intro a;simp [dv]
 | cons c l ih =>
  intro a;unfold dv;rw[List.foldl_cons,List.foldl_cons,ih,ih (10*0+(c.toNat-48)),List.length_cons,Nat.pow_succ]
  grind
theorem q6P(l m:List UInt8):dv (l++m)=dv l*10^m.length+dv m:=by
 unfold dv;rw[List.foldl_append,q8k]
 rfl
def q61(s:ByteArray):Prop:=∀k (h:k<s.size),48<=s[k].toNat/\s[k].toNat<=57
theorem q4V(s:ByteArray)(k:Nat)(h:k<s.size):s.data.toList.take (k+1)=s.data.toList.take k++[s[k]]:=by
 rw[List.take_succ_eq_append_getElem (by simpa using h)];rfl
def dvk(s:ByteArray)(k:Nat):Nat:=dv (s.data.toList.take k)
theorem q32(s:ByteArray):dvk s 0=0:=rfl
theorem q5B(s:ByteArray)(k:Nat)(h:k<s.size):dvk s (k+1)=10*dvk s k+(s[k].toNat-48):=by
 unfold dvk;rw[q4V s k h,q6O]
theorem q6N(s:ByteArray)(hd:q61 s):∀k,k<=s.size->dvk s k<10^k
 | 0,_=>by simp [q32]
 | k+1,h=>by
  have:=q6N s hd k (by omega);have h2:=hd k (by omega);rw[q5B s k (by omega),Nat.pow_succ];omega
def dvm(s:ByteArray)(i j:Nat):Nat:=dv ((s.data.toList.drop i).take j)
theorem q7y(s:ByteArray)(i:Nat):dvm s i 0=0:=rfl
theorem q4a(s:ByteArray)(i j:Nat)(h:i+j<s.size):dvm s i (j+1)=10*dvm s i j+(s[i+j].toNat-48):=by
 unfold dvm;have hl:j<(s.data.toList.drop i).length:=by rw[List.length_drop];simp;omega
 rw[List.take_succ_eq_append_getElem hl,q6O,List.getElem_drop]
 rfl
theorem q4G(s:ByteArray)(hd:q61 s)(i:Nat):∀j,i+j<=s.size->dvm s i j<10^j
 | 0,_=>by simp [q7y]
 | j+1,h=>by
  have:=q4G s hd i j (by omega);have h2:=hd (i+j) (by omega);rw[q4a s i j (by omega),Nat.pow_succ];omega
theorem q58(s:ByteArray)(i j:Nat)(h:i+j<=s.size):dvk s (i+j)=dvk s i*10^j+dvm s i j:=by
 unfold dvk dvm;have e:s.data.toList.length=s.size:=Array.length_toList;have hl:((s.data.toList.drop i).take j).length=j:=by rw[List.length_take,List.length_drop];omega
 rw[List.take_add,q6P,hl]
theorem q3n(s:ByteArray)(hd:q61 s)(k:Nat)(h:k<=s.size):words (dvk s k)<=k:=by
 refine q12 (Nat.lt_of_lt_of_le (q6N s hd k h) ?_);exact Nat.pow_le_pow_left (by omega) k
theorem q6h{j:Nat}(h:j<=8):(10:Nat)^j<=100000000:=Nat.le_trans (Nat.pow_le_pow_right (by omega) h) (by decide)
theorem q3X{j:Nat}(h:j<=9):(10:Nat)^j<=1000000000:=Nat.le_trans (Nat.pow_le_pow_right (by omega) h) (by decide)
def tn(j:Nat):Nat:=10^j
theorem q6f(j:Nat):tn (j+1)=10*tn j:=by unfold tn;rw[Nat.pow_succ,Nat.mul_comm]
theorem q42(w:World)(x:Nat)(hx:x<4294967296)(t:TypeId):Rd (w.alloc (.cells #[.int .u32 (x:Int)] t)) (some ⟨w.heap.size,0,none⟩) 1 1 [x]/\Below w.heap.size w (w.alloc (.cells #[.int .u32 (x:Int)] t)):=
 ⟨(Own.lit (t:=t) [x] (q0w.2 ⟨hx,q0K⟩) (by simp [q0p])).rd rfl lr (by omega),(Below.refl _ _).alloc lr _⟩
structure NatCell(w:World)(g:Nat):Prop where
 c0:w.cell? ⟨g,0,none⟩=some (.slice none 0 0)
 fz:w.frozen? ⟨g,0,none⟩=false
 lt:g<w.heap.size
theorem NatCell.made(w:World)(t:TypeId):NatCell (w.alloc (.cells #[.slice none 0 0] t)) w.heap.size:=
 ⟨by simp only[World.cell?];rw[heap_alloc_new];rfl,by simp only[World.frozen?];rw[heap_alloc_new];simp,by simp⟩
theorem NatCell.below{w w':World}{g:Nat}(h:NatCell w g)(hb:Below w.heap.size w w'):NatCell w' g:=
 ⟨(hb.cell (p:=⟨g,0,none⟩) h.lt).trans h.c0,(hb.frozen (p:=⟨g,0,none⟩) h.lt).trans h.fz,Nat.lt_of_lt_of_le h.lt hb.size⟩
theorem Rd.other{w:World}{A:Option Addr}{n c:Nat}{xs:List Nat}(h:Rd w A n c xs)(g o:Nat)(v:Value)(hf:∀a,A=some a->a.block≠g):Rd (w.setCell ⟨g,o,none⟩ v) A n c xs:=
 h.fm (Fm.set0 (g:=g) (o:=o) w v (.inl rfl)) (fun _=>hf)
end Go.Proofs.YtcdimmblnbkjjaaGreatDoor
namespace Go.Proofs.YtcdimmblnbkjjaaGreatDoor.R1
open Go Go.RowKit
theorem q9r(A:Option Addr)(n c:Nat)(w:World):
  Calls Tryz.prog 101 #[.slice A n c] w fun e w'=>e=.returned (.agg #[.slice A n c])/\Below w.heap.size w w':=by
 go_enter Tryz.func101,Tryz.ntmps101
 go_wp2;exact bodyPost_ret (v:=.agg #[.slice A n c]) (by simp [results,Tryz.results101,go_sem]) rfl ⟨rfl,by first|exact(Below.refl _ _).alloc lr _|exact((Below.refl _ _).alloc lr _).setCell lr _⟩
theorem Parse(s:ByteArray)(w:World)(hd:q61 s)(h0:0<s.size)(h1:s.size<=65536):
  Calls Tryz.prog 64 #[.string s] w fun e w'=>∃A n c,e=.returned (.tuple #[.agg #[.slice A n c],.int .i64 0,.int .i64 0])/\Rd w' A n c (toL (dvk s s.size))/\Fr w.heap.size A/\Below w.heap.size w w':=by
 have HD:=vv hd;have e0:(s.size:Int)<=65536:=by omega
 clear hd h1;go_enter Tryz.func64,Tryz.ntmps64
 go_wp2;go_loop [5] (fun t=>∃k:Nat,k<=s.size/\t=.int .i64 k) (fun t=>s.size-(intOf t).toNat)
 case atStart=>exact⟨0,Nat.zero_le _,rfl⟩
 case round =>
  obtain⟨k,hk,rfl⟩:=hrel;by_cases hks:k<s.size
  ·obtain⟨d1,d2⟩:=HD.o k hks;go_wp2;go_round
   case rel=>exact⟨k+1,by omega,by go_num⟩
   case measure=>simp [intOf];omega
  ·have e4:((s.size:Int)==0)=false:=by rw[beq_eq_false_iff_ne];omega
   have b2:k=s.size:=by omega
   subst b2;clear hk hks;go_wp2;go_loopw [6,7] (fun v t wr=>∃(i:Nat) (A:Option Addr) (n c:Nat),t=.int .i64 i/\i<=s.size/\v=.slice A n c/\Rd wr A n c (toL (dvk s i))/\Fr (w.heap.size+1) A/\NatCell wr w.heap.size/\Below w.heap.size w wr) (fun _ t _=>s.size-(intOf t).toNat)
   case atStart=>exact⟨0,none,0,0,rfl,Nat.zero_le _,rfl,Rd.nil _,Fr.none_ _,NatCell.made _ _,(Below.refl _ _).alloc lr _⟩
   case round =>
    obtain⟨i,A,n,c,rfl,hi,rfl,hR,c6,b3,hB⟩:=hrel;have b4:=vv b3;have d0:=b3.lt;have HR:=vv hR;have c7:=vv c6;have HB:=vv hB;have e5:=hR.sm;have e6:n<=65536:=by
     have:=hR.words;have:=q3n s HD.o i hi;omega
    clear hR c6 hB b3;by_cases his:i<s.size
    ·go_wp2;go_loop [8,9,10,7] (fun a b c t=>∃j:Nat,j<=9/\i+j<=s.size/\a=.int .u32 (dvm s i j:Nat)/\b=.int .u32 (tn j:Nat)/\c=.int .i64 j/\t=.int .i64 ((i+j:Nat):Int)) (fun _ _ c _=>9-(intOf c).toNat)
     case atStart=>exact⟨0,by omega,by omega,rfl,rfl,rfl,rfl⟩
     case round =>
      obtain⟨j,hj,a6,rfl,rfl,rfl,rfl⟩:=hrel;by_cases hgo:j<9/\i+j<s.size
      ·obtain⟨g1,g2⟩:=hgo;obtain⟨d1,d2⟩:=HD.o (i+j) g2;have HS:=vv (q4a s i j g2);have m1:=q4G s HD.o i j a6;have m2:=q6h (j:=j) (by omega);have m3:((dvm s i j:Nat):Int)<=100000000:=by omega
       have m4:((tn j:Nat):Int)<=100000000:=by unfold tn;omega
       have d3:=vv (q6f j);have m5:(j:Int)<9:=by omega
       have m6:((i+j:Nat):Int)<(s.size:Int):=by omega
       clear m1 m2;go_wp2;go_round
       case rel=>exact⟨j+1,by omega,by omega,congrArg _ (by rw[HS.o];omega),congrArg _ (by rw[d3.o];omega),by go_num,congrArg _ (by omega)⟩
       case measure=>simp [intOf];omega
      ·have e7:0<j:=by omega
       have m1:=q4G s HD.o i j a6;have m2:=q3X hj;have c8:dvm s i j<4294967296:=by omega
       have b5:tn j<4294967296:=by unfold tn;omega
       obtain⟨o1,o2⟩:=q42 wr (tn j) b5 34;have c9:=vv o1;have a5:=vv o2;have d4:Hid (tn j<4294967296):=vv b5;have HN:Hid (dvm s i j<4294967296):=vv c8;have a3:=vv (q58 s i j a6);clear m1 m2 o1 o2 c8 b5;rcases(by omega:¬j<9\/j<9/\¬i+j<s.size) with g1|⟨g1,g2⟩
       ·clear hgo;go_wp2_with fail
        refine(q3D A (some ⟨wr.heap.size,0,none⟩) n 1 c 1 _ _ _ (HR.o.below a5.o rfl) c9.o (by omega)).mono ?_;rintro e w1 ⟨A1,n1,c1,rfl,hT,d5,a1⟩;rw[q01,q1f] at hT;have d6:n1<=65536:=by
         have e1:=hT.words;have e2:=q1t (a:=dvk s i*tn j) (b:=dvk s (i+j)) (by rw[a3.o];exact Nat.le_add_right _ _);have e3:=q3n s HD.o (i+j) a6;omega
        obtain⟨o3,o4⟩:=q42 w1 (dvm s i j) HN.o 34;have HT:=vv (hT.below o4 rfl);have b6:=vv o3;have a9:=vv o4;have a0:=vv (((b4.o.below a5.o).below a1).below o4);have a2:=vv ((HB.o.trans (a5.o.mono HB.o.size)).trans (a1.mono (Nat.le_trans HB.o.size a5.o.size)));clear hT o3 o4 a1;go_wp2_with fail
        refine(q9e (some ⟨w1.heap.size,0,none⟩) 1 1 [dvm s i j] _ b6.o).mono ?_;rintro e w' ⟨m',rfl,rfl,a4⟩;rw[q1f] at a4;have d7:m'<=1:=a4.bound (k:=1) (by rw[Nat.pow_one];exact HN.o);have b7:=vv a4;clear a4;go_wp2_with fail
        refine(q9q A1 (some ⟨w1.heap.size,0,none⟩) n1 m' c1 1 _ _ _ HT.o b7.o (by omega) (by omega)).mono ?_;rintro e w2 ⟨A2,n2,c2,rfl,hP,b0,a7⟩;have HP:Hid (Rd w2 A2 n2 c2 (toL (dvk s (i+j)))):=vv (by rw[a3.o];exact hP);have d8:=a2.o.size;have b8:=vv ((a2.o.trans (a9.o.mono a2.o.size)).trans (a7.mono (Nat.le_trans a2.o.size a9.o.size)));have b9:Hid (Fr (w.heap.size+1) A2):=vv (b0.mono (by have:=a0.o.lt;omega));have a8:=vv (a0.o.below a7);clear hP a7 b0;go_wp2;go_roundw
        case rel=>exact⟨i+j,A2,n2,c2,by go_num,a6,rfl,HP.o,b9.o,a8.o,b8.o⟩
        case measure=>simp [intOf];omega
       ·clear hgo;go_wp2_with fail
        refine(q3D A (some ⟨wr.heap.size,0,none⟩) n 1 c 1 _ _ _ (HR.o.below a5.o rfl) c9.o (by omega)).mono ?_;rintro e w1 ⟨A1,n1,c1,rfl,hT,d5,a1⟩;rw[q01,q1f] at hT;have d6:n1<=65536:=by
         have e1:=hT.words;have e2:=q1t (a:=dvk s i*tn j) (b:=dvk s (i+j)) (by rw[a3.o];exact Nat.le_add_right _ _);have e3:=q3n s HD.o (i+j) a6;omega
        obtain⟨o3,o4⟩:=q42 w1 (dvm s i j) HN.o 34;have HT:=vv (hT.below o4 rfl);have b6:=vv o3;have a9:=vv o4;have a0:=vv (((b4.o.below a5.o).below a1).below o4);have a2:=vv ((HB.o.trans (a5.o.mono HB.o.size)).trans (a1.mono (Nat.le_trans HB.o.size a5.o.size)));clear hT o3 o4 a1;go_wp2_with fail
        refine(q9e (some ⟨w1.heap.size,0,none⟩) 1 1 [dvm s i j] _ b6.o).mono ?_;rintro e w' ⟨m',rfl,rfl,a4⟩;rw[q1f] at a4;have d7:m'<=1:=a4.bound (k:=1) (by rw[Nat.pow_one];exact HN.o);have b7:=vv a4;clear a4;go_wp2_with fail
        refine(q9q A1 (some ⟨w1.heap.size,0,none⟩) n1 m' c1 1 _ _ _ HT.o b7.o (by omega) (by omega)).mono ?_;rintro e w2 ⟨A2,n2,c2,rfl,hP,b0,a7⟩;have HP:Hid (Rd w2 A2 n2 c2 (toL (dvk s (i+j)))):=vv (by rw[a3.o];exact hP);have d8:=a2.o.size;have b8:=vv ((a2.o.trans (a9.o.mono a2.o.size)).trans (a7.mono (Nat.le_trans a2.o.size a9.o.size)));have b9:Hid (Fr (w.heap.size+1) A2):=vv (b0.mono (by have:=a0.o.lt;omega));have a8:=vv (a0.o.below a7);clear hP a7 b0;go_wp2;go_roundw
        case rel=>exact⟨i+j,A2,n2,c2,by go_num,a6,rfl,HP.o,b9.o,a8.o,b8.o⟩
        case measure=>simp [intOf];omega
    ·have c3:i=s.size:=by omega
     subst c3;clear hi his;go_wp2_with fail
     refine(q9r A n c _).mono ?_;rintro e w1 ⟨rfl,a1⟩;have d9:=vv (HR.o.below a1 rfl);have a0:=vv (b4.o.below a1);have a2:=vn HB a1;have c0:=a0.o.c0;have fz:=a0.o.fz;have lt:=a0.o.lt;have c4:Hid (Rd (w1.setCell ⟨w.heap.size,0,none⟩ (.slice A n c)) A n c (toL (dvk s s.size))):=vv (d9.o.other _ _ _ (fun a e=>by have:=(c7.o a e).1;omega));have c5:Hid (Below w.heap.size w (w1.setCell ⟨w.heap.size,0,none⟩ (.slice A n c))):=vv (a2.o.setCell lr _);have b1:(w1.setCell ⟨w.heap.size,0,none⟩ (.slice A n c)).cell? ⟨w.heap.size,0,none⟩=some (.slice A n c):=q0G c0;clear a1;go_wp2;exact bodyPost_ret (v:=.tuple #[.agg #[.slice A n c],.int .i64 0,.int .i64 0]) (by simp [results,Tryz.results64,go_sem,b1]) rfl ⟨A,n,c,rfl,c4.o,c7.o.mono (by omega),c5.o⟩
end Go.Proofs.YtcdimmblnbkjjaaGreatDoor.R1
namespace Go.Proofs.YtcdimmblnbkjjaaGreatDoor.Rtp
open Go Go.RowKit R5
theorem q8D{W:List Nat}{N:Nat}(hl:Lim W)(hv:val W=N)(hw:W.length=words N):W=toL N:=
 q3m hw fun i _=>by rw[q0O,<- hv,q3e hl]
theorem q4R(N:Nat):((bl N+7)/8+3)/4=words N:=by
 have h1:=A.bl_words N;have h2:N<4294967296^(((bl N+7)/8+3)/4):=by
  rw[q8O];exact Nat.lt_of_lt_of_le (A.lt_bytes N) (Nat.pow_le_pow_right (by decide) (by omega))
 have h3:=q12 h2;omega
theorem q8W(g o:Nat)(u:Int)(w:World)(h:IntAt w g o u)(sN:bl u.natAbs<=4294967296):
  Calls Tryz.prog 243 #[.pointer (some ⟨g,o,none⟩)] w fun e w'=>∃A n,e=.returned (q4w A n n)/\Rd w' A n n (toL u.natAbs)/\Fr w.heap.size A/\Below w.heap.size w w':=by
 obtain⟨w0,a4⟩:=yx (w.alloc (.cells #[.slice none 0 0] 28));have b0:Below w.heap.size w w0:=by rw[a4];exact(Below.refl _ w).alloc lr _
 have c0:NatCell w0 w.heap.size:=by rw[a4];exact NatCell.made _ _
 have b3:=vv (A.Bytes g o u w0 (h.below b0) sN);have b4:=vv (q4R u.natAbs);obtain⟨N,hN⟩:=yx (u.natAbs);rw[<- hN] at b3 b4 sN ⊢;have c8:=vv a4;have b5:=vv b0;have c9:=vv c0;have d0:=vv sN;clear h a4 b0 c0 sN hN;go_enter Tryz.func243,Tryz.ntmps243
 go_wp2_with fail
 rw[<- c8.o];refine b3.o.mono ?_;rintro e w1 ⟨B,m,rfl,hm,b6,a6⟩;have b7:=vv b6;have d1:=vv a6;have b8:=vv (c9.o.below a6);have a7:Hid (w.heap.size<w1.heap.size):=vv b8.o.lt;obtain⟨L,hL⟩:=yx ((m+3)/4);have d2:Hid (L=words N):=vv (by rw[hL,hm];exact b4.o);have e7:m<=4294967296:=by have:=d0.o;omega
 have b9:L<=35184372088832:=by omega
 have e8:(L:Int)<=35184372088832:=by omega
 have d3:((m:Int)+3)/4=(L:Int):=by omega
 have e9:(m:Int)<=4294967296:=by omega
 have f0:=A.mk L b9;have HL:=vv hL;have H1:Hid (Own (w1.alloc (.cells (madeCells #[.int .u32 0] L) 34)) w1.heap.size 34 (List.replicate L 0)):=vv (Own.made w1 L 34);have H3:Hid (Below w1.heap.size w1 (w1.alloc (.cells (madeCells #[.int .u32 0] L) 34))):=vv ((Below.refl _ w1).alloc lr _);clear b6 a6 hL hm;go_wp2;clear d3;go_loopw [17] (fun t wr=>∃(i:Nat) (W:List Nat),t=.int .i64 i/\i<=m/\Own wr w1.heap.size 34 W/\W.length=L/\val W=hi N (m-i)/\Below w1.heap.size w1 wr) (fun t _=>m-(intOf t).toNat)
 case atStart=>exact⟨0,List.replicate L 0,rfl,Nat.zero_le _,H1.o,List.length_replicate,by rw[q0b,Nat.sub_zero,q7W b7.o.lt],H3.o⟩
 case round =>
  obtain⟨i,W,rfl,d4,a0,a5,a2,hB⟩:=hrel;have a8:=vv a0;have c2:=vv a5;have HB:=vv hB;by_cases him:i<m
  ·obtain⟨k,hk⟩:=yx (m-1-i);have c3:val W=hi N (k+1):=by rw[a2];congr 1;omega
   have f1:(m:Int)-1-(i:Int)=(k:Int):=by omega
   obtain⟨b,off,e,c4,c5⟩:=b7.o.cell (by omega);subst e;have c6:=(hB.cell (p:=⟨b,off+i,none⟩) c4).trans (c5 i him);rw[<- hk] at c6;obtain⟨q,hq⟩:=yx (k/4);have f2:q<L:=by have:=HL.o;omega
   have a9:q<W.length:=by omega
   have f3:(k:Int)/4=(q:Int):=by omega
   have d5:(k:Int)<=4294967296:=by omega
   have d6:(q:Int)<(L:Int):=by omega
   obtain⟨r,hr⟩:=yx (k%4);have f4:(k:Int).tmod 4=(r:Int):=by rw[Int.tmod_eq_emod_of_nonneg (by omega)];omega
   have f5:IntKind.i64.wrap (q:Int)=(q:Int):=by rw[IntKind.wrap_i64];omega
   have f6:(0:Int)<=(q:Int):=by omega
   obtain⟨s1,s2,s3,s4⟩:=q4M a0.2 a9 (show k=4*q+r by omega) (by omega) c3;have c7:=a0.cell a9;have f7:=a0.frozen q;have f8:=a0.lt;have HS:=vv (a0.set (x:=nth W q+bt N k*256^r) a9 s2 rfl);have d7:=q8o N k;obtain⟨C,hC⟩:=yx (bt N k);obtain⟨x,hx⟩:=yx (nth W q);rw[<- hC,<- hx] at s1 s2 s4 HS;rw[<- hC] at s3 d7 c6;rw[<- hx] at c7;have f9:IntKind.u32.wrap (C:Int)=(C:Int):=by rw[IntKind.wrap_u32];omega
   obtain⟨D,hD⟩:=yx (C*256^r);rw[<- hD] at s1 s2 s3 s4 HS;obtain⟨s,hs⟩:=yx (8*r);have g0:IntKind.i64.wrap (8*(r:Int))=(s:Int):=by rw[IntKind.wrap_i64];omega
   have g1:(0:Int)<=(s:Int):=by omega
   have d8:(s:Int)<=32:=by omega
   have g2:IntKind.u32.wrap ((C:Int)*2^s)=(D:Int):=by
    have e:(C:Int)*2^s=(D:Int):=by
     have e2:(2:Int)^s=((256^r:Nat):Int):=by rw[hs,Int.natCast_pow,Int.pow_mul];rfl
     rw[e2,hD,Int.natCast_mul]
    rw[e,IntKind.wrap_u32];omega
   have d9:Hid (hi N k=hi N (m-(i+1))):=vv (by rw[hk];congr 1;omega);have e0:=vv s4;clear c4 c5 hB a0 c3 a2 a5 hr hq hk hC hx hD hs s2 s3 s4;go_wp2;refine q02 (fun w'=>w'.cell? ⟨w1.heap.size,q,none⟩=some (.int .u32 (x:Int))) 13
    (.still 0 (.still 1 (.still 2 (.still 3 (.still 4 (.still 5 (.still 6 (.still 7 (.still 8 (.still 9 (.still 10 (.still 11 (.still 12 .done))))))))))))) (by kernel_rfl) (by kernel_rfl) (fun _ _ d _ _ h=>by cases d<;>exact h) c7 (fun hS0=>?_)
   iterate 13
    refine q00 (v:=?_) rfl (by rfl) ?_ ?_;rotate_left
    ·intro w g3;go_simp;with_reducible rfl
    simp only[Act.put,sa,sb,sc]
   refine q0a ?_;go_wp2;go_roundw
   case rel=>exact⟨i+1,W.set q (x+D),by go_num,by omega,HS.o,by rw[List.length_set];exact c2.o,e0.o.trans d9.o,(HB.o.drew).setCell lr _⟩
   case measure=>simp [intOf];omega
  ·obtain rfl:i=m:=by omega
   rw[Nat.sub_self,q6J] at a2;have g4:=vv a2;have b1:=b8.o.below hB;have c1:=b1.c0;have l1:=b1.lt;have fz1:=b1.fz;have b2:(i:Int)<=(i:Int):=Int.le_refl _;have e1:=vv (q8D a0.2 a2 (by rw[a5];exact d2.o));obtain⟨w9,a3⟩:=yx (wr.setCell ⟨w.heap.size,0,none⟩ (.slice (some ⟨w1.heap.size,0,none⟩) L L));have a1:w9.cell? ⟨w.heap.size,0,none⟩=some (.slice (some ⟨w1.heap.size,0,none⟩) L L):=by rw[a3];exact q0G c1
   have e3:Hid (Rd w9 (some ⟨w1.heap.size,0,none⟩) L L (toL N)):=vv (by
    rw[<- e1.o,a3];exact(a8.o.setOther (by show w1.heap.size≠w.heap.size;have:=a7.o;omega) _).rd c2.o.symm lr b9)
   have e4:Hid (Below w.heap.size w w9):=vv (by
    rw[a3];exact(b5.o.trans ((d1.o.mono b5.o.size).trans (HB.o.mono (by have:=a7.o;omega)))).setCell lr _)
   have e5:=vv a3;have e6:=vv a1;clear a0 a2 a5 hB him d4 b2 a3 a1;go_wp2;rw[<- e5.o];have a1:=e6.o;exact bodyPost_ret (v:=q4w (some ⟨w1.heap.size,0,none⟩) L L) (by simp [results,Tryz.results243,go_sem,a1]) rfl ⟨_,_,rfl,e3.o,Fr.at_ (by show w.heap.size<=w1.heap.size;have:=a7.o;omega),e4.o⟩
theorem q3T(Ad:Option Addr)(n c N:Nat)(w:World)(hr:Rd w Ad n c (toL N))(hn:n<=1000000):
  Calls Tryz.prog 184 #[q4w Ad n c] w (q0Z (N:Int) w):=by
 obtain⟨w0,a5⟩:=yx (w.alloc (.cells #[.slice Ad n c] 28));have b0:Below w.heap.size w w0:=by rw[a5];exact(Below.refl _ w).alloc lr _
 have c0:w0.cell? ⟨w.heap.size,0,none⟩=some (.slice Ad n c):=by rw[a5];simp only[World.cell?];rw[heap_alloc_new];rfl
 have l0:w.heap.size<w0.heap.size:=by rw[a5];simp
 obtain⟨m,hm⟩:=yx (4*n);have c5:m<=35184372088832:=by omega
 have g8:=A.mk8 m c5;have e7:4*(n:Int)=(m:Int):=by omega
 have g9:(m:Int)<=4000000:=by omega
 have i0:(n:Int)<=1000000:=by omega
 have c6:N<256^m:=by
  have:=q0d N;rw[hr.words,q8O,<- hm] at this;exact this
 have HM:=vv hm;have e8:=vv c6;have HR:=vv hr;have e9:=vv a5;have c7:=vv b0;have i1:=vv c0;have i2:=vv l0;have s0:w0.heap.size=w.heap.size+1:=by rw[a5];simp
 have h1:=q3w.made w0 m 5;have h3:=(Below.refl w0.heap.size w0).alloc (o:=.cells (madeCells #[.int .u8 0] m) 5) lr;rw[s0] at h1 h3;have H1:=vv h1;have H3:=vv h3;have i3:=vv s0;clear h1 h3 s0;clear hr a5 b0 hm c6;go_enter Tryz.func184,Tryz.ntmps184
 go_wp2;rw[<- e9.o];clear e7 c0 l0;go_loopw [15] (fun t wr=>∃(i:Nat) (U:List Nat),t=.int .i64 i/\i<=n/\q3w wr (w.heap.size+1) 5 U/\U.length=m/\(∀j,m-4*i<=j->j<m->nth U j=bt N (m-1-j))/\Below (w.heap.size+1) w0 wr) (fun t _=>n-(intOf t).toNat)
 case atStart=>exact⟨0,List.replicate m 0,rfl,Nat.zero_le _,H1.o,List.length_replicate,fun j h1 h2=>absurd h1 (by omega),H3.o⟩
 case round =>
  obtain⟨i,U,rfl,c8,a0,b1,b2,hB⟩:=hrel;have b3:=vv a0;have c9:=vv b1;have d0:=vv b2;have HB:=vv hB;by_cases him:i<n
  ·obtain⟨b,off,e,d1,d2⟩:=HR.o.cell (by omega);subst e;have d3:b<w.heap.size+1:=by omega
   have f0:=(hB.cell (p:=⟨b,off+i,none⟩) d3).trans ((c7.o.cell (p:=⟨b,off+i,none⟩) d1).trans (d2 i him));have d4:nth (toL N) i<4294967296:=HR.o.nth_lt i;have a1:=q1Y (q1E N) i 0 (by omega);have a2:=q1Y (q1E N) i 1 (by omega);have a3:=q1Y (q1E N) i 2 (by omega);have a4:=q1Y (q1E N) i 3 (by omega);rw[q01] at a1 a2 a3 a4;rw[Nat.pow_zero,Nat.div_one] at a1;rw[Nat.pow_one] at a2;rw[show 256^2=65536 from rfl] at a3;rw[show 256^3=16777216 from rfl] at a4;obtain⟨x,hx⟩:=yx (nth (toL N) i);obtain⟨C0,b4⟩:=yx (bt N (4*i+0));obtain⟨C1,b6⟩:=yx (bt N (4*i+1));obtain⟨C2,b7⟩:=yx (bt N (4*i+2));obtain⟨C3,b8⟩:=yx (bt N (4*i+3));rw[<- hx] at f0 d4 a1 a2 a3 a4;rw[<- b4] at a1;rw[<- b6] at a2;rw[<- b7] at a3;rw[<- b8] at a4;have v0:(x:Int)%256=(C0:Int):=by omega
   have v1:(x:Int)/256%256=(C1:Int):=by omega
   have v2:(x:Int)/65536%256=(C2:Int):=by omega
   have v3:(x:Int)/16777216=(C3:Int):=by omega
   obtain⟨a,ha⟩:=yx (m-4*i);have f5:4<=a:=by have:=HM.o;omega
   have f6:a<=m:=by omega
   obtain⟨p,hp⟩:=yx (a-4);have i4:(m:Int)-4*(i:Int)=(a:Int):=by have:=HM.o;omega
   have q1:(a:Int)-1=((p+3:Nat):Int):=by omega
   have q2:(a:Int)-2=((p+2:Nat):Int):=by omega
   have q3:(a:Int)-3=((p+1:Nat):Int):=by omega
   have q4:(a:Int)-4=(p:Int):=by omega
   obtain⟨p1,d5⟩:=yx (p+3);obtain⟨p2,d6⟩:=yx (p+2);obtain⟨p3,d7⟩:=yx (p+1);rw[<- d5] at q1;rw[<- d6] at q2;rw[<- d7] at q3;have m1:(p1:Int)<(m:Int):=by omega
   have m2:(p2:Int)<(m:Int):=by omega
   have m3:(p3:Int)<(m:Int):=by omega
   have m4:(p:Int)<(m:Int):=by omega
   obtain⟨w1,a6⟩:=yx (wr.setCell ⟨w.heap.size+1,p1,none⟩ (.int .u8 (C0:Int)));obtain⟨w2,a7⟩:=yx (w1.setCell ⟨w.heap.size+1,p2,none⟩ (.int .u8 (C1:Int)));obtain⟨w3,a8⟩:=yx (w2.setCell ⟨w.heap.size+1,p3,none⟩ (.int .u8 (C2:Int)));have o1:q3w w1 (w.heap.size+1) 5 (U.set p1 C0):=by rw[a6];exact a0.set (by omega) rfl
   have o2:q3w w2 (w.heap.size+1) 5 ((U.set p1 C0).set p2 C1):=by rw[a7];exact o1.set (by rw[List.length_set];omega) rfl
   have o3:q3w w3 (w.heap.size+1) 5 (((U.set p1 C0).set p2 C1).set p3 C2):=by rw[a8];exact o2.set (by simp only[List.length_set];omega) rfl
   have HS:=vv (o3.set (i:=p) (x:=C3) (by simp only[List.length_set];omega) rfl);have c1:=a0.cell (i:=p1) (by omega);have f1:=a0.frozen p1;have l1:=a0.lt;have c2:=o1.cell (i:=p2) (by simp only[List.length_set];omega);have f2:=o1.frozen p2;have l2:=o1.lt;have c3:=o2.cell (i:=p3) (by simp only[List.length_set];omega);have f3:=o2.frozen p3;have l3:=o2.lt;have c4:=o3.cell (i:=p) (by simp only[List.length_set];omega);have f4:=o3.frozen p;have l4:=o3.lt;have f7:Hid (Below (w.heap.size+1) w0 (w3.setCell ⟨w.heap.size+1,p,none⟩ (.int .u8 (C3:Int)))):=vv (by
    rw[a8,a7,a6];exact(((hB.setCell lr _).setCell lr _).setCell lr _).setCell lr _)
   have f8:Hid (∀j,m-4*(i+1)<=j->j<m->nth ((((U.set p1 C0).set p2 C1).set p3 C2).set p C3) j=bt N (m-1-j)):=vv (fun j h1 h2=>by
    rw[q0L _ p C3 j (by simp only[List.length_set];omega),q0L _ p3 C2 j (by simp only[List.length_set];omega),q0L _ p2 C1 j (by simp only[List.length_set];omega),q0L _ p1 C0 j (by omega)];have hm:=HM.o;by_cases e4:j=p
    ·rw[if_pos e4,b8];congr 1;omega
    rw[if_neg e4];by_cases e3:j=p3
    ·rw[if_pos e3,b7];congr 1;omega
    rw[if_neg e3];by_cases e2:j=p2
    ·rw[if_pos e2,b6];congr 1;omega
    rw[if_neg e2];by_cases e1:j=p1
    ·rw[if_pos e1,b4];congr 1;omega
    rw[if_neg e1];exact d0.o j (by omega) h2)
   obtain⟨z1,d8⟩:=yx (nth U p1);obtain⟨z2,d9⟩:=yx (nth (U.set p1 C0) p2);obtain⟨z3,e0⟩:=yx (nth ((U.set p1 C0).set p2 C1) p3);obtain⟨z4,e5⟩:=yx (nth (((U.set p1 C0).set p2 C1).set p3 C2) p);rw[<- d8] at c1;rw[<- d9] at c2;rw[<- e0] at c3;rw[<- e5] at c4;clear d8 d9 e0 e5;have f9:=vv a6;have g0:=vv a7;have g1:=vv a8;have i6:(x:Int)<=4294967295:=by omega
   have i7:(i:Int)<(n:Int):=by omega
   have i8:(i:Int)<=1000000:=by omega
   have g2:(a:Int)<=4000000:=by omega
   clear d1 d3 d2 hB a0 b2 b1 hx b4 b6 b7 b8 a1 a2 a3 a4 d4 ha hp d5 d6 d7 a6 a7 a8 o1 o2 o3 c8 him f5 f6;go_wp2_with (first|rw[<- f9.o]|rw[<- g0.o]|rw[<- g1.o])
   go_roundw
   case rel=>exact⟨i+1,_,by go_num,by omega,HS.o,by simp only[List.length_set];exact c9.o,f8.o,f7.o⟩
   case measure=>simp [intOf];omega
  ·obtain rfl:i=n:=by omega
   have g3:Hid (Bd wr (some ⟨w.heap.size+1,0,none⟩) m m N):=vv (b3.o.bd c9.o.symm lr c5 e8.o (fun j h=>d0.o j (by have:=HM.o;omega) h));have b9:Hid (Below w.heap.size w wr):=vv (c7.o.trans (hB.mono (by omega)));obtain⟨w5,a9⟩:=yx (wr.alloc (.cells #[.bool false,.slice none 0 0] 143));have b5:Below wr.heap.size wr w5:=by rw[a9];exact(Below.refl _ wr).alloc lr _
   have i5:IntAt w5 wr.heap.size 0 0:=by rw[a9];exact IntAt.zero wr _
   have g4:=vv (A.SetBytes wr.heap.size 0 0 _ m m N w5 i5 (g3.o.below b5 rfl) (by omega));have i9:=vv i5;have g5:=vv a9;have e6:=vn b9 b5;clear a0 b2 b1 hB him c8 a9 b5 i5;go_wp2_with fail
   rw[<- g5.o];refine g4.o.mono ?_;rintro e w6 ⟨rfl,hI,hF⟩;have g6:=vv hI;have g7:Hid (Below w.heap.size w w6):=vv (Fm.below e6.o hF e6.o.size b9.o.size);clear hI hF;go_wp2;go_ret
   exact⟨_,rfl,b9.o.size,g6.o,g7.o⟩
end Go.Proofs.YtcdimmblnbkjjaaGreatDoor.Rtp
namespace Go.Proofs.YtcdimmblnbkjjaaGreatDoor.R3
open Go Go.RowKit R5
def formOk(E F:Int):Bool:=decide (2<=E) && decide (E<=11) && decide (1<=F) && decide (F<=52)
def chk(E F:Int):Int:=if formOk E F then 0 else 5
theorem chk_ok{E F:Int}(h:formOk E F=true):chk E F=0:=if_pos h
theorem chk_no{E F:Int}(h:formOk E F=false):chk E F=5:=by unfold chk;rw[h];rfl
theorem formOk_nat{E F:Int}(h:formOk E F=true):∃e f:Nat,E=e/\F=f/\2<=e/\e<=11/\1<=f/\f<=52:=by
 unfold formOk at h;simp only[Bool.and_eq_true,decide_eq_true_eq] at h;exact⟨E.toNat,F.toNat,by omega,by omega,by omega,by omega,by omega,by omega⟩
theorem Check(E F:Int)(w:World):
  Calls Tryz.prog 18 #[fm E F] w fun e w'=>e=.returned (.int .i64 (chk E F))/\Below w.heap.size w w':=by
 by_cases h1:E<2
 ·have HV:Hid (formOk E F=false):=vv (by unfold formOk;rw[decide_eq_false (p:=2<=E) (by omega)];rfl);have d1:decide (E<2)=true:=decide_eq_true h1;clear h1;go_enter Tryz.func18,Tryz.ntmps18
  go_wp2;go_ret
  exact⟨q0i (chk_no HV.o).symm,(Below.refl _ _).alloc lr _⟩
 have d1:decide (E<2)=false:=decide_eq_false h1;by_cases h2:11<E
 ·have HV:Hid (formOk E F=false):=vv (by unfold formOk;rw[decide_eq_false (p:=E<=11) (by omega)];simp);have d2:decide (11<E)=true:=decide_eq_true h2;clear h1 h2;go_enter Tryz.func18,Tryz.ntmps18
  go_wp2;go_ret
  exact⟨q0i (chk_no HV.o).symm,(Below.refl _ _).alloc lr _⟩
 have d2:decide (11<E)=false:=decide_eq_false h2;by_cases h3:F<1
 ·have HV:Hid (formOk E F=false):=vv (by unfold formOk;rw[decide_eq_false (p:=1<=F) (by omega)];simp);have d3:decide (F<1)=true:=decide_eq_true h3;clear h1 h2 h3;go_enter Tryz.func18,Tryz.ntmps18
  go_wp2;go_ret
  exact⟨q0i (chk_no HV.o).symm,(Below.refl _ _).alloc lr _⟩
 have d3:decide (F<1)=false:=decide_eq_false h3;by_cases h4:52<F
 ·have HV:Hid (formOk E F=false):=vv (by unfold formOk;rw[decide_eq_false (p:=F<=52) (by omega)];simp);have d4:decide (52<F)=true:=decide_eq_true h4;clear h1 h2 h3 h4;go_enter Tryz.func18,Tryz.ntmps18
  go_wp2;go_ret
  exact⟨q0i (chk_no HV.o).symm,(Below.refl _ _).alloc lr _⟩
 have d4:decide (52<F)=false:=decide_eq_false h4;have HV:Hid (formOk E F=true):=vv (by unfold formOk;rw[decide_eq_true (p:=2<=E) (by omega),decide_eq_true (p:=E<=11) (by omega),decide_eq_true (p:=1<=F) (by omega),decide_eq_true (p:=F<=52) (by omega)];rfl);clear h1 h2 h3 h4;go_enter Tryz.func18,Tryz.ntmps18
 go_wp2;go_ret
 exact⟨q0i (chk_ok HV.o).symm,(Below.refl _ _).alloc lr _⟩
def tw(j:Nat):Nat:=2^j
theorem tw_succ(j:Nat):tw (j+1)=tw j*2:=by unfold tw;rw[Nat.pow_succ]
theorem tw_le{j k:Nat}(h:j<=k):tw j<=tw k:=Nat.pow_le_pow_right (by omega) h
theorem tw_pos(j:Nat):0<tw j:=Nat.two_pow_pos j
theorem Pow(n:Nat)(w:World)(hn:n<=63):
  Calls Tryz.prog 77 #[.int .i64 (n:Int)] w fun e w'=>e=.returned (.int .u64 (tw n:Nat))/\w=w':=by
 have a0:(n:Int)<=63:=by omega
 go_enter Tryz.func77,Tryz.ntmps77
 go_wp2;go_loop [3,4] (fun a t=>∃k:Nat,k<=n/\t=.int .i64 k/\a=.int .u64 (tw k:Nat)) (fun _ t=>n-(intOf t).toNat)
 case atStart=>exact⟨0,Nat.zero_le _,rfl,rfl⟩
 case round =>
  obtain⟨k,hk,rfl,rfl⟩:=hrel;by_cases hkn:k<n
  ·have hb:((tw k:Nat):Int)<=4611686018427387904:=by
    have:=tw_le (j:=k) (k:=62) (by omega);have h2:tw 62=4611686018427387904:=rfl;omega
   have HS:=vv (tw_succ k);go_wp2;go_round
   case rel=>exact⟨k+1,by omega,by go_num,congrArg _ (by rw[HS.o];omega)⟩
   case measure=>simp [intOf];omega
  ·obtain rfl:k=n:=by omega
   clear hkn;go_wp2;go_ret
   exact⟨rfl,rfl⟩
theorem Top(E:Nat)(F:Int)(w:World)(h1:2<=E)(h2:E<=11):
  Calls Tryz.prog 76 #[fm E F] w fun e w'=>e=.returned (.int .i64 ((tw E-1:Nat):Int))/\Below w.heap.size w w':=by
 have hb:((tw E:Nat):Int)<=2048:=by
  have:=tw_le h2;have h3:tw 11=2048:=rfl;omega
 have a0:(1:Int)<=((tw E:Nat):Int):=by have:=tw_pos E;omega
 have HP:=vv fun w=>Pow E w (by omega)
 clear h1 h2;go_enter Tryz.func76,Tryz.ntmps76
 go_wp2_with fail
 refine(HP.o _).mono ?_;rintro e w' ⟨rfl,rfl⟩;go_wp2;go_ret
 exact⟨q0i (by omega),(Below.refl _ _).alloc lr _⟩
structure PartsBox(w:World)(g:Nat)(neg:Bool)(x f:Nat):Prop where
 c0:w.cell? ⟨g,0,none⟩=some (.bool neg)
 c1:w.cell? ⟨g,1,none⟩=some (.int .i64 (x:Int))
 c2:w.cell? ⟨g,2,none⟩=some (.int .u64 (f:Int))
 lt:g<w.heap.size
theorem PartsBox.made(w:World)(neg:Bool)(x f:Nat)(t:TypeId):PartsBox (w.alloc (.cells #[.bool neg,.int .i64 (x:Int),.int .u64 (f:Int)] t)) w.heap.size neg x f:=
 ⟨by simp only[World.cell?];rw[heap_alloc_new];rfl,by simp only[World.cell?];rw[heap_alloc_new];rfl,by simp only[World.cell?];rw[heap_alloc_new];rfl,by simp⟩
theorem PartsBox.below{w w':World}{g:Nat}{neg:Bool}{x f:Nat}(h:PartsBox w g neg x f)(hb:Below w.heap.size w w'):PartsBox w' g neg x f:=
 ⟨(hb.cell (p:=⟨g,0,none⟩) h.lt).trans h.c0,(hb.cell (p:=⟨g,1,none⟩) h.lt).trans h.c1,(hb.cell (p:=⟨g,2,none⟩) h.lt).trans h.c2,Nat.lt_of_lt_of_le h.lt hb.size⟩
theorem q9L(E F x f:Nat)(neg:Bool)(w:World)(h1:2<=E)(h2:E<=11)(h3:1<=F)(h4:F<=52)(hx:x<2^E)(hf:f<2^F):
  Calls Tryz.prog 128 #[fm E F,.agg #[.bool neg,.int .i64 (x:Int),.int .u64 (f:Int)]] w fun e w'=>e=.returned (.tuple #[.int .u64 ((sgb E F neg+(x*2^F+f):Nat):Int),.int .i64 0])/\Below w.heap.size w w':=by
 have b2:formOk (E:Int) (F:Int)=true:=by
  unfold formOk;rw[decide_eq_true (p:=(2:Int)<=E) (by omega),decide_eq_true (p:=(E:Int)<=11) (by omega),decide_eq_true (p:=(1:Int)<=F) (by omega),decide_eq_true (p:=(F:Int)<=52) (by omega)];rfl
 have b3:=vv fun w=>Check (E:Int) (F:Int) w
 rw[chk_ok b2] at b3;obtain⟨T,hT⟩:∃T:Nat,T=tw E-1:=⟨_,rfl⟩;obtain⟨P,hP⟩:∃P:Nat,P=tw F:=⟨_,rfl⟩;obtain⟨S,hS⟩:∃S:Nat,S=tw (E+F):=⟨_,rfl⟩;obtain⟨M,hM⟩:∃M:Nat,M=x*P:=⟨_,rfl⟩;have c0:x<=T:=by rw[hT];unfold tw;omega
 have c1:f<P:=by rw[hP];exact hf
 have c2:M+P<=S:=by
  have:(x+1)*P<=tw E*P:=Nat.mul_le_mul_right _ (by unfold tw;omega);rw[hS,hM];have e:tw (E+F)=tw E*P:=by rw[hP];unfold tw;rw[Nat.pow_add]
  rw[e];rw[Nat.add_mul,Nat.one_mul] at this;exact this
 have a8:S<=9223372036854775808:=by rw[hS];exact Nat.le_trans (tw_le (j:=E+F) (k:=63) (by omega)) (by decide)
 have b4:=vv fun w=>Top E F w h1 h2
 rw[<- hT] at b4;have a9:=vv fun w=>Pow F w (by omega)
 rw[<- hP] at a9;have b5:=vv fun w=>Pow (E+F) w (by omega)
 rw[<- hS] at b5;have b6:Hid (IntKind.u64.wrap ((x:Int)*(P:Int))=(M:Int)):=vv (by
  have e:(x:Int)*(P:Int)=(M:Int):=by rw[hM,Int.natCast_mul]
  rw[e,IntKind.wrap_u64];omega)
 have b7:Hid (IntKind.u64.wrap ((M:Int)+(f:Int))=((M+f:Nat):Int)):=vv (by rw[IntKind.wrap_u64];omega);have c3:Hid (IntKind.u64.wrap (((M+f:Nat):Int)+(S:Int))=((S+(M+f):Nat):Int)):=vv (by rw[IntKind.wrap_u64];omega);have a2:Hid (sgb E F neg+(x*2^F+f)=(if neg then S else 0)+(M+f)):=vv (by unfold sgb;rw[hM,hP,hS];rfl);obtain⟨w0,a3⟩:=yx (w.alloc (.cells #[.int .i64 (E:Int),.int .i64 (F:Int)] 23));obtain⟨w1,a5⟩:=yx (w0.alloc (.cells #[.bool neg,.int .i64 (x:Int),.int .u64 (f:Int)] 173));have b0:Below w.heap.size w w0:=by rw[a3];exact(Below.refl _ w).alloc lr _
 have b1:Below w0.heap.size w0 w1:=by rw[a5];exact(Below.refl _ w0).alloc lr _
 have b8:w0.heap.size=w.heap.size+1:=by rw[a3];simp
 have a4:FmAt w1 w.heap.size E F:=(show FmAt w0 w.heap.size E F by rw[a3];exact FmAt.made w _ _ _).below b1;have b9:PartsBox w1 (w.heap.size+1) neg x f:=by rw[<- b8,a5];exact PartsBox.made w0 _ _ _ _
 have HF:=vv a4;have HX:=vv b9;have HB:=vv (b0.trans (b1.mono b0.size));have c4:Hid (w1=(w.alloc (.cells #[.int .i64 (E:Int),.int .i64 (F:Int)] 23)).alloc (.cells #[.bool neg,.int .i64 (x:Int),.int .u64 (f:Int)] 173)):=vv (by rw[a5,a3]);have dT:decide (T<x)=false:=decide_eq_false (by omega);have dP:decide (P<=f)=false:=decide_eq_false (by omega);have c6:(E:Int)<=11:=by omega
 have c7:(F:Int)<=52:=by omega
 have c5:(x:Int)<=4611686018427387904:=by
  have h5:2^E<=2^11:=Nat.pow_le_pow_right (by omega) h2;omega
 have f0:=a4.c0;have f1:=a4.c1;have l0:=a4.lt;clear h1 h2 h3 h4 hx hf b2 hT hP hS hM c0 c1 c2 a8 a3 a5 b0 b1 b8 a4 b9;go_enter Tryz.func128,Tryz.ntmps128
 go_wp2_with fail
 rw[<- c4.o];refine(b3.o _).mono ?_;rintro e w2 ⟨rfl,a6⟩;have HF:=vv (HF.o.below a6);have HX:=vv (HX.o.below a6);have HB:=vn HB a6;clear a6 f0 f1 l0;go_wp2_with fail
 refine q02 (fun w'=>w'.cell? ⟨w.heap.size,0,none⟩=some (.int .i64 (E:Int))/\w'.cell? ⟨w.heap.size,1,none⟩=some (.int .i64 (F:Int))/\w'.cell? ⟨w.heap.size+1,1,none⟩=some (.int .i64 (x:Int))/\w'.cell? ⟨w.heap.size+1,2,none⟩=some (.int .u64 (f:Int))) 18
  (.still 0 (.still 1 (.still 2 (.still 3 (.still 4 (.still 5 (.still 6 (.one 7 (.still 8 (.still 9 (.still 10 (.still 11 (.still 12 (.still 13 (.still 14 (.one 15 (.still 16 (.still 17 .done)))))))))))))))))) (by kernel_rfl) (by kernel_rfl) (fun _ _ d _ _ h=>by cases d<;>exact h) ⟨HF.o.c0,HF.o.c1,HX.o.c1,HX.o.c2⟩ (fun hS0=>?_)
 iterate 7
  refine q00 (v:=?_) rfl (by rfl) ?_ ?_;rotate_left
  ·intro w a7;go_simp;with_reducible rfl
  simp only[Act.put,sa,sb,sc]
 refine q03 rfl (by rfl) (fun K hK=>?_);go_simp;refine(b4.o _).mono ?_;rintro e w3 ⟨rfl,a1⟩;have a1:Below w2.heap.size w2 w3:=⟨a1.os,a1.tape,a1.output,a1.size,a1.block⟩;have HF:=vv (HF.o.below a1);have HX:=vv (HX.o.below a1);have HB:=vn HB a1;clear a1;go_wp2_with fail
 refine hK.out _ _ ⟨HF.o.c0,HF.o.c1,HX.o.c1,HX.o.c2⟩ (fun a0=>?_);clear hK
 iterate 7
  refine q00 (v:=?_) rfl (by rfl) ?_ ?_;rotate_left
  ·intro w a7;go_simp;with_reducible rfl
  simp only[Act.put,sa,sb,sc]
 refine q03 rfl (by rfl) (fun K hK=>?_);go_simp;refine(a9.o _).mono ?_;rintro e w' ⟨rfl,rfl⟩;go_wp2_with fail
 refine hK.out _ _ ⟨HF.o.c0,HF.o.c1,HX.o.c1,HX.o.c2⟩ (fun a0=>?_);clear hK
 iterate 2
  refine q00 (v:=?_) rfl (by rfl) ?_ ?_;rotate_left
  ·intro w a7;go_simp;with_reducible rfl
  simp only[Act.put,sa,sb,sc]
 refine q0D rfl ?_;clear dT dP a0;go_wp2_with fail
 refine q02 (fun w'=>w'.cell? ⟨w.heap.size,0,none⟩=some (.int .i64 (E:Int))/\w'.cell? ⟨w.heap.size,1,none⟩=some (.int .i64 (F:Int))/\w'.cell? ⟨w.heap.size+1,1,none⟩=some (.int .i64 (x:Int))/\w'.cell? ⟨w.heap.size+1,2,none⟩=some (.int .u64 (f:Int))) 10
  (.still 0 (.still 1 (.still 2 (.still 3 (.still 4 (.still 7 (.still 8 (.one 5 (.still 6 (.still 9 .done)))))))))) (by kernel_rfl) (by kernel_rfl) (fun _ _ d _ _ h=>by cases d<;>exact h) ⟨HF.o.c0,HF.o.c1,HX.o.c1,HX.o.c2⟩ (fun hS1=>?_)
 iterate 7
  refine q00 (v:=?_) rfl (by rfl) ?_ ?_;rotate_left
  ·intro w a7;go_simp;with_reducible rfl
  simp only[Act.put,sa,sb,sc]
 refine q03 rfl (by rfl) (fun K hK=>?_);go_simp;refine(a9.o _).mono ?_;rintro e w' ⟨rfl,rfl⟩;go_wp2_with fail
 refine hK.out _ _ ⟨HF.o.c0,HF.o.c1,HX.o.c1,HX.o.c2⟩ (fun a0=>?_);clear hK
 iterate 2
  refine q00 (v:=?_) rfl (by rfl) ?_ ?_;rotate_left
  ·intro w a7;go_simp;with_reducible rfl
  simp only[Act.put,sa,sb,sc]
 refine q0a ?_;have x0:=HX.o.c0;have xl:=HX.o.lt;obtain⟨f0,f1,fl⟩:=HF.o;clear hS0 hS1 a0;cases neg
 ·go_wp2;go_ret2
  rw[a2.o];exact⟨q3E (by rw[b6.o,b7.o];simp) rfl,q04 HB.o⟩
 ·go_wp2_with fail
  refine(b5.o _).mono ?_;rintro e w' ⟨rfl,rfl⟩;go_wp2;go_ret2
  rw[a2.o];exact⟨q3E (by rw[b6.o,b7.o,c3.o];simp) rfl,q04 HB.o⟩
theorem q7t(E F x f:Nat)(neg:Bool)(w:World)(h1:2<=E)(h2:E<=11)(h3:1<=F)(h4:F<=52)(hx:x<2^E)(hf:f<2^F):
  Calls Tryz.prog 75 #[fm E F,.bool neg,.int .i64 (x:Int),.int .u64 (f:Int)] w fun e w'=>e=.returned (.tuple #[.int .u64 ((sgb E F neg+(x*2^F+f):Nat):Int),.int .i64 0])/\Below w.heap.size w w':=by
 have HJ:=vv fun w=>q9L E F x f neg w h1 h2 h3 h4 hx hf
 obtain⟨V,hV⟩:=yx (sgb E F neg+(x*2^F+f));rw[<- hV] at HJ ⊢;clear h1 h2 h3 h4 hx hf hV;go_enter Tryz.func75,Tryz.ntmps75
 go_wp2_with fail
 refine(HJ.o _).mono ?_;rintro e w1 ⟨rfl,a0⟩;have HB:Hid (Below w.heap.size w w1):=vv (((Below.refl _ w).alloc lr _).trans (a0.mono (by simp)));clear a0;go_wp2;go_ret2
 exact⟨rfl,HB.o⟩
theorem Infinite(E F:Nat)(neg:Bool)(w:World)(h1:2<=E)(h2:E<=11)(h3:1<=F)(h4:F<=52):
  Calls Tryz.prog 33 #[fm E F,.bool neg] w fun e w'=>e=.returned (.tuple #[.int .u64 ((sgb E F neg+((2^E-1)*2^F):Nat):Int),.int .i64 0])/\Below w.heap.size w w':=by
 have a6:formOk (E:Int) (F:Int)=true:=by
  unfold formOk;rw[decide_eq_true (p:=(2:Int)<=E) (by omega),decide_eq_true (p:=(E:Int)<=11) (by omega),decide_eq_true (p:=(1:Int)<=F) (by omega),decide_eq_true (p:=(F:Int)<=52) (by omega)];rfl
 have a7:=vv fun w=>Check (E:Int) (F:Int) w
 rw[chk_ok a6] at a7;obtain⟨T,hT⟩:∃T:Nat,T=tw E-1:=⟨_,rfl⟩;have a8:=vv fun w=>Top E F w h1 h2
 rw[<- hT] at a8;have a9:=vv fun w=>q7t E F T 0 neg w h1 h2 h3 h4 (by have:=tw_pos E;unfold tw at *;omega) (Nat.two_pow_pos _)
 obtain⟨V,hV⟩:=yx (sgb E F neg+((2^E-1)*2^F));have e:sgb E F neg+(T*2^F+0)=V:=by rw[hV,hT,Nat.add_zero];rfl
 rw[e] at a9;rw[<- hV];obtain⟨w0,a3⟩:=yx (w.alloc (.cells #[.int .i64 (E:Int),.int .i64 (F:Int)] 23));have b0:Below w.heap.size w w0:=by rw[a3];exact(Below.refl _ w).alloc lr _
 have a1:FmAt w0 w.heap.size E F:=by rw[a3];exact FmAt.made w _ _ _
 have HF:=vv a1;have HB:=vv b0;have b1:=vv a3;have f0:=a1.c0;have f1:=a1.c1;have l0:=a1.lt;clear h1 h2 h3 h4 a6 hT hV e a3 b0 a1;go_enter Tryz.func33,Tryz.ntmps33
 go_wp2_with fail
 rw[<- b1.o];refine(a7.o _).mono ?_;rintro e w2 ⟨rfl,a4⟩;have HF:=vv (HF.o.below a4);have HB:=vn HB a4;clear a4 f0 f1 l0;go_wp2_with fail
 refine q02 (fun w'=>w'.cell? ⟨w.heap.size,0,none⟩=some (.int .i64 (E:Int))/\w'.cell? ⟨w.heap.size,1,none⟩=some (.int .i64 (F:Int))) 9
  (.still 0 (.still 1 (.still 2 (.one 3 (.one 4 (.still 5 (.still 6 (.still 7 (.still 8 .done))))))))) (by kernel_rfl) (by kernel_rfl) (fun _ _ d _ _ h=>by cases d<;>exact h) ⟨HF.o.c0,HF.o.c1⟩ (fun hS0=>?_)
 iterate 3
  refine q00 (v:=?_) rfl (by rfl) ?_ ?_;rotate_left
  ·intro w b2;go_simp;with_reducible rfl
  simp only[Act.put,sa,sb,sc]
 refine q03 rfl (by rfl) (fun K hK=>?_);go_simp;refine(a8.o _).mono ?_;rintro e w3 ⟨rfl,a0⟩;have a0:Below w2.heap.size w2 w3:=⟨a0.os,a0.tape,a0.output,a0.size,a0.block⟩;have HF:=vv (HF.o.below a0);have HB:=vn HB a0;clear a0;go_wp2_with fail
 refine hK.out _ _ ⟨HF.o.c0,HF.o.c1⟩ (fun a2=>?_);clear hK;refine q03 rfl (by rfl) (fun K hK=>?_);go_simp;refine(a9.o _).mono ?_;rintro e w4 ⟨rfl,a5⟩;have HF:=vv (HF.o.below a5);have HB:=vn HB a5;clear a5;go_wp2_with fail
 refine hK.out _ _ ⟨HF.o.c0,HF.o.c1⟩ (fun a2=>?_);clear hK
 iterate 4
  refine q00 (v:=?_) rfl (by rfl) ?_ ?_;rotate_left
  ·intro w b2;go_simp;with_reducible rfl
  simp only[Act.put,sa,sb,sc]
 refine q0D rfl ?_;go_wp2;go_ret2
 exact⟨rfl,HB.o⟩
theorem None_(E F p:Nat)(neg:Bool)(w:World)(h1:2<=E)(h2:E<=11)(h3:1<=F)(h4:F<=52)(hp:p<2^(F-1)):
  Calls Tryz.prog 34 #[fm E F,.bool neg,.int .u64 (p:Int)] w fun e w'=>e=.returned (.tuple #[.int .u64 ((sgb E F neg+((2^E-1)*2^F+(2^(F-1)+p)):Nat):Int),.int .i64 0])/\Below w.heap.size w w':=by
 have a5:formOk (E:Int) (F:Int)=true:=by
  unfold formOk;rw[decide_eq_true (p:=(2:Int)<=E) (by omega),decide_eq_true (p:=(E:Int)<=11) (by omega),decide_eq_true (p:=(1:Int)<=F) (by omega),decide_eq_true (p:=(F:Int)<=52) (by omega)];rfl
 obtain⟨G,rfl⟩:∃G,F=G+1:=⟨F-1,by omega⟩;have ecast:((G+1:Nat):Int)=(G:Int)+1:=by omega
 rw[ecast] at a5;have b0:=vv fun w=>Check (E:Int) ((G:Int)+1) w
 rw[chk_ok a5] at b0;rw[Nat.add_sub_cancel] at hp ⊢;obtain⟨T,hT⟩:∃T:Nat,T=tw E-1:=⟨_,rfl⟩;obtain⟨Q,hQ⟩:∃Q:Nat,Q=tw G:=⟨_,rfl⟩;have b4:p<Q:=by rw[hQ];exact hp
 have b5:Q*2=2^(G+1):=by rw[hQ,Nat.pow_succ];rfl
 have a6:Q<=4611686018427387904:=by rw[hQ];exact Nat.le_trans (tw_le (j:=G) (k:=62) (by omega)) (by decide)
 have b1:=vv fun w=>Top E ((G:Int)+1) w h1 h2
 rw[<- hT] at b1;have a7:=vv fun w=>Pow G w (by omega)
 rw[<- hQ] at a7;have a3:=fun w=>q7t E (G+1) T (Q+p) neg w h1 h2 h3 h4 (by have:=tw_pos E;unfold tw at *;omega) (by omega)
 obtain⟨V,hV⟩:=yx (sgb E (G+1) neg+((2^E-1)*2^(G+1)+(2^G+p)));have e:sgb E (G+1) neg+(T*2^(G+1)+(Q+p))=V:=by rw[hV,hT,hQ];rfl
 simp only[e,ecast] at a3;have a3:=vv a3;rw[<- hV,ecast];have dQ:decide (Q<=p)=false:=decide_eq_false (by omega);have b6:Hid (IntKind.u64.wrap ((Q:Int)+(p:Int))=((Q+p:Nat):Int)):=vv (by rw[IntKind.wrap_u64];omega);have b9:(G:Int)<=51:=by omega
 have b7:Hid (IntKind.i64.wrap (G:Int)=(G:Int)):=vv (IntWalk.i64_in _ (by omega));obtain⟨w0,a4⟩:=yx (w.alloc (.cells #[.int .i64 (E:Int),.int .i64 ((G:Int)+1)] 23));have b2:Below w.heap.size w w0:=by rw[a4];exact(Below.refl _ w).alloc lr _
 have a2:FmAt w0 w.heap.size E ((G:Int)+1):=by rw[a4];exact FmAt.made w _ _ _
 clear ecast;have HF:=vv a2;have HB:=vv b2;have b8:=vv a4;have f0:=a2.c0;have f1:=a2.c1;have l0:=a2.lt;clear h1 h2 h3 h4 a5 hT hV e a4 b2 a2 hQ hp b4 b5 a6;go_enter Tryz.func34,Tryz.ntmps34
 go_wp2_with fail
 rw[<- b8.o];refine(b0.o _).mono ?_;rintro e w2 ⟨rfl,a8⟩;have HF:=vv (HF.o.below a8);have HB:=vn HB a8;have f1:=HF.o.c1;have l0:=HF.o.lt;clear a8 f0;go_wp2_with fail
 refine(a7.o _).mono ?_;rintro e w' ⟨rfl,rfl⟩;clear f1 l0;go_wp2_with fail
 refine q02 (fun w'=>w'.cell? ⟨w.heap.size,0,none⟩=some (.int .i64 (E:Int))/\w'.cell? ⟨w.heap.size,1,none⟩=some (.int .i64 ((G:Int)+1))) 15
  (.still 0 (.still 1 (.still 2 (.still 4 (.still 5 (.still 6 (.still 8 (.one 3 (.one 7 (.still 9 (.one 10 (.still 11 (.still 12 (.still 13 (.still 14 .done))))))))))))))) (by kernel_rfl) (by kernel_rfl) (fun _ _ d _ _ h=>by cases d<;>exact h) ⟨HF.o.c0,HF.o.c1⟩ (fun hS0=>?_)
 iterate 7
  refine q00 (v:=?_) rfl (by rfl) ?_ ?_;rotate_left
  ·intro w b3;go_simp;with_reducible rfl
  simp only[Act.put,sa,sb,sc]
 refine q03 rfl (by rfl) (fun K hK=>?_);go_simp;refine(b1.o _).mono ?_;rintro e w3 ⟨rfl,a0⟩;have a0:Below w2.heap.size w2 w3:=⟨a0.os,a0.tape,a0.output,a0.size,a0.block⟩;have HF:=vv (HF.o.below a0);have HB:=vn HB a0;clear a0;go_wp2_with fail
 refine hK.out _ _ ⟨HF.o.c0,HF.o.c1⟩ (fun a1=>?_);clear hK;refine q03 rfl (by rfl) (fun K hK=>?_);go_simp;rw[b7.o];refine(a7.o _).mono ?_;rintro e w' ⟨rfl,rfl⟩;go_wp2_with fail
 refine hK.out _ _ ⟨HF.o.c0,HF.o.c1⟩ (fun a1=>?_);clear hK
 iterate 1
  refine q00 (v:=?_) rfl (by rfl) ?_ ?_;rotate_left
  ·intro w b3;go_simp;with_reducible rfl
  simp only[Act.put,sa,sb,sc]
 refine q03 rfl (by rfl) (fun K hK=>?_);go_simp;rw[b6.o];refine(a3.o _).mono ?_;rintro e w4 ⟨rfl,a9⟩;have HF:=vv (HF.o.below a9);have HB:=vn HB a9;clear a9;go_wp2_with fail
 refine hK.out _ _ ⟨HF.o.c0,HF.o.c1⟩ (fun a1=>?_);clear hK
 iterate 4
  refine q00 (v:=?_) rfl (by rfl) ?_ ?_;rotate_left
  ·intro w b3;go_simp;with_reducible rfl
  simp only[Act.put,sa,sb,sc]
 refine q0D rfl ?_;go_wp2;go_ret2
 exact⟨rfl,HB.o⟩
end Go.Proofs.YtcdimmblnbkjjaaGreatDoor.R3
namespace Go.Proofs.YtcdimmblnbkjjaaGreatDoor
open Go Go.RowKit
def q3p(s:ByteArray):Bool:=s.data.toList.all fun c=>decide (48<=c.toNat) && decide (c.toNat<=57)
theorem q7z(s:ByteArray)(k:Nat)(h:k<s.size):s[k]∈s.data.toList:=by
 have:s[k]=s.data.toList[k]'(by simpa using h):=rfl;rw[this];exact List.getElem_mem _
theorem q2c{s:ByteArray}:q3p s=true↔q61 s:=by
 unfold q3p q61;rw[List.all_eq_true]
 constructor
 ·intro h k hk;have:=h _ (q7z s k hk)
  simpa using this
 ·intro h c hc;obtain⟨k,hk,e⟩:=List.getElem_of_mem hc;have a0:k<s.size:=by simpa using hk
  have:=h k a0;have e2:s[k]=c:=e;rw[e2] at this
  simpa using this
theorem q3o{s:ByteArray}{k:Nat}(hk:k<s.size)(h:¬(48<=s[k].toNat/\s[k].toNat<=57)):q3p s=false:=by
 rcases Bool.eq_false_or_eq_true (q3p s) with e|e
 ·exact absurd (q2c.1 e k hk) h
 ·exact e
def q1v(s:ByteArray)(k:Nat):Nat:=if h:k<s.size then s[k].toNat else 0
theorem q25{s:ByteArray}{k:Nat}(h:k<s.size):q1v s k=s[k].toNat:=dif_pos h
def q0x(s:ByteArray)(x:Int):Bool:=
 decide (x<=1073741824) && decide (-1073741824<=x) && decide (s.size<=65536) &&
  (if s.size=0 then decide (x=0) else q3p s && !decide (q1v s 0=48) && !decide (q1v s (s.size-1)=48))
structure DecBox(w:World)(g:Nat)(neg:Bool)(s:ByteArray)(x:Int):Prop where
 c0:w.cell? ⟨g,0,none⟩=some (.bool neg)
 c1:w.cell? ⟨g,1,none⟩=some (.string s)
 c2:w.cell? ⟨g,2,none⟩=some (.int .i64 x)
 lt:g<w.heap.size
theorem DecBox.made(w:World)(neg:Bool)(s:ByteArray)(x:Int)(t:TypeId):DecBox (w.alloc (.cells #[.bool neg,.string s,.int .i64 x] t)) w.heap.size neg s x:=
 ⟨by simp only[World.cell?];rw[heap_alloc_new];rfl,by simp only[World.cell?];rw[heap_alloc_new];rfl,by simp only[World.cell?];rw[heap_alloc_new];rfl,by simp⟩
theorem DecBox.below{w w':World}{g:Nat}{neg:Bool}{s:ByteArray}{x:Int}(h:DecBox w g neg s x)(hb:Below w.heap.size w w'):DecBox w' g neg s x:=
 ⟨(hb.cell (p:=⟨g,0,none⟩) h.lt).trans h.c0,(hb.cell (p:=⟨g,1,none⟩) h.lt).trans h.c1,(hb.cell (p:=⟨g,2,none⟩) h.lt).trans h.c2,Nat.lt_of_lt_of_le h.lt hb.size⟩
abbrev q5D(neg:Bool)(s:ByteArray)(x:Int):Value:=.agg #[.bool neg,.string s,.int .i64 x]
end Go.Proofs.YtcdimmblnbkjjaaGreatDoor
namespace Go.Proofs.YtcdimmblnbkjjaaGreatDoor.R11
open Go Go.RowKit R5
def noTwoB(neg:Bool)(n:Nat)(x:Int):Bool:=decide (n=0) && decide (x=0) && !neg
theorem q9i(neg:Bool)(A:Option Addr)(n c:Nat)(x:Int)(w:World):
  Calls Tryz.prog 62 #[q57 neg A n c x] w fun e w'=>e=.returned (.bool (noTwoB neg n x))/\Below w.heap.size w w':=by
 by_cases h0:n=0
 ·subst h0;by_cases hx:x=0
  ·subst hx;have HV:Hid (noTwoB neg 0 0=!neg):=vv (by unfold noTwoB;simp);go_enter Tryz.func62,Tryz.ntmps62
   go_wp2;go_ret
   exact⟨q1K HV.o.symm,(Below.refl _ _).alloc lr _⟩
  ·have HV:Hid (noTwoB neg 0 x=false):=vv (by unfold noTwoB;rw[decide_eq_false hx];simp);have t:(x==0)=false:=by rw[beq_eq_false_iff_ne];exact hx
   clear hx;go_enter Tryz.func62,Tryz.ntmps62
   go_wp2;go_ret
   exact⟨q1K HV.o.symm,(Below.refl _ _).alloc lr _⟩
 ·have HV:Hid (noTwoB neg n x=false):=vv (by unfold noTwoB;rw[decide_eq_false h0];rfl);have t:((n:Int)==0)=false:=by rw[beq_eq_false_iff_ne];omega
  clear h0;go_enter Tryz.func62,Tryz.ntmps62
  go_wp2;go_ret
  exact⟨q1K HV.o.symm,(Below.refl _ _).alloc lr _⟩
theorem q3y(neg:Bool)(s:ByteArray)(x:Int)(w:World)(h:1073741824<x\/x < -1073741824\/65536<s.size):
  Calls Tryz.prog 60 #[q5D neg s x] w fun e w'=>e=.returned (.bool (q0x s x))/\Below w.heap.size w w':=by
 have HV:Hid (q0x s x=false):=vv (by
  unfold q0x;rcases h with h|h|h
  ·rw[decide_eq_false (p:=x<=1073741824) (by omega)];rfl
  ·rw[decide_eq_false (p:=-1073741824<=x) (by omega)];simp
  ·rw[decide_eq_false (p:=s.size<=65536) (by omega)];simp)
 by_cases h1:1073741824<x
 ·have d1:decide (1073741824<x)=true:=decide_eq_true h1;clear h h1;go_enter Tryz.func60,Tryz.ntmps60
  go_wp2;go_ret
  exact⟨q1K HV.o.symm,(Below.refl _ _).alloc lr _⟩
 have d1:decide (1073741824<x)=false:=decide_eq_false h1;by_cases h2:x < -1073741824
 ·have d2:decide (x < -1073741824)=true:=decide_eq_true h2;clear h h1 h2;go_enter Tryz.func60,Tryz.ntmps60
  go_wp2;go_ret
  exact⟨q1K HV.o.symm,(Below.refl _ _).alloc lr _⟩
 have d2:decide (x < -1073741824)=false:=decide_eq_false h2;have d3:decide ((65536:Int)<(s.size:Int))=true:=decide_eq_true (by omega);clear h h1 h2;go_enter Tryz.func60,Tryz.ntmps60
 go_wp2;go_ret
 exact⟨q1K HV.o.symm,(Below.refl _ _).alloc lr _⟩
end Go.Proofs.YtcdimmblnbkjjaaGreatDoor.R11
namespace Go.Proofs.YtcdimmblnbkjjaaGreatDoor
open Go Go.RowKit
theorem q2W{s:ByteArray}(h:0<s.size):s.toList.isEmpty=false:=by
 rw[ByteArray.toList_eq];have e:s.data.toList.length=s.size:=Array.length_toList;cases hl:s.data.toList with
 | nil=>rw[hl] at e;simp at e;omega
 | cons _ _=>rfl
end Go.Proofs.YtcdimmblnbkjjaaGreatDoor
namespace Go.Proofs.YtcdimmblnbkjjaaGreatDoor.R11
open Go Go.RowKit R5
theorem q4K{s:ByteArray}{x:Int}(h1:x<=1073741824)(h2:-1073741824<=x)(h3:s.size<=65536):
  q0x s x=(if s.size=0 then decide (x=0) else q3p s && !decide (q1v s 0=48) && !decide (q1v s (s.size-1)=48)):=by
 unfold q0x;rw[decide_eq_true h1,decide_eq_true h2,decide_eq_true h3];simp
theorem q59{s:ByteArray}{x:Int}(h1:x<=1073741824)(h2:-1073741824<=x)(h3:s.size<=65536)(h:0<s.size):
  q0x s x=(q3p s && !decide (q1v s 0=48) && !decide (q1v s (s.size-1)=48)):=by
 rw[q4K h1 h2 h3,if_neg (by omega)]
theorem q5f(neg:Bool)(x:Int)(w:World)(h1:x<=1073741824)(h2:-1073741824<=x):
  Calls Tryz.prog 60 #[q5D neg ⟨#[]⟩ x] w fun e w'=>e=.returned (.bool (q0x ⟨#[]⟩ x))/\Below w.heap.size w w':=by
 have HV:Hid (q0x ⟨#[]⟩ x=(x==0)):=vv (by
  rw[q4K h1 h2 (by decide),if_pos (by decide)];by_cases h:x=0
  ·subst h;rfl
  ·rw[decide_eq_false h];symm;rw[beq_eq_false_iff_ne];exact h)
 have d1:decide (1073741824<x)=false:=decide_eq_false (by omega);have d2:decide (x < -1073741824)=false:=decide_eq_false (by omega);clear h1 h2;go_enter Tryz.func60,Tryz.ntmps60
 go_wp2;go_ret
 exact⟨q1K HV.o.symm,(Below.refl _ _).alloc lr _⟩
theorem q5e(neg:Bool)(s:ByteArray)(x:Int)(w:World)(h1:x<=1073741824)(h2:-1073741824<=x)(h3:s.size<=65536)(h0:0<s.size):
  Calls Tryz.prog 60 #[q5D neg s x] w fun e w'=>e=.returned (.bool (q0x s x))/\Below w.heap.size w w':=by
 have HV:=vv (q59 h1 h2 h3 h0);have d1:decide (1073741824<x)=false:=decide_eq_false (by omega);have d2:decide (x < -1073741824)=false:=decide_eq_false (by omega);have d3:decide ((65536:Int)<(s.size:Int))=false:=decide_eq_false (by omega);have a5:(s.size:Int)<=65536:=by omega
 have a4:=q2W h0;clear h1 h2 h3;go_enter Tryz.func60,Tryz.ntmps60
 go_wp2;clear d1 d2 d3 a4;obtain⟨w1,a1⟩:=yx (w.alloc (.cells #[.bool neg,.string s,.int .i64 x] 25));have a3:Below w.heap.size w w1:=by rw[a1];exact(Below.refl _ _).alloc lr _
 have hD:DecBox w1 w.heap.size neg s x:=by rw[a1];exact DecBox.made w _ _ _ _
 rw[<- a1];have HB:=vv a3;have a6:=vv hD;have k1:=hD.c1;have kl:=hD.lt;clear a3 hD a1;go_loop [3] (fun t=>∃k:Nat,k<=s.size/\t=.int .i64 k/\(∀j (h:j<s.size),j<k->48<=s[j].toNat/\s[j].toNat<=57)) (fun t=>s.size-(intOf t).toNat)
 case atStart=>exact⟨0,Nat.zero_le _,rfl,fun j _ h=>absurd h (by omega)⟩
 case round =>
  obtain⟨k,hk,rfl,a0⟩:=hrel;have HA:=vv a0;clear a0;by_cases hks:k<s.size
  ·by_cases hd:48<=s[k].toNat/\s[k].toNat<=57
   ·obtain⟨g1,g2⟩:=hd;go_wp2;go_round
    case rel =>
     refine⟨k+1,by omega,by go_num,fun j h hj=>?_⟩;rcases(by omega:j<k\/j=k) with h|rfl
     ·exact HA.o j _ h
     ·exact⟨g1,g2⟩
    case measure=>simp [intOf];omega
   ·have HF:Hid (q0x s x=false):=vv (by rw[HV.o,q3o hks hd];rfl);rcases(by omega:s[k].toNat<48\/48<=s[k].toNat/\57<s[k].toNat) with g|⟨g,g'⟩
    ·clear hd;go_wp2;go_ret
     exact⟨q1K HF.o.symm,HB.o⟩
    ·clear hd;go_wp2;go_ret
     exact⟨q1K HF.o.symm,HB.o⟩
  ·have a2:k=s.size:=by omega
   subst a2;have HG:Hid (q0x s x=(!decide (q1v s 0=48) && !decide (q1v s (s.size-1)=48))):=vv (by
    rw[HV.o,q2c.2 (fun j h=>HA.o j h h)];rfl)
   clear hk hks;rw[q25 h0,q25 (by omega:s.size-1<s.size)] at HG;by_cases e0:s[0].toNat=48
   ·have HH:Hid (q0x s x=false):=vv (by rw[HG.o,decide_eq_true e0];rfl);clear HG;go_wp2;go_ret
    exact⟨q1K HH.o.symm,HB.o⟩
   ·have hm:s.size-1<s.size:=by omega
    have HH:Hid (q0x s x=!decide (s[s.size-1].toNat=48)):=vv (by rw[HG.o,decide_eq_false e0];rfl);clear HG;by_cases e1:s[s.size-1].toNat=48
    ·have HI:Hid (q0x s x=false):=vv (by rw[HH.o,decide_eq_true e1];rfl);clear HH;go_wp2;go_ret
     exact⟨q1K HI.o.symm,HB.o⟩
    ·have HI:Hid (q0x s x=true):=vv (by rw[HH.o,decide_eq_false e1];rfl);clear HH;go_wp2;go_ret
     exact⟨q1K (by rw[HI.o,Bool.and_eq_true,bne_iff_ne,bne_iff_ne];exact⟨by omega,by omega⟩),HB.o⟩
theorem q99(neg:Bool)(s:ByteArray)(x:Int)(w:World):
  Calls Tryz.prog 60 #[q5D neg s x] w fun e w'=>e=.returned (.bool (q0x s x))/\Below w.heap.size w w':=by
 by_cases h1:x<=1073741824
 ·by_cases h2:-1073741824<=x
  ·by_cases h3:s.size<=65536
   ·by_cases h0:0<s.size
    ·exact q5e neg s x w h1 h2 h3 h0
    ·have e:s=⟨#[]⟩:=by
      have:s.data.size=0:=by have:s.data.size=s.size:=rfl;omega
      have:=Array.eq_empty_of_size_eq_zero this;cases s;simp_all
     rw[e];exact q5f neg x w h1 h2
   ·exact q3y neg s x w (by omega)
  ·exact q3y neg s x w (by omega)
 ·exact q3y neg s x w (by omega)
end Go.Proofs.YtcdimmblnbkjjaaGreatDoor.R11
namespace Go.Proofs.YtcdimmblnbkjjaaGreatDoor
open Go Go.RowKit
abbrev q4Z(kind:Nat)(neg dneg:Bool)(s:ByteArray)(x:Int)(hneg:Bool)(A:Option Addr)(n c:Nat)(hx:Int)(p:Nat):Value:=
 .agg #[.int .u8 (kind:Int),.bool neg,.bool dneg,.string s,.int .i64 x,.bool hneg,.slice A n c,.int .i64 hx,.int .u64 (p:Int)]
structure NumBox(w:World)(g:Nat)(kind:Nat)(neg dneg:Bool)(s:ByteArray)(x:Int)(hneg:Bool)(A:Option Addr)(n c:Nat)(hx:Int)(p:Nat):Prop where
 c0:w.cell? ⟨g,0,none⟩=some (.int .u8 (kind:Int))
 c1:w.cell? ⟨g,1,none⟩=some (.bool neg)
 c2:w.cell? ⟨g,2,none⟩=some (.bool dneg)
 c3:w.cell? ⟨g,3,none⟩=some (.string s)
 c4:w.cell? ⟨g,4,none⟩=some (.int .i64 x)
 c5:w.cell? ⟨g,5,none⟩=some (.bool hneg)
 c6:w.cell? ⟨g,6,none⟩=some (.slice A n c)
 c7:w.cell? ⟨g,7,none⟩=some (.int .i64 hx)
 c8:w.cell? ⟨g,8,none⟩=some (.int .u64 (p:Int))
 lt:g<w.heap.size
theorem NumBox.made(w:World)(kind:Nat)(neg dneg:Bool)(s:ByteArray)(x:Int)(hneg:Bool)(A:Option Addr)(n c:Nat)(hx:Int)(p:Nat)(t:TypeId):
  NumBox (w.alloc (.cells #[.int .u8 (kind:Int),.bool neg,.bool dneg,.string s,.int .i64 x,.bool hneg,.slice A n c,.int .i64 hx,.int .u64 (p:Int)] t)) w.heap.size kind neg dneg s x hneg A n c hx p:=by
 constructor<;>first|(simp only[World.cell?];rw[heap_alloc_new];rfl)|simp
theorem NumBox.below{w w':World}{g kind:Nat}{neg dneg:Bool}{s:ByteArray}{x:Int}{hneg:Bool}{A:Option Addr}{n c:Nat}{hx:Int}{p:Nat}(h:NumBox w g kind neg dneg s x hneg A n c hx p)(hb:Below w.heap.size w w'):NumBox w' g kind neg dneg s x hneg A n c hx p:=
 ⟨(hb.cell (p:=⟨g,0,none⟩) h.lt).trans h.c0,(hb.cell (p:=⟨g,1,none⟩) h.lt).trans h.c1,(hb.cell (p:=⟨g,2,none⟩) h.lt).trans h.c2,(hb.cell (p:=⟨g,3,none⟩) h.lt).trans h.c3,(hb.cell (p:=⟨g,4,none⟩) h.lt).trans h.c4,(hb.cell (p:=⟨g,5,none⟩) h.lt).trans h.c5,(hb.cell (p:=⟨g,6,none⟩) h.lt).trans h.c6,(hb.cell (p:=⟨g,7,none⟩) h.lt).trans h.c7,(hb.cell (p:=⟨g,8,none⟩) h.lt).trans h.c8,Nat.lt_of_lt_of_le h.lt hb.size⟩
def q1c(neg:Bool)(s:ByteArray)(x:Int):Bool:=!neg && s.toList.isEmpty && (x==0)
def q1l(kind:Nat)(neg dneg:Bool)(s:ByteArray)(x:Int)(hneg:Bool)(n:Nat)(xs:List Nat)(hx:Int)(p:Nat):Bool:=
 if kind=1 then q0x s x && (dneg==neg) && R11.noTwoB hneg n hx && decide (p=0)
 else if kind=2 then R5.twoOk hneg n xs hx && q1c dneg s x && decide (p=0) && ((hneg==neg) || decide (n=0))
 else if kind=3 then q1c dneg s x && R11.noTwoB hneg n hx && decide (p=0)
 else if kind=4 then q1c dneg s x && R11.noTwoB hneg n hx && decide (p<=2251799813685247)
 else false
def q05(b:Bool):Int:=if b then 0 else 110
theorem q3d:q05 true=0:=rfl
theorem q2O:q05 false=110:=rfl
end Go.Proofs.YtcdimmblnbkjjaaGreatDoor
namespace Go.Proofs.YtcdimmblnbkjjaaGreatDoor.R11
open Go Go.RowKit R5
theorem Check(kind:Nat)(neg dneg:Bool)(s:ByteArray)(x:Int)(hneg:Bool)(A:Option Addr)(n c:Nat)(xs:List Nat)(hx:Int)(p:Nat)(w:World)(hr:Rd w A n c xs):
  Calls Tryz.prog 30 #[q4Z kind neg dneg s x hneg A n c hx p] w fun e w'=>e=.returned (.int .i64 (q05 (q1l kind neg dneg s x hneg n xs hx p)))/\Below w.heap.size w w':=by
 obtain⟨dec,a1⟩:=yx (q0x s x);obtain⟨two,a2⟩:=yx (twoOk hneg n xs hx);obtain⟨none,a0⟩:=yx (noTwoB hneg n hx);obtain⟨V,hV⟩:=yx (q1l kind neg dneg s x hneg n xs hx p);have HD:=vv fun w=>q99 dneg s x w
 rw[<- a1] at HD;have HT:=vv fun w' (h:Below w.heap.size w w')=>Two hneg A n c xs hx w' (hr.below h rfl)
 rw[<- a2] at HT;have HO:=vv fun w=>q9i hneg A n c hx w
 rw[<- a0] at HO;rw[<- hV];unfold q1l at hV;rw[<- a1,<- a2,<- a0] at hV;have HV:=vv hV;clear a1 a2 a0 hV;obtain⟨w0,a3⟩:=yx (w.alloc (.cells #[.int .u8 (kind:Int),.bool neg,.bool dneg,.string s,.int .i64 x,.bool hneg,.slice A n c,.int .i64 hx,.int .u64 (p:Int)] 33));have a7:Below w.heap.size w w0:=by rw[a3];exact(Below.refl _ w).alloc lr _
 have a8:NumBox w0 w.heap.size kind neg dneg s x hneg A n c hx p:=by rw[a3];exact NumBox.made w _ _ _ _ _ _ _ _ _ _ _ _
 have HN:=vv a8;have HB:=vv a7;have a9:=vv a3;clear a3 a7 a8 hr;go_enter Tryz.func30,Tryz.ntmps30
 go_wp2_with fail
 rw[<- a9.o];refine(HD.o _).mono ?_;rintro e w1 ⟨rfl,a4⟩;have HN:=vv (HN.o.below a4);have HB:=vn HB a4;clear a4;have k1:=HN.o.c5;have k2:=HN.o.c6;have k3:=HN.o.c7;have kl:=HN.o.lt;go_wp2_with fail
 refine(HT.o _ HB.o).mono ?_;rintro e w2 ⟨rfl,a5⟩;have HN:=vv (HN.o.below a5);have HB:=vn HB a5;clear a5;have k1:=HN.o.c5;have k2:=HN.o.c6;have k3:=HN.o.c7;have kl:=HN.o.lt;go_wp2_with fail
 refine(HO.o _).mono ?_;rintro e w3 ⟨rfl,a6⟩;have HN:=vv (HN.o.below a6);have HB:=vn HB a6;clear a6;obtain⟨k0,k1,k2,k3,k4,k5,k6,k7,k8,kl⟩:=HN.o;cases dneg
 ·cases he:s.toList.isEmpty
  ·have HE:Hid (q1c false s x=false):=vv (by unfold q1c;rw[he];rfl);rcases(by omega:kind=1\/kind=2\/kind=3\/kind=4\/(kind≠1/\kind≠2/\kind≠3/\kind≠4)) with rfl|rfl|rfl|rfl|⟨q1,q2,q3,q4⟩
   ·cases dec
    ·have HF:Hid (V=false):=vv (by rw[HV.o,HE.o];simp);go_wp2;go_ret
     exact⟨q0i (by rw[HF.o];rfl),HB.o⟩
    ·cases neg
     ·cases none
      ·have HF:Hid (V=false):=vv (by rw[HV.o,HE.o];simp);go_wp2;go_ret
       exact⟨q0i (by rw[HF.o];rfl),HB.o⟩
      ·by_cases hp:p=0
       ·have tp:((p:Int)==0)=true:=by rw[hp];rfl
        ·have HF:Hid (V=true):=vv (by rw[HV.o,HE.o];simp [hp]);go_wp2;go_ret
         exact⟨q0i (by rw[HF.o];rfl),HB.o⟩
       ·have tp:((p:Int)==0)=false:=by rw[beq_eq_false_iff_ne];omega
        ·have HF:Hid (V=false):=vv (by rw[HV.o,HE.o];simp [hp]);go_wp2;go_ret
         exact⟨q0i (by rw[HF.o];rfl),HB.o⟩
     ·have HF:Hid (V=false):=vv (by rw[HV.o,HE.o];simp);go_wp2;go_ret
      exact⟨q0i (by rw[HF.o];rfl),HB.o⟩
   ·cases two
    ·have HF:Hid (V=false):=vv (by rw[HV.o,HE.o];simp);go_wp2;go_ret
     exact⟨q0i (by rw[HF.o];rfl),HB.o⟩
    ·have HF:Hid (V=false):=vv (by rw[HV.o,HE.o];simp);go_wp2;go_ret
     exact⟨q0i (by rw[HF.o];rfl),HB.o⟩
   ·have HF:Hid (V=false):=vv (by rw[HV.o,HE.o];simp);go_wp2;go_ret
    exact⟨q0i (by rw[HF.o];rfl),HB.o⟩
   ·have HF:Hid (V=false):=vv (by rw[HV.o,HE.o];simp);go_wp2;go_ret
    exact⟨q0i (by rw[HF.o];rfl),HB.o⟩
   ·have t1:((kind:Int)==1)=false:=by rw[beq_eq_false_iff_ne];omega
    have t2:((kind:Int)==2)=false:=by rw[beq_eq_false_iff_ne];omega
    have t3:((kind:Int)==3)=false:=by rw[beq_eq_false_iff_ne];omega
    have t4:((kind:Int)==4)=false:=by rw[beq_eq_false_iff_ne];omega
    ·have HF:Hid (V=false):=vv (by rw[HV.o,HE.o];simp [q1,q2,q3,q4]);go_wp2;go_ret
     exact⟨q0i (by rw[HF.o];rfl),HB.o⟩
  ·cases tx:(x==0)
   ·have HE:Hid (q1c false s x=false):=vv (by unfold q1c;rw[he,tx];rfl);rcases(by omega:kind=1\/kind=2\/kind=3\/kind=4\/(kind≠1/\kind≠2/\kind≠3/\kind≠4)) with rfl|rfl|rfl|rfl|⟨q1,q2,q3,q4⟩
    ·cases dec
     ·have HF:Hid (V=false):=vv (by rw[HV.o,HE.o];simp);go_wp2;go_ret
      exact⟨q0i (by rw[HF.o];rfl),HB.o⟩
     ·cases neg
      ·cases none
       ·have HF:Hid (V=false):=vv (by rw[HV.o,HE.o];simp);go_wp2;go_ret
        exact⟨q0i (by rw[HF.o];rfl),HB.o⟩
       ·by_cases hp:p=0
        ·have tp:((p:Int)==0)=true:=by rw[hp];rfl
         ·have HF:Hid (V=true):=vv (by rw[HV.o,HE.o];simp [hp]);go_wp2;go_ret
          exact⟨q0i (by rw[HF.o];rfl),HB.o⟩
        ·have tp:((p:Int)==0)=false:=by rw[beq_eq_false_iff_ne];omega
         ·have HF:Hid (V=false):=vv (by rw[HV.o,HE.o];simp [hp]);go_wp2;go_ret
          exact⟨q0i (by rw[HF.o];rfl),HB.o⟩
      ·have HF:Hid (V=false):=vv (by rw[HV.o,HE.o];simp);go_wp2;go_ret
       exact⟨q0i (by rw[HF.o];rfl),HB.o⟩
    ·cases two
     ·have HF:Hid (V=false):=vv (by rw[HV.o,HE.o];simp);go_wp2;go_ret
      exact⟨q0i (by rw[HF.o];rfl),HB.o⟩
     ·have HF:Hid (V=false):=vv (by rw[HV.o,HE.o];simp);go_wp2;go_ret
      exact⟨q0i (by rw[HF.o];rfl),HB.o⟩
    ·have HF:Hid (V=false):=vv (by rw[HV.o,HE.o];simp);go_wp2;go_ret
     exact⟨q0i (by rw[HF.o];rfl),HB.o⟩
    ·have HF:Hid (V=false):=vv (by rw[HV.o,HE.o];simp);go_wp2;go_ret
     exact⟨q0i (by rw[HF.o];rfl),HB.o⟩
    ·have t1:((kind:Int)==1)=false:=by rw[beq_eq_false_iff_ne];omega
     have t2:((kind:Int)==2)=false:=by rw[beq_eq_false_iff_ne];omega
     have t3:((kind:Int)==3)=false:=by rw[beq_eq_false_iff_ne];omega
     have t4:((kind:Int)==4)=false:=by rw[beq_eq_false_iff_ne];omega
     ·have HF:Hid (V=false):=vv (by rw[HV.o,HE.o];simp [q1,q2,q3,q4]);go_wp2;go_ret
      exact⟨q0i (by rw[HF.o];rfl),HB.o⟩
   ·have HE:Hid (q1c false s x=true):=vv (by unfold q1c;rw[he,tx];rfl);rcases(by omega:kind=1\/kind=2\/kind=3\/kind=4\/(kind≠1/\kind≠2/\kind≠3/\kind≠4)) with rfl|rfl|rfl|rfl|⟨q1,q2,q3,q4⟩
    ·cases dec
     ·have HF:Hid (V=false):=vv (by rw[HV.o,HE.o];simp);go_wp2;go_ret
      exact⟨q0i (by rw[HF.o];rfl),HB.o⟩
     ·cases neg
      ·cases none
       ·have HF:Hid (V=false):=vv (by rw[HV.o,HE.o];simp);go_wp2;go_ret
        exact⟨q0i (by rw[HF.o];rfl),HB.o⟩
       ·by_cases hp:p=0
        ·have tp:((p:Int)==0)=true:=by rw[hp];rfl
         ·have HF:Hid (V=true):=vv (by rw[HV.o,HE.o];simp [hp]);go_wp2;go_ret
          exact⟨q0i (by rw[HF.o];rfl),HB.o⟩
        ·have tp:((p:Int)==0)=false:=by rw[beq_eq_false_iff_ne];omega
         ·have HF:Hid (V=false):=vv (by rw[HV.o,HE.o];simp [hp]);go_wp2;go_ret
          exact⟨q0i (by rw[HF.o];rfl),HB.o⟩
      ·have HF:Hid (V=false):=vv (by rw[HV.o,HE.o];simp);go_wp2;go_ret
       exact⟨q0i (by rw[HF.o];rfl),HB.o⟩
    ·cases two
     ·have HF:Hid (V=false):=vv (by rw[HV.o,HE.o];simp);go_wp2;go_ret
      exact⟨q0i (by rw[HF.o];rfl),HB.o⟩
     ·by_cases hp:p=0
      ·have tp:((p:Int)==0)=true:=by rw[hp];rfl
       ·cases hneg
        ·cases neg
         ·have HF:Hid (V=true):=vv (by rw[HV.o,HE.o];simp [hp]);go_wp2;go_ret
          exact⟨q0i (by rw[HF.o];rfl),HB.o⟩
         ·by_cases hn:n=0
          ·have tn:((n:Int)==0)=true:=by rw[hn];rfl
           ·have HF:Hid (V=true):=vv (by rw[HV.o,HE.o];simp [hp,hn]);go_wp2;go_ret
            exact⟨q0i (by rw[HF.o];rfl),HB.o⟩
          ·have tn:((n:Int)==0)=false:=by rw[beq_eq_false_iff_ne];omega
           ·have HF:Hid (V=false):=vv (by rw[HV.o,HE.o];simp [hp,hn]);go_wp2;go_ret
            exact⟨q0i (by rw[HF.o];rfl),HB.o⟩
        ·cases neg
         ·by_cases hn:n=0
          ·have tn:((n:Int)==0)=true:=by rw[hn];rfl
           ·have HF:Hid (V=true):=vv (by rw[HV.o,HE.o];simp [hp,hn]);go_wp2;go_ret
            exact⟨q0i (by rw[HF.o];rfl),HB.o⟩
          ·have tn:((n:Int)==0)=false:=by rw[beq_eq_false_iff_ne];omega
           ·have HF:Hid (V=false):=vv (by rw[HV.o,HE.o];simp [hp,hn]);go_wp2;go_ret
            exact⟨q0i (by rw[HF.o];rfl),HB.o⟩
         ·have HF:Hid (V=true):=vv (by rw[HV.o,HE.o];simp [hp]);go_wp2;go_ret
          exact⟨q0i (by rw[HF.o];rfl),HB.o⟩
      ·have tp:((p:Int)==0)=false:=by rw[beq_eq_false_iff_ne];omega
       ·have HF:Hid (V=false):=vv (by rw[HV.o,HE.o];simp [hp]);go_wp2;go_ret
        exact⟨q0i (by rw[HF.o];rfl),HB.o⟩
    ·cases none
     ·have HF:Hid (V=false):=vv (by rw[HV.o,HE.o];simp);go_wp2;go_ret
      exact⟨q0i (by rw[HF.o];rfl),HB.o⟩
     ·by_cases hp:p=0
      ·have tp:((p:Int)==0)=true:=by rw[hp];rfl
       ·have HF:Hid (V=true):=vv (by rw[HV.o,HE.o];simp [hp]);go_wp2;go_ret
        exact⟨q0i (by rw[HF.o];rfl),HB.o⟩
      ·have tp:((p:Int)==0)=false:=by rw[beq_eq_false_iff_ne];omega
       ·have HF:Hid (V=false):=vv (by rw[HV.o,HE.o];simp [hp]);go_wp2;go_ret
        exact⟨q0i (by rw[HF.o];rfl),HB.o⟩
    ·cases none
     ·have HF:Hid (V=false):=vv (by rw[HV.o,HE.o];simp);go_wp2;go_ret
      exact⟨q0i (by rw[HF.o];rfl),HB.o⟩
     ·by_cases hp:p<=2251799813685247
      ·have tp:decide ((p:Int)<=2251799813685247)=true:=decide_eq_true (by omega)
       ·have HF:Hid (V=true):=vv (by rw[HV.o,HE.o];simp [hp]);go_wp2;go_ret
        exact⟨q0i (by rw[HF.o];rfl),HB.o⟩
      ·have tp:decide ((p:Int)<=2251799813685247)=false:=decide_eq_false (by omega)
       ·have HF:Hid (V=false):=vv (by rw[HV.o,HE.o];simp [hp]);go_wp2;go_ret
        exact⟨q0i (by rw[HF.o];rfl),HB.o⟩
    ·have t1:((kind:Int)==1)=false:=by rw[beq_eq_false_iff_ne];omega
     have t2:((kind:Int)==2)=false:=by rw[beq_eq_false_iff_ne];omega
     have t3:((kind:Int)==3)=false:=by rw[beq_eq_false_iff_ne];omega
     have t4:((kind:Int)==4)=false:=by rw[beq_eq_false_iff_ne];omega
     ·have HF:Hid (V=false):=vv (by rw[HV.o,HE.o];simp [q1,q2,q3,q4]);go_wp2;go_ret
      exact⟨q0i (by rw[HF.o];rfl),HB.o⟩
 ·have HE:Hid (q1c true s x=false):=vv (by unfold q1c;rfl);rcases(by omega:kind=1\/kind=2\/kind=3\/kind=4\/(kind≠1/\kind≠2/\kind≠3/\kind≠4)) with rfl|rfl|rfl|rfl|⟨q1,q2,q3,q4⟩
  ·cases dec
   ·have HF:Hid (V=false):=vv (by rw[HV.o,HE.o];simp);go_wp2;go_ret
    exact⟨q0i (by rw[HF.o];rfl),HB.o⟩
   ·cases neg
    ·have HF:Hid (V=false):=vv (by rw[HV.o,HE.o];simp);go_wp2;go_ret
     exact⟨q0i (by rw[HF.o];rfl),HB.o⟩
    ·cases none
     ·have HF:Hid (V=false):=vv (by rw[HV.o,HE.o];simp);go_wp2;go_ret
      exact⟨q0i (by rw[HF.o];rfl),HB.o⟩
     ·by_cases hp:p=0
      ·have tp:((p:Int)==0)=true:=by rw[hp];rfl
       ·have HF:Hid (V=true):=vv (by rw[HV.o,HE.o];simp [hp]);go_wp2;go_ret
        exact⟨q0i (by rw[HF.o];rfl),HB.o⟩
      ·have tp:((p:Int)==0)=false:=by rw[beq_eq_false_iff_ne];omega
       ·have HF:Hid (V=false):=vv (by rw[HV.o,HE.o];simp [hp]);go_wp2;go_ret
        exact⟨q0i (by rw[HF.o];rfl),HB.o⟩
  ·cases two
   ·have HF:Hid (V=false):=vv (by rw[HV.o,HE.o];simp);go_wp2;go_ret
    exact⟨q0i (by rw[HF.o];rfl),HB.o⟩
   ·have HF:Hid (V=false):=vv (by rw[HV.o,HE.o];simp);go_wp2;go_ret
    exact⟨q0i (by rw[HF.o];rfl),HB.o⟩
  ·have HF:Hid (V=false):=vv (by rw[HV.o,HE.o];simp);go_wp2;go_ret
   exact⟨q0i (by rw[HF.o];rfl),HB.o⟩
  ·have HF:Hid (V=false):=vv (by rw[HV.o,HE.o];simp);go_wp2;go_ret
   exact⟨q0i (by rw[HF.o];rfl),HB.o⟩
  ·have t1:((kind:Int)==1)=false:=by rw[beq_eq_false_iff_ne];omega
   have t2:((kind:Int)==2)=false:=by rw[beq_eq_false_iff_ne];omega
   have t3:((kind:Int)==3)=false:=by rw[beq_eq_false_iff_ne];omega
   have t4:((kind:Int)==4)=false:=by rw[beq_eq_false_iff_ne];omega
   ·have HF:Hid (V=false):=vv (by rw[HV.o,HE.o];simp [q1,q2,q3,q4]);go_wp2;go_ret
    exact⟨q0i (by rw[HF.o];rfl),HB.o⟩
end Go.Proofs.YtcdimmblnbkjjaaGreatDoor.R11
namespace Go.Proofs.YtcdimmblnbkjjaaGreatDoor.R1
open Go Go.RowKit
theorem two_words(w:World)(x y:Nat)(hx:x<4294967296)(hy:y<4294967296)(t:TypeId):Rd (w.alloc (.cells #[.int .u32 (x:Int),.int .u32 (y:Int)] t)) (some ⟨w.heap.size,0,none⟩) 2 2 [x,y]/\Below w.heap.size w (w.alloc (.cells #[.int .u32 (x:Int),.int .u32 (y:Int)] t)):=
 ⟨(Own.lit (t:=t) [x,y] (q0w.2 ⟨hx,q0w.2 ⟨hy,q0K⟩⟩) (by simp [q0p])).rd rfl lr (by omega),(Below.refl _ _).alloc lr _⟩
theorem Of1(w:World):
  Calls Tryz.prog 63 #[.int .u64 1] w fun e w'=>∃A n c,e=.returned (.agg #[.slice A n c])/\Rd w' A n c (toL 1)/\Below w.heap.size w w':=by
 go_enter Tryz.func63,Tryz.ntmps63
 go_wp2_with fail
 obtain⟨o1,o2⟩:=two_words (w.alloc (.cells #[.slice none 0 0] 28)) 1 0 (by omega) (by omega) 34;have hN:=(NatCell.made w 28).below o2;have hB:=(Below.refl w.heap.size w).alloc (o:=.cells #[.slice none 0 0] 28) lr;have HN:=vv hN;have HB:=vv (hB.trans (o2.mono (by simp)));have hs:(w.alloc (.cells #[.slice none 0 0] 28)).heap.size=w.heap.size+1:=by simp
 rw[hs] at o1;clear o2 hN hB hs;refine(q9e (some ⟨w.heap.size+1,0,none⟩) 2 2 [1,0] _ o1).mono ?_;rintro e w' ⟨m',rfl,rfl,a5⟩;have HR:=vv a5;clear a5 o1;go_wp2_with fail
 refine(q9r _ m' 2 _).mono ?_;rintro e w1 ⟨rfl,a1⟩;have a6:Hid (Rd w1 (some ⟨w.heap.size+1,0,none⟩) m' 2 (toL 1)):=vv (HR.o.below a1 rfl);have a2:=vv (HN.o.below a1);have a7:=vn HB a1;have c0:=a2.o.c0;have fz:=a2.o.fz;have lt:=a2.o.lt;have a3:Hid (Rd (w1.setCell ⟨w.heap.size,0,none⟩ (.slice (some ⟨w.heap.size+1,0,none⟩) m' 2)) (some ⟨w.heap.size+1,0,none⟩) m' 2 (toL 1)):=vv (a6.o.other _ _ _ (fun a e=>by cases e;simp));have a4:Hid (Below w.heap.size w (w1.setCell ⟨w.heap.size,0,none⟩ (.slice (some ⟨w.heap.size+1,0,none⟩) m' 2))):=vv (a7.o.setCell lr _);have a0:(w1.setCell ⟨w.heap.size,0,none⟩ (.slice (some ⟨w.heap.size+1,0,none⟩) m' 2)).cell? ⟨w.heap.size,0,none⟩=some (.slice (some ⟨w.heap.size+1,0,none⟩) m' 2):=q0G c0;clear a1;go_wp2;exact bodyPost_ret (v:=.agg #[.slice (some ⟨w.heap.size+1,0,none⟩) m' 2]) (by simp [results,Tryz.results63,go_sem,a0]) rfl ⟨_,_,_,rfl,a3.o,a4.o⟩
end Go.Proofs.YtcdimmblnbkjjaaGreatDoor.R1
namespace Go.Proofs.YtcdimmblnbkjjaaGreatDoor.R11
open Go Go.RowKit R5
theorem decimal_none(E F:Nat)(neg:Bool)(mode:Nat)(x:Int)(w:World)(h1:2<=E)(h2:E<=11)(h3:1<=F)(h4:F<=52)(hm:mode<=4)
  (hx1:-4611686018427387904<=x) (hx2:x<=4611686018427387904) (hst:Std w) :
  Calls Tryz.prog 31 #[fm E F,q5D neg ⟨#[]⟩ x,.int .u8 (mode:Int)] w (q1i (q0f E F false neg mode 0 (t10 (-x))) w):=by
 have HS:=vv fun(A:Option Addr) n c (B':Option Addr) m d w' (ha:Rd w' A n c (toL 0)) (hb:Rd w' B' m d (toL 1)) (hn:n<=16384) (hs:Std w')=>q6Y E F false neg mode A n c B' m d 0 x w' h1 h2 h3 h4 hm ha hb hn (fun _=>rfl) hx1 hx2 hs
 rw[Nat.zero_mul] at HS;obtain⟨O,hO⟩:=yx (q0f E F false neg mode 0 (t10 (-x)));rw[<- hO] at HS ⊢;have b0:=vv hst;obtain⟨w0,a0⟩:=yx (w.alloc (.cells #[.int .i64 (E:Int),.int .i64 (F:Int)] 23));obtain⟨w1,a1⟩:=yx (w0.alloc (.cells #[.bool neg,.string ⟨#[]⟩,.int .i64 x] 25));have a3:Below w.heap.size w w0:=by rw[a0];exact(Below.refl _ w).alloc lr _
 have a4:Below w0.heap.size w0 w1:=by rw[a1];exact(Below.refl _ w0).alloc lr _
 have a5:w0.heap.size=w.heap.size+1:=by rw[a0];simp
 have a6:FmAt w1 w.heap.size E F:=(show FmAt w0 w.heap.size E F by rw[a0];exact FmAt.made w _ _ _).below a4;have a7:DecBox w1 (w.heap.size+1) neg ⟨#[]⟩ x:=by rw[<- a5,a1];exact DecBox.made w0 _ _ _ _
 have hB:Below w.heap.size w w1:=a3.trans (a4.mono a3.size);have HF:=vv a6;have HX:=vv a7;have HB:=vv hB;have b1:Hid (w1=(w.alloc (.cells #[.int .i64 (E:Int),.int .i64 (F:Int)] 23)).alloc (.cells #[.bool neg,.string ⟨#[]⟩,.int .i64 x] 25)):=vv (by rw[a1,a0]);have b5:(mode:Int)<=4:=by omega
 clear a0 a1 a3 a4 a5 a6 a7 hB hO hst h1 h2 h3 h4 hm;go_enter Tryz.func31,Tryz.ntmps31
 go_wp2_with fail
 rw[<- b1.o];refine(R1.Of1 _).mono ?_;rintro e w2 ⟨A,n,c,rfl,a8,a2⟩;have b2:=vv a8;have HF:=vv (HF.o.below a2);have HX:=vv (HX.o.below a2);have HB:=vn HB a2;obtain⟨x0,x1,x2,xl⟩:=HX.o;obtain⟨f0,f1,fl⟩:=HF.o;clear a8 a2;go_wp2_with fail
 have o2:=(Below.refl w2.heap.size w2).alloc (o:=.cells #[.bool false,.slice none 0 0,.slice A n c] 93) lr;refine(HS.o none 0 0 A n c _ (by rw[q2v];exact Rd.nil _) (b2.o.below o2 rfl) (by omega) (b0.o.fs (Fs.of_nil (HB.o.trans (o2.mono HB.o.size))))).mono ?_;have b3:=vn HB o2;clear o2;rintro e w3 ⟨rfl,a9⟩;have b4:=vn b3 a9;clear a9;go_wp2;go_ret3
 exact⟨rfl,b4.o⟩
theorem q5T{s:ByteArray}(hd:q61 s)(m:Nat)(h:s.size<=8*m):words (dvk s s.size)<=m:=by
 refine q12 (Nat.lt_of_lt_of_le (q6N s hd s.size lr) ?_);have h2:(10:Nat)^s.size<=10^(8*m):=Nat.pow_le_pow_right (by omega) h;rw[Nat.pow_mul] at h2;exact Nat.le_trans h2 (Nat.pow_le_pow_left (by decide) m)
theorem digs_bound{s:ByteArray}(hd:q61 s)(h:s.size<=65536):words (dvk s s.size)<=16384:=q5T hd 16384 (by omega)
theorem dvk_pos(s:ByteArray)(hd:q61 s)(h0:0<s.size)(hf:q1v s 0≠48):0<dvk s s.size:=by
 have h1:=q5B s 0 h0;rw[q32] at h1;rw[q25 h0] at hf;have h2:=(hd 0 h0).1;have h3:=q58 s 1 (s.size-1) (by omega);have e:1+(s.size-1)=s.size:=by omega
 rw[e] at h3;have h4:dvk s 1≠0:=by rw[h1];omega
 have h5:0<dvk s 1*10^(s.size-1):=Nat.mul_pos (by omega) (Nat.pow_pos (by omega));omega
theorem decimal_some(E F:Nat)(neg:Bool)(mode:Nat)(s:ByteArray)(x:Int)(w:World)(h1:2<=E)(h2:E<=11)(h3:1<=F)(h4:F<=52)(hm:mode<=4)
  (hd:q61 s) (h0:0<s.size) (hsz:s.size<=65536) (hf:q1v s 0≠48) (hx1:-4611686018427387904<=x) (hx2:x<=4611686018427387904) (hst:Std w) :
  Calls Tryz.prog 31 #[fm E F,q5D neg s x,.int .u8 (mode:Int)] w (q1i (q0f E F neg neg mode (dvk s s.size*t10 x) (t10 (-x))) w):=by
 have a8:=digs_bound hd hsz;have b2:=dvk_pos s hd h0 hf;have b3:=vv fun w=>R1.Parse s w hd h0 hsz
 obtain⟨N,hN⟩:=yx (dvk s s.size);rw[<- hN] at b3 a8 b2 ⊢;have HS:=vv fun(A:Option Addr) n c (B':Option Addr) m d w' (ha:Rd w' A n c (toL N)) (hb:Rd w' B' m d (toL 1)) (hs:Std w')=>q6Y E F neg neg mode A n c B' m d N x w' h1 h2 h3 h4 hm ha hb (by rw[<- ha.words];exact a8) (fun h=>absurd h (by omega)) hx1 hx2 hs
 obtain⟨O,hO⟩:=yx (q0f E F neg neg mode (N*t10 x) (t10 (-x)));rw[<- hO] at HS ⊢;have c2:=vv hst;have c3:=q2W h0;obtain⟨w0,a1⟩:=yx (w.alloc (.cells #[.int .i64 (E:Int),.int .i64 (F:Int)] 23));obtain⟨w1,a5⟩:=yx (w0.alloc (.cells #[.bool neg,.string s,.int .i64 x] 25));have a9:Below w.heap.size w w0:=by rw[a1];exact(Below.refl _ w).alloc lr _
 have b0:Below w0.heap.size w0 w1:=by rw[a5];exact(Below.refl _ w0).alloc lr _
 have a2:w0.heap.size=w.heap.size+1:=by rw[a1];simp
 have b4:FmAt w1 w.heap.size E F:=(show FmAt w0 w.heap.size E F by rw[a1];exact FmAt.made w _ _ _).below b0;have b5:DecBox w1 (w.heap.size+1) neg s x:=by rw[<- a2,a5];exact DecBox.made w0 _ _ _ _
 have hB:Below w.heap.size w w1:=a9.trans (b0.mono a9.size);have HF:=vv b4;have HX:=vv b5;have HB:=vv hB;have c5:Hid (w1=(w.alloc (.cells #[.int .i64 (E:Int),.int .i64 (F:Int)] 23)).alloc (.cells #[.bool neg,.string s,.int .i64 x] 25)):=vv (by rw[a5,a1]);have d0:(mode:Int)<=4:=by omega
 clear a1 a5 a9 b0 a2 b4 b5 hB hO hst h1 h2 h3 h4 hm hd hf hN a8 b2 h0 hsz;go_enter Tryz.func31,Tryz.ntmps31
 go_wp2_with fail
 rw[<- c5.o];refine(R1.Of1 _).mono ?_;rintro e w2 ⟨A,n,c,rfl,b6,a6⟩;have a7:=vv b6;have HF:=vv (HF.o.below a6);have HX:=vv (HX.o.below a6);have HB:=vn HB a6;obtain⟨x0,x1,xl⟩:=HX.o;clear b6 a6;go_wp2_with fail
 have o2:=(Below.refl w2.heap.size w2).alloc (o:=.cells #[.bool neg,.slice none 0 0,.slice A n c] 93) lr;have hz:(w2.alloc (.cells #[.bool neg,.slice none 0 0,.slice A n c] 93)).frozen? ⟨w2.heap.size,1,none⟩=false:=by simp only[World.frozen?];rw[heap_alloc_new];simp
 have hq:=RatioBox.made w2 neg none 0 0 A n c 93;obtain⟨w3,b7⟩:=yx (w2.alloc (.cells #[.bool neg,.slice none 0 0,.slice A n c] 93));rw[<- b7] at o2 hz hq ⊢;have HQ:=vv hq;have HZ:=vv hz;have b1:=vv (a7.o.below o2 rfl);have e2:=HX.o.lt;have e1:w.heap.size<w2.heap.size:=by omega
 have HF:=vv (HF.o.below o2);have HX:=vv (HX.o.below o2);have HB:=vn HB o2;have b8:∀a,A=some a->a.block≠w2.heap.size:=fun a e=>by
  have h1:words 1=n:=a7.o.words;have h2:words 1=1:=rfl;have:=a7.o.block_lt (by omega) a e;omega
 clear o2 hz hq b7 a7 x0 x1 xl c3;refine(b3.o _).mono ?_;rintro e w4 ⟨A4,n4,c4,rfl,b9,c0,a0⟩;have b1:=vv (b1.o.below a0 rfl);have c6:=vv b9;have HF:=vv (HF.o.below a0);have HX:=vv (HX.o.below a0);have HB:=vn HB a0;have q0:=HQ.o.below a0;have fz:=(a0.frozen (p:=⟨w2.heap.size,1,none⟩) HQ.o.lt).trans HZ.o;have q2:=q0.c2;have q1:=q0.c1;have ql:=q0.lt;have a3:∀a,A4=some a->a.block≠w2.heap.size:=fun a e=>by have:=(c0 a e).1;have:=HQ.o.lt;omega
 have q0:=q0.c0;clear b9 c0 a0;obtain⟨f0,f1,fl⟩:=HF.o;obtain⟨x0,x1,x2,xl⟩:=HX.o;have a4:=vv (HB.o.setCell (p:=⟨w2.heap.size,1,none⟩) (by have:=e1;show w.heap.size<=w2.heap.size;omega) (.slice A4 n4 c4));have c7:Hid (Rd (w4.setCell ⟨w2.heap.size,1,none⟩ (.slice A4 n4 c4)) A4 n4 c4 (toL N)):=vv (c6.o.other _ _ _ a3);have c8:Hid (Rd (w4.setCell ⟨w2.heap.size,1,none⟩ (.slice A4 n4 c4)) A n c (toL 1)):=vv (b1.o.other _ _ _ b8);clear b8 a3;go_wp2_with fail
 refine(HS.o A4 n4 c4 A n c _ c7.o c8.o (c2.o.fs (Fs.of_nil a4.o))).mono ?_;rintro e w5 ⟨rfl,c1⟩;have c9:=vn a4 c1;clear c1;go_wp2;go_ret3
 exact⟨rfl,c9.o⟩
end Go.Proofs.YtcdimmblnbkjjaaGreatDoor.R11
namespace Go.Proofs.YtcdimmblnbkjjaaGreatDoor
open Go Go.RowKit R5
def q1W(E F:Nat)(neg:Bool)(s:ByteArray)(x:Int)(mode:Nat):Nat × Nat:=
 q0f E F neg neg mode (dvk s s.size*t10 x) (t10 (-x))
def q1I(E F:Int)(kind:Nat)(neg dneg:Bool)(s:ByteArray)(x:Int)(hneg:Bool)(n:Nat)(xs:List Nat)(hx:Int)(p mode:Nat):Nat × Nat × Nat:=
 if R3.formOk E F=false then(0,0,5)
 else if q1l kind neg dneg s x hneg n xs hx p=false then(0,0,110)
 else if 4<mode then(0,0,7)
 else if kind=1 then((q1W E.toNat F.toNat dneg s x mode).1,(q1W E.toNat F.toNat dneg s x mode).2,0)
 else if kind=2 then((q0f E.toNat F.toNat hneg neg mode (val xs*p2 hx) (p2 (-hx))).1,(q0f E.toNat F.toNat hneg neg mode (val xs*p2 hx) (p2 (-hx))).2,0)
 else if kind=3 then(sgb E.toNat F.toNat neg+(2^E.toNat-1)*2^F.toNat,0,0)
 else if 2^(F.toNat-1)<=p then(0,0,115)
 else(sgb E.toNat F.toNat neg+((2^E.toNat-1)*2^F.toNat+(2^(F.toNat-1)+p)),0,0)
def q2J(o:Nat × Nat × Nat)(w:World)(e:Ending)(w':World):Prop:=e=.returned (.tuple #[.int .u64 (o.1:Int),.int .u8 (o.2.1:Int),.int .i64 (o.2.2:Int)])/\Below w.heap.size w w'
theorem q3a(E F:Nat)(below neg:Bool)(mode b:Nat):q0f E F below neg mode 0 b=q0f E F false neg mode 0 b:=by unfold q0f;rw[if_pos rfl,if_pos rfl]
end Go.Proofs.YtcdimmblnbkjjaaGreatDoor
namespace Go.Proofs.YtcdimmblnbkjjaaGreatDoor.R16
open Go Go.RowKit R5
theorem q2t(E F:Int)(kind:Nat)(neg dneg:Bool)(s:ByteArray)(x:Int)(hneg:Bool)(A:Option Addr)(n c:Nat)(xs:List Nat)(hx:Int)(p mode:Nat)(w:World)(hform:R3.formOk E F=false):
  Calls Tryz.prog 7 #[fm E F,q4Z kind neg dneg s x hneg A n c hx p,.int .u8 (mode:Int)] w (q2J (0,0,5) w):=by
 have a7:=vv fun w=>R3.Check E F w
 rw[R3.chk_no hform] at a7;obtain⟨w0,a0⟩:=yx (w.alloc (.cells #[.int .i64 (E:Int),.int .i64 (F:Int)] 23));obtain⟨w1,a3⟩:=yx (w0.alloc (.cells #[.int .u8 ((kind:Int)),.bool neg,.bool dneg,.string s,.int .i64 x,.bool hneg,.slice A n c,.int .i64 hx,.int .u64 (p:Int)] 33));have a5:Below w.heap.size w w0:=by rw[a0];exact(Below.refl _ w).alloc lr _
 have a6:Below w0.heap.size w0 w1:=by rw[a3];exact(Below.refl _ w0).alloc lr _
 have a1:w0.heap.size=w.heap.size+1:=by rw[a0];simp
 have a2:FmAt w1 w.heap.size (E) (F):=(show FmAt w0 w.heap.size (E) (F) by rw[a0];exact FmAt.made w _ _ _).below a6;have a8:NumBox w1 (w.heap.size+1) kind neg dneg s x hneg A n c hx p:=by rw[<- a1,a3];exact NumBox.made w0 _ _ _ _ _ _ _ _ _ _ _ _
 have hB:Below w.heap.size w w1:=a5.trans (a6.mono a5.size);have HF:=vv a2;have HX:=vv a8;have HB:=vv hB;have a9:Hid (w1=(w.alloc (.cells #[.int .i64 (E:Int),.int .i64 (F:Int)] 23)).alloc (.cells #[.int .u8 ((kind:Int)),.bool neg,.bool dneg,.string s,.int .i64 x,.bool hneg,.slice A n c,.int .i64 hx,.int .u64 (p:Int)] 33)):=vv (by rw[a3,a0]);have f0:=a2.c0;have f1:=a2.c1;have l0:=a2.lt;clear a0 a3 a5 a6 a1 a2 a8 hB hform;go_enter Tryz.func7,Tryz.ntmps7
 go_wp2_with fail
 rw[<- a9.o];refine(a7.o _).mono ?_;rintro e w2 ⟨rfl,a4⟩;have HF:=vv (HF.o.below a4);have HX:=vv (HX.o.below a4);have HB:=vn HB a4;clear a4 f0 f1 l0;go_wp2;go_ret3
 exact⟨rfl,HB.o⟩
theorem numOk_dec{neg dneg:Bool}{s:ByteArray}{x:Int}{hneg:Bool}{n:Nat}{xs:List Nat}{hx:Int}{p:Nat}(h:q1l 1 neg dneg s x hneg n xs hx p=true):q0x s x=true:=by
 unfold q1l at h;rw[if_pos rfl] at h;simp only[Bool.and_eq_true] at h;exact h.1.1.1
theorem numOk_hex{neg dneg:Bool}{s:ByteArray}{x:Int}{hneg:Bool}{n:Nat}{xs:List Nat}{hx:Int}{p:Nat}(h:q1l 2 neg dneg s x hneg n xs hx p=true):twoOk hneg n xs hx=true:=by
 unfold q1l at h;rw[if_neg (by omega),if_pos rfl] at h;simp only[Bool.and_eq_true] at h;exact h.1.1.1
theorem numOk_kind{kind:Nat}{neg dneg:Bool}{s:ByteArray}{x:Int}{hneg:Bool}{n:Nat}{xs:List Nat}{hx:Int}{p:Nat}(h:q1l kind neg dneg s x hneg n xs hx p=true):kind=1\/kind=2\/kind=3\/kind=4:=by
 unfold q1l at h;split at h
 ·omega
 ·split at h
  ·omega
  ·split at h
   ·omega
   ·split at h
    ·omega
    ·cases h
theorem decMay_facts{s:ByteArray}{x:Int}(h:q0x s x=true):-1073741824<=x/\x<=1073741824/\s.size<=65536/\(s.size=0\/(0<s.size/\q61 s/\q1v s 0≠48)):=by
 unfold q0x at h;simp only[Bool.and_eq_true,decide_eq_true_eq] at h;obtain⟨⟨⟨a,b⟩,c⟩,d⟩:=h;refine⟨b,a,c,?_⟩;by_cases h0:s.size=0
 ·exact .inl h0
 ·rw[if_neg h0] at d;simp only[Bool.and_eq_true,Bool.not_eq_true',decide_eq_false_iff_not] at d;exact .inr ⟨by omega,q2c.1 d.1.1,d.1.2⟩
theorem twoOk_facts{neg:Bool}{n:Nat}{xs:List Nat}{x:Int}(h:twoOk neg n xs x=true):q1q n xs=true /\ -1073741824<=x/\x<=1073741824:=by
 unfold twoOk at h;simp only[Bool.and_eq_true,decide_eq_true_eq] at h;exact⟨h.1.1.1,h.1.2,h.1.1.2⟩
theorem bytes_none{s:ByteArray}(h:s.size=0):s=⟨#[]⟩:=by
 have h1:s.data.size=0:=h;have h2:=Array.eq_empty_of_size_eq_zero h1;cases s;simp_all
theorem natOk_facts{n:Nat}{xs:List Nat}(h:q1q n xs=true):n<=16384/\(n=0\/nth xs (n-1)≠0):=by
 unfold q1q at h;simp only[Bool.and_eq_true,Bool.or_eq_true,decide_eq_true_eq] at h;exact h
theorem q3x(G0 G1 kind:Nat)(neg dneg:Bool)(s:ByteArray)(x:Int)(hneg:Bool)(A:Option Addr)(n c:Nat)(xs:List Nat)(hx:Int)(p mode:Nat)(w:World)(g1:1<=G0)(g2:G0<=10)(g3:G1<=51)(hr:Rd w A n c xs)(hst:Std w):
  Calls Tryz.prog 7 #[fm ((G0:Int)+1) ((G1:Int)+1),q4Z kind neg dneg s x hneg A n c hx p,.int .u8 (mode:Int)] w (q2J (q1I ((G0:Int)+1) ((G1:Int)+1) kind neg dneg s x hneg n xs hx p mode) w):=by
 have e0:((G0+1:Nat):Int)=(G0:Int)+1:=by omega
 have e1:((G1+1:Nat):Int)=(G1:Int)+1:=by omega
 have b6:R3.formOk ((G0:Int)+1) ((G1:Int)+1)=true:=by
  unfold R3.formOk;rw[decide_eq_true (p:=(2:Int)<=(G0:Int)+1) (by omega),decide_eq_true (p:=(G0:Int)+1<=11) (by omega),decide_eq_true (p:=(1:Int)<=(G1:Int)+1) (by omega),decide_eq_true (p:=(G1:Int)+1<=52) (by omega)];rfl
 have b7:=fun w=>R3.Check ((G0:Int)+1) ((G1:Int)+1) w
 rw[R3.chk_ok b6] at b7;have d6:=vv b7;have a2:=vv fun w' (h:Below w.heap.size w w')=>R11.Check kind neg dneg s x hneg A n c xs hx p w' (hr.below h rfl)
 obtain⟨O,hO⟩:=yx (q1I ((G0:Int)+1) ((G1:Int)+1) kind neg dneg s x hneg n xs hx p mode);rw[<- hO];unfold q1I at hO;rw[b6,if_neg (by decide),show((G0:Int)+1).toNat=G0+1 by omega,show((G1:Int)+1).toNat=G1+1 by omega,Nat.add_sub_cancel] at hO;obtain⟨b,b8⟩:=yx (q1l kind neg dneg s x hneg n xs hx p);rw[<- b8] at a2 hO;have HO:=vv hO;have b9:=vv b8;have HR:=vv hr;have c9:=vv hst;obtain⟨w0,a3⟩:=yx (w.alloc (.cells #[.int .i64 ((G0:Int)+1),.int .i64 ((G1:Int)+1)] 23));obtain⟨w1,a9⟩:=yx (w0.alloc (.cells #[.int .u8 (kind:Int),.bool neg,.bool dneg,.string s,.int .i64 x,.bool hneg,.slice A n c,.int .i64 hx,.int .u64 (p:Int)] 33));have d0:Below w.heap.size w w0:=by rw[a3];exact(Below.refl _ w).alloc lr _
 have d1:Below w0.heap.size w0 w1:=by rw[a9];exact(Below.refl _ w0).alloc lr _
 have a4:w0.heap.size=w.heap.size+1:=by rw[a3];simp
 have HF:=vv ((show FmAt w0 w.heap.size ((G0:Int)+1) ((G1:Int)+1) by rw[a3];exact FmAt.made w _ _ _).below d1);have HX:Hid (NumBox w1 (w.heap.size+1) kind neg dneg s x hneg A n c hx p):=vv (by rw[<- a4,a9];exact NumBox.made w0 _ _ _ _ _ _ _ _ _ _ _ _);have HB:=vv (d0.trans (d1.mono d0.size));have d7:Hid (w1=(w.alloc (.cells #[.int .i64 ((G0:Int)+1),.int .i64 ((G1:Int)+1)] 23)).alloc (.cells #[.int .u8 (kind:Int),.bool neg,.bool dneg,.string s,.int .i64 x,.bool hneg,.slice A n c,.int .i64 hx,.int .u64 (p:Int)] 33)):=vv (by rw[a9,a3]);have HG:=vv (And.intro g1 (And.intro g2 g3));have HE:=vv (And.intro e0 e1);obtain⟨f0,f1,fl⟩:=HF.o;clear a3 a9 d0 d1 a4 b6 hO b8 hr hst g1 g2 g3 e0 e1 b7;go_enter Tryz.func7,Tryz.ntmps7
 go_wp2_with fail
 rw[<- d7.o];refine(d6.o _).mono ?_;rintro e w2 ⟨rfl,b0⟩;have HF:=vv (HF.o.below b0);have HX:=vv (HX.o.below b0);have HB:=vn HB b0;clear b0 f0 f1 fl;obtain⟨c0,c1,c2,c3,c4,c5,c6,c7,c8,cl⟩:=HX.o;cases b
 ·have HO:Hid _:=vv (HO.o.trans (if_pos rfl));rw[q2O] at a2;go_wp2_with fail
  refine(a2.o _ HB.o).mono ?_;rintro e w3 ⟨rfl,a1⟩;have HB:=vn HB a1;clear a1 c0 c1 c2 c3 c4 c5 c6 c7 c8 cl;go_wp2;go_ret3
  rw[HO.o];exact⟨rfl,HB.o⟩
 rw[q3d] at a2;have HO:Hid _:=vv (HO.o.trans (if_neg (by decide)));go_wp2_with fail
 refine(a2.o _ HB.o).mono ?_;rintro e w3 ⟨rfl,a1⟩;have HF:=vv (HF.o.below a1);have HX:=vv (HX.o.below a1);have HB:=vn HB a1;clear a1 c0 c1 c2 c3 c4 c5 c6 c7 c8 cl;by_cases hm:4<mode
 ·have dm:decide ((4:Int)<(mode:Int))=true:=decide_eq_true (by omega);have HO:Hid _:=vv (HO.o.trans (if_pos hm));clear hm;go_wp2;go_ret3
  rw[HO.o];exact⟨rfl,HB.o⟩
 have dm:decide ((4:Int)<(mode:Int))=false:=decide_eq_false (by omega);have HO:Hid _:=vv (HO.o.trans (if_neg hm));have HM:=vv (show mode<=4 by omega);clear hm;obtain⟨f0,f1,fl⟩:=HF.o;obtain⟨c0,c1,c2,c3,c4,c5,c6,c7,c8,cl⟩:=HX.o;rcases R16.numOk_kind b9.o.symm with rfl|rfl|rfl|rfl
 ·have HA:Hid _:=vv (HO.o.trans (if_pos rfl));obtain⟨b1,b2,b3,b4⟩:=R16.decMay_facts (R16.numOk_dec b9.o.symm);have a5:∀w',Below w.heap.size w w'->Calls Tryz.prog 31 #[fm ((G0:Int)+1) ((G1:Int)+1),q5D dneg s x,.int .u8 (mode:Int)] w' (q1i (q1W (G0+1) (G1+1) dneg s x mode) w'):=by
   intro w' h;obtain⟨g1,g2,g3⟩:=HG.o;rcases b4 with h0|⟨h0,hd,hb⟩
   ·have d8:=R16.bytes_none h0;have eq:q1W (G0+1) (G1+1) dneg s x mode=q0f (G0+1) (G1+1) false dneg mode 0 (t10 (-x)):=by
     unfold q1W;rw[h0,q32,Nat.zero_mul,q3a]
    have k:=R11.decimal_none (G0+1) (G1+1) dneg mode x w' (by omega) (by omega) (by omega) (by omega) HM.o (by omega) (by omega) (c9.o.fs (Fs.of_nil h));rw[eq,d8]
    simpa only[HE.o.1,HE.o.2] using k
   ·have k:=R11.decimal_some (G0+1) (G1+1) dneg mode s x w' (by omega) (by omega) (by omega) (by omega) HM.o hd h0 b3 hb (by omega) (by omega) (c9.o.fs (Fs.of_nil h));unfold q1W
    simpa only[HE.o.1,HE.o.2] using k
  have a6:=vv a5;obtain⟨D,hD⟩:=yx (q1W (G0+1) (G1+1) dneg s x mode);rw[<- hD] at a6 HA;clear a5 hD b1 b2 b3 b4;go_wp2_with fail
  refine(a6.o _ HB.o).mono ?_;rintro e w4 ⟨rfl,a0⟩;have HB:=vn HB a0;clear a0;go_wp2;go_ret3
  rw[HA.o];exact⟨rfl,HB.o⟩
 ·have HA:Hid _:=vv (HO.o.trans ((if_neg (by decide)).trans (if_pos rfl)));have ht:=R16.numOk_hex b9.o.symm;obtain⟨hk,b1,b2⟩:=R16.twoOk_facts ht;obtain⟨d3,d4⟩:=R16.natOk_facts hk;have d2:xs=toL (val xs):=by
   have h5:=q0Q HR.o.lim (n:=n) (fun i hi=>by rw[List.getD_eq_getElem?_getD,List.getElem?_eq_none (by rw[HR.o.len];exact hi)];rfl) (d4.imp id (fun h=>⟨by rw[HR.o.len];exact lr,h⟩));rw[<- h5,<- HR.o.len,List.take_length]
  have a5:∀w',Below w.heap.size w w'->Calls Tryz.prog 32 #[fm ((G0:Int)+1) ((G1:Int)+1),q57 hneg A n c hx,.bool neg,.int .u8 (mode:Int)] w' (q1i (q0f (G0+1) (G1+1) hneg neg mode (val xs*p2 hx) (p2 (-hx))) w'):=by
   intro w' h;obtain⟨g1,g2,g3⟩:=HG.o;have d9:Rd w' A n c (toL (val xs)):=by rw[<- d2];exact HR.o.below h rfl
   rw[d2] at ht;have k:=R5.Dyadic (G0+1) (G1+1) hneg neg mode A n c (val xs) hx w' (by omega) (by omega) (by omega) (by omega) HM.o d9 d3 ht (by omega) (by omega) (c9.o.fs (Fs.of_nil h))
   simpa only[HE.o.1,HE.o.2] using k
  have a6:=vv a5;obtain⟨D,hD⟩:=yx (q0f (G0+1) (G1+1) hneg neg mode (val xs*p2 hx) (p2 (-hx)));rw[<- hD] at a6 HA;clear a5 hD b1 b2 ht hk d3 d4 d2;go_wp2_with fail
  refine(a6.o _ HB.o).mono ?_;rintro e w4 ⟨rfl,a0⟩;have HB:=vn HB a0;clear a0;go_wp2;go_ret3
  rw[HA.o];exact⟨rfl,HB.o⟩
 ·have HA:Hid _:=vv (HO.o.trans ((if_neg (by decide)).trans ((if_neg (by decide)).trans (if_pos rfl))));have b5:=fun w=>R3.Infinite (G0+1) (G1+1) neg w (by have:=HG.o;omega) (by have:=HG.o;omega) (by omega) (by have:=HG.o;omega)
  obtain⟨D,hD⟩:=yx (sgb (G0+1) (G1+1) neg+(2^(G0+1)-1)*2^(G1+1));rw[<- hD] at b5 HA;simp only[HE.o.1,HE.o.2] at b5;have e2:=vv b5;clear b5 hD;go_wp2_with fail
  refine(e2.o _).mono ?_;rintro e w4 ⟨rfl,a0⟩;have HB:=vn HB a0;clear a0;go_wp2;go_ret3
  rw[HA.o];exact⟨rfl,HB.o⟩
 ·have HA:Hid _:=vv (HO.o.trans ((if_neg (by decide)).trans ((if_neg (by decide)).trans (if_neg (by decide)))));have hG:(G1:Int)<=51:=by have:=HG.o;omega
  obtain⟨Q,hQ⟩:∃Q:Nat,Q=R3.tw G1:=⟨_,rfl⟩;have a7:Q<=4611686018427387904:=by rw[hQ];exact Nat.le_trans (R3.tw_le (j:=G1) (k:=62) (by omega)) (by decide)
  have d5:Hid (IntKind.u64.wrap ((2:Int)^G1)=(Q:Int)):=vv (by
   have e:((2:Int)^G1)=(Q:Int):=by rw[hQ];unfold R3.tw;rw[Int.natCast_pow];rfl
   rw[e,IntKind.wrap_u64];omega)
  by_cases hp:R3.tw G1<=p
  ·have dq:decide (IntKind.u64.wrap ((2:Int)^G1)<=(p:Int))=true:=decide_eq_true (by rw[d5.o];rw[<- hQ] at hp;omega);have HA:Hid _:=vv (HA.o.trans (if_pos hp));clear hQ a7 hp;go_wp2;go_ret3
   rw[HA.o];exact⟨rfl,HB.o⟩
  ·have dq:decide (IntKind.u64.wrap ((2:Int)^G1)<=(p:Int))=false:=decide_eq_false (by rw[d5.o];rw[<- hQ] at hp;omega);have HA:Hid _:=vv (HA.o.trans (if_neg hp));have a8:=fun w=>R3.None_ (G0+1) (G1+1) p neg w (by have:=HG.o;omega) (by have:=HG.o;omega) (by omega) (by have:=HG.o;omega) (by rw[Nat.add_sub_cancel];exact Nat.lt_of_not_le hp)
   rw[Nat.add_sub_cancel] at a8;obtain⟨D,hD⟩:=yx (sgb (G0+1) (G1+1) neg+((2^(G0+1)-1)*2^(G1+1)+(2^G1+p)));rw[<- hD] at a8 HA;simp only[HE.o.1,HE.o.2] at a8;have e3:=vv a8;clear a8 hD hQ a7 hp;go_wp2_with fail
   refine(e3.o _).mono ?_;rintro e w4 ⟨rfl,a0⟩;have HB:=vn HB a0;clear a0;go_wp2;go_ret3
   rw[HA.o];exact⟨rfl,HB.o⟩
theorem Number(E F:Int)(kind:Nat)(neg dneg:Bool)(s:ByteArray)(x:Int)(hneg:Bool)(A:Option Addr)(n c:Nat)(xs:List Nat)(hx:Int)(p mode:Nat)(w:World)(hr:Rd w A n c xs)(hst:Std w):
  Calls Tryz.prog 7 #[fm E F,q4Z kind neg dneg s x hneg A n c hx p,.int .u8 (mode:Int)] w (q2J (q1I E F kind neg dneg s x hneg n xs hx p mode) w):=by
 rcases(Bool.eq_false_or_eq_true (R3.formOk E F)).symm with hf|hf
 ·have e:q1I E F kind neg dneg s x hneg n xs hx p mode=(0,0,5):=by unfold q1I;rw[if_pos hf]
  rw[e];exact q2t E F kind neg dneg s x hneg A n c xs hx p mode w hf
 obtain⟨e,f,rfl,rfl,h1,h2,h3,h4⟩:=R3.formOk_nat hf;obtain⟨g,rfl⟩:∃g,e=g+1:=⟨e-1,by omega⟩;obtain⟨k,rfl⟩:∃k,f=k+1:=⟨f-1,by omega⟩;have eg:((g+1:Nat):Int)=(g:Int)+1:=by omega
 have ek:((k+1:Nat):Int)=(k:Int)+1:=by omega
 rw[eg,ek];exact q3x g k kind neg dneg s x hneg A n c xs hx p mode w (by omega) (by omega) (by omega) hr hst
end Go.Proofs.YtcdimmblnbkjjaaGreatDoor.R16
namespace Go.Proofs.YtcdimmblnbkjjaaGreatDoor.R1
open Go Go.RowKit
theorem q7A(A B':Option Addr)(n c d:Nat)(xs:List Nat)(w:World)(ha:Rd w A n c xs)(hb:Rd w B' n d xs):
  Calls Tryz.prog 35 #[.slice A n c,.slice B' n d] w fun e w'=>e=.returned (.int .i64 0)/\Below w.heap.size w w':=by
 have a6:=ha.sm;go_enter Tryz.func35,Tryz.ntmps35
 go_wp2;go_loopw [5] (fun i wr=>∃(z:Int) (k:Nat),i=.int .i64 z/\z+1=k/\k<=n/\Below w.heap.size w wr) (fun i _=>(intOf i+1).toNat)
 case atStart=>exact⟨_,n,rfl,by omega,lr,Below.refl _ _⟩
 case round =>
  obtain⟨z,k,rfl,hz,hk,a1⟩:=hrel;rcases Nat.eq_zero_or_pos k with rfl|a4
  ·obtain rfl:z = -1:=by omega
   clear hz;go_wp2;go_ret
   exact⟨rfl,a1⟩
  ·obtain⟨j,rfl⟩:∃j,k=j+1:=⟨k-1,by omega⟩;obtain rfl:z=(j:Int):=by omega
   clear hz;obtain⟨b,off,rfl,a5,a2⟩:=ha.cell (by omega);have a7:wr.cell? ⟨b,off+j,none⟩=some (.int .u32 ((nth xs j:Nat):Int)):=(a1.cell (p:=⟨b,off+j,none⟩) a5).trans (a2 j (by omega));clear a2;obtain⟨b',off',rfl,a3,a0⟩:=hb.cell (by omega);have a8:wr.cell? ⟨b',off'+j,none⟩=some (.int .u32 ((nth xs j:Nat):Int)):=(a1.cell (p:=⟨b',off'+j,none⟩) a3).trans (a0 j (by omega));clear a0;have i1:(j:Int)<(n:Int):=by omega
   have i2:(0:Int)<=(j:Int):=by omega
   have d1:decide (nth xs j<nth xs j)=false:=by simp
   go_wp2_with fail
   go_quiet (fail)
   go_wp2_with fail
   go_quiet (fail)
   go_wp2;go_roundw
   case rel=>exact⟨_,j,rfl,by omega,by omega,q0q a1 _⟩
   case measure=>simp [intOf]
theorem Same_like(A B':Option Addr)(n c d:Nat)(xs:List Nat)(w:World)(ha:Rd w A n c xs)(hb:Rd w B' n d xs):
  Calls Tryz.prog 8 #[.agg #[.slice A n c],.agg #[.slice B' n d]] w fun e w'=>e=.returned (.bool true)/\Below w.heap.size w w':=by
 have HC:=vv fun w' (h:Below w.heap.size w w')=>q7A A B' n c d xs w' (ha.below h rfl) (hb.below h rfl)
 have hB:=((Below.refl w.heap.size w).alloc (o:=.cells #[.slice A n c] 28) lr).alloc (o:=.cells #[.slice B' n d] 28) (by simp);have HB:=vv hB;clear ha hb hB;go_enter Tryz.func8,Tryz.ntmps8
 go_wp2_with fail
 refine(HC.o _ HB.o).mono ?_;rintro e w1 ⟨rfl,a0⟩;have a1:=vn HB a0;clear a0;go_wp2;go_ret
 exact⟨rfl,a1.o⟩
end Go.Proofs.YtcdimmblnbkjjaaGreatDoor.R1
namespace Go.Proofs.YtcdimmblnbkjjaaGreatDoor.Fms
open Go Go.RowKit R5
theorem q89:∀n:Fin 64,bits .andNot .u64 18446744073709551615 (IntKind.u64.wrap (18446744073709551615*2^n.val))=((R3.tw n.val-1:Nat):Int):=by decide +kernel
theorem q9k(n:Nat)(w:World)(hn:n<=63):
  Calls Tryz.prog 58 #[.int .i64 (n:Int)] w fun e w'=>e=.returned (.int .u64 ((R3.tw n-1:Nat):Int))/\w=w':=by
 have HM:=vv (q89 ⟨n,by omega⟩);go_enter Tryz.func58,Tryz.ntmps58
 go_wp2;go_ret
 exact⟨q0i HM.o,rfl⟩
theorem q8q{b p y:Nat}(hb:b<2^p)(hy:y%2^p=2^p-1):b &&& y=b:=by
 have h1:b &&& y<=b:=Nat.and_le_left;have h2:=Nat.and_mod_two_pow (a:=b) (b:=y) (n:=p);rw[Nat.mod_eq_of_lt (by omega),Nat.mod_eq_of_lt hb,hy,Nat.and_two_pow_sub_one_eq_mod,Nat.mod_eq_of_lt hb] at h2;exact h2
theorem q7v{p m:Nat}(hp:p<=64)(hm:m+1<=2^(64-p)):(18446744073709551615-m*2^p)%2^p=2^p-1:=by
 have e:(18446744073709551616:Nat)=2^(64-p)*2^p:=by rw[<- Nat.pow_add,show 64-p+p=64 by omega]
 obtain⟨q,hq⟩:∃q,2^(64-p)=m+1+q:=⟨2^(64-p)-(m+1),by omega⟩;have a0:=Nat.two_pow_pos p;rw[hq] at e;have e2:(m+1+q)*2^p=m*2^p+(q*2^p+2^p):=by rw[Nat.add_mul,Nat.add_mul,Nat.one_mul];omega
 rw[e2] at e;have e3:18446744073709551615-m*2^p=2^p-1+q*2^p:=by omega
 rw[e3,Nat.add_mul_mod_self_right,Nat.mod_eq_of_lt (by omega)]
theorem put(p sz b v:Nat)(w:World)(hs:sz<=63)(hp:p+sz<=64)(h1:1<=sz)(hb:b<2^p)(hv:v<2^sz):
  Calls Tryz.prog 99 #[.agg #[.int .i64 (p:Int),.int .i64 (sz:Int)],.int .u64 (b:Int),.int .u64 (v:Int)] w fun e w'=>e=.returned (.int .u64 ((b+v*2^p:Nat):Int))/\Below w.heap.size w w':=by
 have HM:=vv fun w=>q9k sz w hs
 obtain⟨M,hM⟩:=yx (R3.tw sz-1);rw[<- hM] at HM;have a9:M+1=2^sz:=by have:=R3.tw_pos sz;unfold R3.tw at *;omega
 have b0:2^sz<=2^(64-p):=Nat.pow_le_pow_right (by omega) (by omega);have e64:(18446744073709551616:Nat)=2^(64-p)*2^p:=by rw[<- Nat.pow_add,show 64-p+p=64 by omega]
 have a5:(M+1)*2^p<=18446744073709551616:=by rw[e64];exact Nat.mul_le_mul_right _ (by omega)
 have a6:(v+1)*2^p<=18446744073709551616:=by rw[e64];exact Nat.mul_le_mul_right _ (by omega)
 rw[Nat.add_mul,Nat.one_mul] at a5 a6;have a1:=Nat.two_pow_pos p;have b1:=vv (q1L M p (by omega));have b2:=vv (q1L v p (by omega));have HA:Hid (bits .andNot .u64 (b:Int) ((M:Int)*2^p)=(b:Int)):=vv (by
  have e:(M:Int)*2^p=((M*2^p:Nat):Int):=by rw[Int.natCast_mul,Int.natCast_pow];rfl
  rw[e,u64_andNot_nat _ _ (by omega) (by omega),q8q hb (q7v (by omega) (by omega))])
 have HO:Hid (bits .or .u64 (b:Int) ((v*2^p:Nat):Int)=((b+v*2^p:Nat):Int)):=vv (by
  rw[u64_or_nat _ _ (by omega) (by omega),Nat.or_comm,Nat.mul_comm v,<- Nat.two_pow_add_eq_or_of_lt hb,Nat.add_comm])
 have b3:(p:Int)<=63:=by omega
 have a2:=(Below.refl w.heap.size w).alloc (o:=.cells #[.int .i64 (p:Int),.int .i64 (sz:Int)] 151) lr;obtain⟨w1,a0⟩:=yx (w.alloc (.cells #[.int .i64 (p:Int),.int .i64 (sz:Int)] 151));have k0:w1.cell? ⟨w.heap.size,0,none⟩=some (.int .i64 (p:Int)):=by rw[a0];simp only[World.cell?];rw[heap_alloc_new];rfl
 have k1:w1.cell? ⟨w.heap.size,1,none⟩=some (.int .i64 (sz:Int)):=by rw[a0];simp only[World.cell?];rw[heap_alloc_new];rfl
 have kl:w.heap.size<w1.heap.size:=by rw[a0];simp
 have a3:=vv k0;have a4:=vv k1;rw[<- a0] at a2;have HB:=vv a2;have HW:=vv a0;clear hs hp h1 hb hv hM a9 b0 e64 a5 a6 a1 a2 a0 k0 k1;go_enter Tryz.func99,Tryz.ntmps99
 go_wp2_with fail
 rw[<- HW.o];refine q02 (fun w'=>w'.cell? ⟨w.heap.size,0,none⟩=some (.int .i64 (p:Int))/\w'.cell? ⟨w.heap.size,1,none⟩=some (.int .i64 (sz:Int))) 8
  (.still 0 (.still 1 (.still 2 (.still 4 (.still 5 (.one 3 (.still 6 (.still 7 .done)))))))) (by kernel_rfl) (by kernel_rfl) (fun _ _ d _ _ h=>by cases d<;>exact h) ⟨a3.o,a4.o⟩ (fun hS0=>?_)
 iterate 5
  refine q00 (v:=?_) rfl (by rfl) ?_ ?_;rotate_left
  ·intro w a7;go_simp;with_reducible rfl
  simp only[Act.put,sa,sb,sc]
 refine q03 rfl (by rfl) (fun K hK=>?_);go_simp;refine(HM.o _).mono ?_;rintro e w' ⟨rfl,rfl⟩;go_wp2_with fail
 refine hK.out _ _ ⟨a3.o,a4.o⟩ (fun a8=>?_);clear hK
 iterate 1
  refine q00 (v:=?_) rfl (by rfl) ?_ ?_;rotate_left
  ·intro w a7;go_simp;with_reducible rfl
  simp only[Act.put,sa,sb,sc]
 rw[b1.o]
 iterate 1
  refine q00 (v:=?_) rfl (by rfl) ?_ ?_;rotate_left
  ·intro w a7;go_simp;with_reducible rfl
  simp only[Act.put,sa,sb,sc]
 rw[HA.o];refine q0a ?_;have k0:=a3.o;have k1:=a4.o;go_wp2;go_ret
 exact⟨q0i (by rw[b2.o,HO.o]),q04 HB.o⟩
abbrev q9t(E F:Int):Value:=.agg #[.int .i64 0,.int .i64 F,.int .i64 F,.int .i64 E,.int .i64 (F+E),.int .i64 1]
structure LayBox(w:World)(g:Nat)(E F:Int):Prop where
 c0:w.cell? ⟨g,0,none⟩=some (.int .i64 0)
 c1:w.cell? ⟨g,1,none⟩=some (.int .i64 F)
 c2:w.cell? ⟨g,2,none⟩=some (.int .i64 F)
 c3:w.cell? ⟨g,3,none⟩=some (.int .i64 E)
 c4:w.cell? ⟨g,4,none⟩=some (.int .i64 (F+E))
 c5:w.cell? ⟨g,5,none⟩=some (.int .i64 1)
 lt:g<w.heap.size
theorem LayBox.made(w:World)(E F:Int)(t:TypeId):LayBox (w.alloc (.cells #[.int .i64 0,.int .i64 F,.int .i64 F,.int .i64 E,.int .i64 (F+E),.int .i64 1] t)) w.heap.size E F:=by
 constructor<;>first|(simp only[World.cell?];rw[heap_alloc_new];rfl)|simp
theorem LayBox.below{w w':World}{g:Nat}{E F:Int}(h:LayBox w g E F)(hb:Below w.heap.size w w'):LayBox w' g E F:=
 ⟨(hb.cell (p:=⟨g,0,none⟩) h.lt).trans h.c0,(hb.cell (p:=⟨g,1,none⟩) h.lt).trans h.c1,(hb.cell (p:=⟨g,2,none⟩) h.lt).trans h.c2,(hb.cell (p:=⟨g,3,none⟩) h.lt).trans h.c3,(hb.cell (p:=⟨g,4,none⟩) h.lt).trans h.c4,(hb.cell (p:=⟨g,5,none⟩) h.lt).trans h.c5,Nat.lt_of_lt_of_le h.lt hb.size⟩
theorem q8Z(E F:Nat)(w:World)(h2:E<=11)(h4:F<=52):
  Calls Tryz.prog 98 #[fm E F] w fun e w'=>e=.returned (q9t E F)/\Below w.heap.size w w':=by
 have a0:(E:Int)<=11:=by omega
 have a1:(F:Int)<=52:=by omega
 clear h2 h4;go_enter Tryz.func98,Tryz.ntmps98
 go_wp2;exact bodyPost_ret (v:=q9t E F) (by simp [results,Tryz.results98,go_sem]) rfl ⟨rfl,((Below.refl _ _).alloc lr _).alloc (by simp) _⟩
theorem q9u(E F x f:Nat)(neg:Bool)(w:World)(h1:2<=E)(h2:E<=11)(h3:1<=F)(h4:F<=52)(hx:x<2^E)(hf:f<2^F):
  Calls Tryz.prog 59 #[fm E F,.bool neg,.int .u64 (x:Int),.int .u64 (f:Int)] w fun e w'=>e=.returned (.int .u64 ((sgb E F neg+(x*2^F+f):Nat):Int))/\Below w.heap.size w w':=by
 have HL:=vv fun w=>q8Z E F w h2 h4
 have a7:=vv fun w=>put 0 F 0 f w (by omega) (by omega) (by omega) (Nat.two_pow_pos 0) hf
 have a8:=vv fun w=>put F E f x w (by omega) (by omega) (by omega) hf hx
 have hb:x*2^F+f<2^(F+E):=by
  have:(x+1)*2^F<=2^E*2^F:=Nat.mul_le_mul_right _ hx;rw[Nat.pow_add,Nat.mul_comm (2^F)];rw[Nat.add_mul,Nat.one_mul] at this;omega
 have a4:=fun w=>put (F+E) 1 (x*2^F+f) 1 w (by omega) (by omega) (by omega) hb (by omega)
 obtain⟨V,hV⟩:=yx (x*2^F+f);have e1:f+x*2^F=V:=by rw[hV,Nat.add_comm]
 have e0:0+f*2^0=f:=by omega
 have ec:((F+E:Nat):Int)=(F:Int)+(E:Int):=by omega
 obtain⟨W,hW⟩:=yx (V+1*2^(F+E));simp only[e0] at a7;simp only[e1] at a8;simp only[<- hV,<- hW,ec] at a4;have a4:=vv a4;rw[<- hV];have a3:Hid (sgb E F neg+V=if neg then W else V):=vv (by unfold sgb;cases neg<;>simp [hW];rw[Nat.add_comm E F,Nat.add_comm]);obtain⟨w0,a5⟩:=yx (w.alloc (.cells #[.int .i64 (E:Int),.int .i64 (F:Int)] 23));have a9:Below w.heap.size w w0:=by rw[a5];exact(Below.refl _ w).alloc lr _
 have HB:=vv a9;have b3:=vv a5;clear h1 h2 h3 h4 hx hf hb hV e1 e0 ec hW a5 a9;go_enter Tryz.func59,Tryz.ntmps59
 go_wp2_with fail
 rw[<- b3.o];refine(HL.o _).mono ?_;rintro e w1 ⟨rfl,b0⟩;have HB:=vn HB b0;clear b0;go_wp2_with fail
 have o2:=(Below.refl w1.heap.size w1).alloc (o:=.cells #[.int .i64 0,.int .i64 (F:Int),.int .i64 (F:Int),.int .i64 (E:Int),.int .i64 ((F:Int)+(E:Int)),.int .i64 1] 152) lr;have hL:=LayBox.made w1 (E:Int) (F:Int) 152;obtain⟨w2,b1⟩:=yx (w1.alloc (.cells #[.int .i64 0,.int .i64 (F:Int),.int .i64 (F:Int),.int .i64 (E:Int),.int .i64 ((F:Int)+(E:Int)),.int .i64 1] 152));rw[<- b1] at o2 hL ⊢;have a0:=vv hL;have HB:=vn HB o2;clear o2 hL b1;refine q02 (fun w'=>w'.cell? ⟨w1.heap.size,0,none⟩=some (.int .i64 0)/\w'.cell? ⟨w1.heap.size,1,none⟩=some (.int .i64 (F:Int))/\w'.cell? ⟨w1.heap.size,2,none⟩=some (.int .i64 (F:Int))/\w'.cell? ⟨w1.heap.size,3,none⟩=some (.int .i64 (E:Int))) 8
  (.still 0 (.still 1 (.still 2 (.still 3 (.still 4 (.still 6 (.one 5 (.one 7 .done)))))))) (by kernel_rfl) (by kernel_rfl) (fun _ _ d _ _ h=>by cases d<;>exact h) ⟨a0.o.c0,a0.o.c1,a0.o.c2,a0.o.c3⟩ (fun hS0=>?_)
 iterate 6
  refine q00 (v:=?_) rfl (by rfl) ?_ ?_;rotate_left
  ·intro w b4;go_simp;with_reducible rfl
  simp only[Act.put,sa,sb,sc]
 refine q03 rfl (by rfl) (fun K hK=>?_);go_simp;refine(a7.o _).mono ?_;rintro e w3 ⟨rfl,a1⟩;have a1:Below w2.heap.size w2 w3:=⟨a1.os,a1.tape,a1.output,a1.size,a1.block⟩;have a0:=vv (a0.o.below a1);have HB:=vn HB a1;clear a1;go_wp2_with fail
 refine hK.out _ _ ⟨a0.o.c0,a0.o.c1,a0.o.c2,a0.o.c3⟩ (fun a2=>?_);clear hK;refine q03 rfl (by rfl) (fun K hK=>?_);go_simp;refine(a8.o _).mono ?_;rintro e w4 ⟨rfl,a6⟩;have a0:=vv (a0.o.below a6);have HB:=vn HB a6;clear a6;go_wp2_with fail
 refine hK.out _ _ ⟨a0.o.c0,a0.o.c1,a0.o.c2,a0.o.c3⟩ (fun a2=>?_);clear hK;refine q0a ?_;clear a2 hS0;have c4:=a0.o.c4;have c5:=a0.o.c5;have cl:=a0.o.lt;cases neg
 ·go_wp2;go_ret
  exact⟨q0i (by rw[a3.o];rfl),HB.o⟩
 ·go_wp2_with fail
  refine(a4.o _).mono ?_;rintro e w5 ⟨rfl,b2⟩;have HB:=vn HB b2;clear b2;go_wp2;go_ret
  exact⟨q0i (by rw[a3.o];rfl),HB.o⟩
end Go.Proofs.YtcdimmblnbkjjaaGreatDoor.Fms
