/- Lemmas. -/
import Derived.Test.YtppgcnhlpnmieaaGreatDoorPartAK
import Derived.Test.YtppgcnhlpnmieaaGreatDoorPartAI
import Derived.Test.YtppgcnhlpnmieaaGreatDoorPartAJ
set_option linter.all false
set_option maxRecDepth 100000
namespace Go.Proofs.YtppgcnhlpnmieaaGreatDoor.B
open Go Go.RowKit
theorem q6j(w:World):Rd (w.alloc (.cells #[.int .u32 1] 34)) (some ⟨w.heap.size,0,none⟩) 1 1 [1]:=
 (Own.lit (t:=34) [1] (q0v.2 ⟨by omega,q0M⟩) rfl).rd rfl lr (by decide)
theorem q6x(h j:Nat):(bits .and .i64 ((h:Int)/2^j) 1==1)=decide (h/2^j%2=1):=by
 rw[q1K];have e:bits .and .i64 ((h/2^j:Nat):Int) 1=((h/2^j%2:Nat):Int):=by
  generalize h/2^j=n;have a0:(BitVec.ofInt 64 1).toNat=2^1-1:=by decide
  have key:(BitVec.ofInt 64 (n:Int) &&& BitVec.ofInt 64 1).toNat=((n:Int)%((2^64:Nat):Int)).toNat%2^1:=by
   rw[BitVec.toNat_and,BitVec.toNat_ofInt,a0,Nat.and_two_pow_sub_one_eq_mod]
  show IntKind.i64.wrap ((BitVec.ofInt 64 (n:Int) &&& BitVec.ofInt 64 1).toNat:Nat)=_;rw[key,IntKind.wrap_i64];omega
 rw[e];rcases Nat.mod_two_eq_zero_or_one (h/2^j) with h|h<;>rw[h]<;>rfl
theorem q16(n:Nat)(h:n<=131072){A:Option Addr}{m c:Nat}{w:World}(hr:Rd w A m c (toL (16^n))):m<=16385:=by
 obtain⟨k,hk⟩:=yx (16385);rw[<- hk];refine hr.bound (k:=k) ?_;have e:(4294967296:Nat)^k=2^(32*k):=by rw[Nat.pow_mul]
 have e2:(16:Nat)^n=2^(4*n):=by rw[Nat.pow_mul]
 rw[e,e2];exact Nat.pow_lt_pow_right (by decide) (by omega)
theorem q6c(h j:Nat):16^(h/2^j)=16^(h/2^(j+1))*16^(h/2^(j+1))*16^(h/2^j%2):=by
 have e:=q2v h j;have e2:h/2^j=h/2^(j+1)+h/2^(j+1)+h/2^j%2:=by omega
 conv=>lhs;rw[e2]
 rw[Nat.pow_add,Nat.pow_add]
def qbP(h:Nat)(w:World)(v q:Value)(wr:World):Prop:=
 ∃(k:Nat) (A:Option Addr) (m c:Nat),q=.int .i64 ((k:Int)-1)/\k<=63/\v=.slice A m c/\Rd wr A m c (toL (16^(h/2^k)))/\Fr w.heap.size A/\Below w.heap.size w wr
theorem q7X{A:Option Addr}{m c P:Nat}{w:World}(hR:Rd w A m c (toL P))(hm:m<=20000):Calls Tryz.prog 282 #[.slice A m c,.slice A m c] w (q0c (P*P) w):=by
 have:=q0I A A m m c c _ _ w hR hR (by omega)
 rwa [q00] at this
theorem qcI{A:Option Addr}{m c P:Nat}{w:World}(hR:Rd w A m c (toL P))(hm:m<=20000):
  Calls Tryz.prog 282 #[.slice A m c,.slice (some ⟨w.heap.size,0,none⟩) 1 1] (w.alloc (.cells #[.int .u32 16] 34)) (q0c (P*16) w):=by
 have hb:Below w.heap.size w (w.alloc (.cells #[.int .u32 16] 34)):=(Below.refl _ _).alloc lr _;have h2:Rd (w.alloc (.cells #[.int .u32 16] 34)) (some ⟨w.heap.size,0,none⟩) 1 1 [16]:=(Own.lit (t:=34) [16] (q0v.2 ⟨by omega,q0M⟩) rfl).rd rfl lr (by decide);refine(q0I A _ m 1 c 1 _ _ _ (hR.below hb rfl) h2 (by omega)).mono ?_;rintro e w' ⟨A',m',c',rfl,hr,hf,hB⟩;rw[q00] at hr;exact⟨A',m',c',rfl,hr,hf.mono (by simp),hb.trans (hB.mono (by simp))⟩
set_option maxHeartbeats 4000000 in
theorem q7q(h:Nat)(w:World)(hh:h<=65536):
  Calls Tryz.prog 323 #[.int .i64 16,.int .i64 (h:Int)] w (q0c (16^h) w):=by
 have c7:(h:Int)<=65536:=by omega
 have HE:Hid (∀k,h/2^k<=65536):=vv fun k=>Nat.le_trans (Nat.div_le_self _ _) hh
 have H0:Hid (qbP h w (.slice (some ⟨w.heap.size,0,none⟩) 1 1) (.int .i64 62) (w.alloc (.cells #[.int .u32 1] 34))):=vv (by
  refine⟨63,_,_,_,rfl,by decide,rfl,?_,Fr.at_ lr,(Below.refl _ _).alloc lr _⟩;rw[Nat.div_eq_of_lt (Nat.lt_of_le_of_lt hh (by decide))];exact q6j w)
 go_enter Tryz.func323,Tryz.ntmps323
 go_wp2;go_loopw [5,6] (fun v q wr=>qbP h w v q wr) (fun _ q _=>(intOf q+1).toNat)
 case atStart=>exact H0.o
 case round =>
  obtain⟨k,A,m,c,rfl,hk,rfl,hr,hF,hB⟩:=hrel;have c8:=q16 _ (by have:=HE.o k;omega) hr;have HR:=vv hr;have HF:=vv hF;have HB:=vv hB;rcases Nat.eq_zero_or_pos k with rfl|c9
  ·rw[Nat.pow_zero,Nat.div_one] at HR;clear hr hF hB H0;go_wp2;go_ret
   exact⟨_,_,_,rfl,HR.o,HF.o,HB.o⟩
  ·obtain⟨j,rfl⟩:∃j,k=j+1:=⟨k-1,by omega⟩;have c4:((j+1:Nat):Int)-1=(j:Int):=by omega
   rw[c4];have c5:(j:Int)<=62:=by omega
   have b6:=vv (q6c h j);obtain⟨P,hP⟩:=yx (16^(h/2^(j+1)));rw[<- hP] at HR b6;have b1:0<P:=by rw[hP];exact Nat.pow_pos (by decide)
   have HQ:Hid (∀{A:Option Addr} {m c:Nat} {w:World},Rd w A m c (toL (P*P))->m<=20000):=vv fun hr=>by
    rw[hP,<- Nat.pow_add] at hr;exact Nat.le_trans (q16 _ (by have:=HE.o (j+1);omega) hr) (by decide)
   have HM:Hid (((j:Int)-1+1).toNat<((j:Int)+1).toNat):=vv (by omega);have a0:Hid (∀(A:Option Addr) (m c b:Nat) (wr:World),h/2^j%2=b->Rd wr A m c (toL (P*P*16^b))->Fr w.heap.size A->Below w.heap.size w wr->qbP h w (.slice A m c) (.int .i64 ((j:Int)-1)) wr):=vv fun A m c b wr e hr hF hB=>⟨j,A,m,c,rfl,by omega,rfl,by rw[b6.o,e];exact hr,hF,hB⟩
   have b2:=vv (q6x h j);have b3:0<m:=by
    rcases Nat.eq_zero_or_pos m with e|e
    ·subst e;have:=HR.o.words;rw[q05] at this;omega
    ·exact e
   obtain⟨b,off,rfl,d0,a3⟩:=HR.o.cell b3;have b7:=a3 0 b3;rw[Nat.add_zero] at b7;have a8:(h/2^j%2=0/\(bits .and .i64 ((h:Int)/2^j) 1==1)=false)\/(h/2^j%2=1/\(bits .and .i64 ((h:Int)/2^j) 1==1)=true):=by
    rw[b2.o];rcases Nat.mod_two_eq_zero_or_one (h/2^j) with e|e<;>rw[e]
    ·exact .inl ⟨rfl,rfl⟩
    ·exact .inr ⟨rfl,rfl⟩
   have a9:(P=1/\m=1/\nth (toL P) 0=1)\/(m=1/\1<nth (toL P) 0)\/1<m:=by
    rcases(by omega:1<m\/m=1) with e|e
    ·exact .inr (.inr e)
    ·have hw:=HR.o.words;rw[e] at hw;have hn:nth (toL P) 0=P:=by
      have h1:=q00 P;have h2:(toL P).length=1:=HR.o.len.trans e;obtain⟨x,hx⟩:∃x,toL P=[x]:=List.length_eq_one_iff.1 h2;rw[hx] at h1 ⊢;have:val [x]=x:=by simp [val]
      rw[this] at h1;rw[h1];rfl
     rcases(by omega:P=1\/1<P) with e1|e1
     ·exact .inl ⟨e1,e,hn.trans e1⟩
     ·exact .inr (.inl ⟨e,by omega⟩)
   clear hr hF hB a3 hP H0 b1 b3;have b0:=vv (q7X HR.o (by omega));rcases a9 with ⟨rfl,rfl,hn⟩|⟨rfl,hn⟩|d1
   ·rw[hn] at b7;have b8:Hid (Rd wr (some ⟨b,off,none⟩) 1 c (toL (1*1))):=HR;clear hn;rcases a8 with ⟨a1,b4⟩|⟨a1,b4⟩
    ·have a6:=vv a1;clear a1;go_wp2;go_roundw
     case rel=>exact a0.o _ _ _ 0 _ a6.o b8.o HF.o HB.o
     case measure=>exact HM.o
    ·have a6:=vv a1;have a7:=vv (qcI b8.o (by omega));clear a1;go_wp2_with fail
     refine a7.o.mono ?_;rintro e w1 ⟨A1,m1,c1,rfl,a2,a4,a5⟩;have H1:=vv (a0.o _ _ _ 1 _ a6.o a2 (a4.mono HB.o.size) (HB.o.trans (a5.mono HB.o.size)));clear a2 a4 a5;go_wp2;go_roundw
     case rel=>exact H1.o
     case measure=>exact HM.o
   all_goals
    first
     | (have c6:(1:Int)<((nth (toL P) 0:Nat):Int):=by omega)
     | (have c6:(1:Int)<(m:Int):=by omega)
    rcases a8 with ⟨a1,b4⟩|⟨a1,b4⟩
    ·have a6:=vv a1;clear a1;go_wp2_with fail
     refine b0.o.mono ?_;rintro e w1 ⟨A1,m1,c1,rfl,a2,a4,a5⟩;have H1:=vv (a0.o _ _ _ 0 _ a6.o (by rw[Nat.pow_zero,Nat.mul_one];exact a2) (a4.mono HB.o.size) (HB.o.trans (a5.mono HB.o.size)));clear a2 a4 a5;go_wp2;go_roundw
     case rel=>exact H1.o
     case measure=>exact HM.o
    ·have a6:=vv a1;clear a1;go_wp2_with fail
     refine b0.o.mono ?_;rintro e w1 ⟨A1,m1,c1,rfl,a2,a4,a5⟩;have d2:=vv (a4.mono HB.o.size);have b5:=vn HB a5;have a7:=vv (qcI a2 (HQ.o a2));clear a2 a4 a5;go_wp2_with fail
     refine a7.o.mono ?_;rintro e w2 ⟨A2,m2,c2,rfl,b9,c0,c3⟩;have H1:=vv (a0.o _ _ _ 1 _ a6.o b9 (c0.mono b5.o.size) (b5.o.trans (c3.mono b5.o.size)));clear b9 c0 c3;go_wp2;go_roundw
     case rel=>exact H1.o
     case measure=>exact HM.o
end Go.Proofs.YtppgcnhlpnmieaaGreatDoor.B
