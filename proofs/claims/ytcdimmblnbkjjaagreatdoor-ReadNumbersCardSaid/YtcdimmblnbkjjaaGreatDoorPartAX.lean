/- Lemmas. -/
import Derived.Test.YtcdimmblnbkjjaaGreatDoorPartAW
set_option linter.all false
set_option maxHeartbeats 40000000
namespace Go.Proofs.YtcdimmblnbkjjaaGreatDoor.Fms
open Go Go.RowKit R5
theorem Check(E F:Int)(w:World):
  Calls Tryz.prog 24 #[fm E F] w fun e w'=>e=.returned (.int .i64 (R3.chk E F))/\Below w.heap.size w w':=by
 by_cases h1:E<2
 ·have HV:Hid (R3.formOk E F=false):=vv (by unfold R3.formOk;rw[decide_eq_false (p:=2<=E) (by omega)];rfl);have d1:decide (E<2)=true:=decide_eq_true h1;clear h1;go_enter Tryz.func24,Tryz.ntmps24
  go_wp2;go_ret
  exact⟨q0i (R3.chk_no HV.o).symm,(Below.refl _ _).alloc lr _⟩
 have d1:decide (E<2)=false:=decide_eq_false h1;by_cases h2:11<E
 ·have HV:Hid (R3.formOk E F=false):=vv (by unfold R3.formOk;rw[decide_eq_false (p:=E<=11) (by omega)];simp);have d2:decide (11<E)=true:=decide_eq_true h2;clear h1 h2;go_enter Tryz.func24,Tryz.ntmps24
  go_wp2;go_ret
  exact⟨q0i (R3.chk_no HV.o).symm,(Below.refl _ _).alloc lr _⟩
 have d2:decide (11<E)=false:=decide_eq_false h2;by_cases h3:F<1
 ·have HV:Hid (R3.formOk E F=false):=vv (by unfold R3.formOk;rw[decide_eq_false (p:=1<=F) (by omega)];simp);have d3:decide (F<1)=true:=decide_eq_true h3;clear h1 h2 h3;go_enter Tryz.func24,Tryz.ntmps24
  go_wp2;go_ret
  exact⟨q0i (R3.chk_no HV.o).symm,(Below.refl _ _).alloc lr _⟩
 have d3:decide (F<1)=false:=decide_eq_false h3;by_cases h4:52<F
 ·have HV:Hid (R3.formOk E F=false):=vv (by unfold R3.formOk;rw[decide_eq_false (p:=F<=52) (by omega)];simp);have d4:decide (52<F)=true:=decide_eq_true h4;clear h1 h2 h3 h4;go_enter Tryz.func24,Tryz.ntmps24
  go_wp2;go_ret
  exact⟨q0i (R3.chk_no HV.o).symm,(Below.refl _ _).alloc lr _⟩
 have d4:decide (52<F)=false:=decide_eq_false h4;have HV:Hid (R3.formOk E F=true):=vv (by unfold R3.formOk;rw[decide_eq_true (p:=2<=E) (by omega),decide_eq_true (p:=E<=11) (by omega),decide_eq_true (p:=1<=F) (by omega),decide_eq_true (p:=F<=52) (by omega)];rfl);clear h1 h2 h3 h4;go_enter Tryz.func24,Tryz.ntmps24
 go_wp2;go_ret
 exact⟨q0i (R3.chk_ok HV.o).symm,(Below.refl _ _).alloc lr _⟩
theorem formOk_in{E F:Nat}(h1:2<=E)(h2:E<=11)(h3:1<=F)(h4:F<=52):R3.formOk (E:Int) (F:Int)=true:=by
 unfold R3.formOk;rw[decide_eq_true (p:=(2:Int)<=E) (by omega),decide_eq_true (p:=(E:Int)<=11) (by omega),decide_eq_true (p:=(1:Int)<=F) (by omega),decide_eq_true (p:=(F:Int)<=52) (by omega)];rfl
theorem q9G(g E F:Nat)(w:World)(h2:E<=11)(hf:FmAt w g E F):
  Calls Tryz.prog 57 #[.pointer (some ⟨g,0,none⟩)] w fun e w'=>e=.returned (.tuple #[.int .u64 ((R3.tw E-1:Nat):Int),.int .u64 0])/\w=w':=by
 have HM:=vv fun w=>q9k E w (by omega)
 obtain⟨M,hM⟩:=yx (R3.tw E-1);rw[<- hM] at HM ⊢;have f0:=hf.c0;have fl:=hf.lt;clear hM h2 hf;go_enter Tryz.func57,Tryz.ntmps57
 go_wp2_with fail
 refine(HM.o _).mono ?_;rintro e w' ⟨rfl,rfl⟩;go_wp2;go_ret2
 exact⟨rfl,rfl⟩
theorem q7t(g E F:Nat)(neg:Bool)(w:World)(h1:2<=E)(h2:E<=11)(h3:1<=F)(h4:F<=52)(hf:FmAt w g E F):
  Calls Tryz.prog 56 #[fm E F,.bool neg,.func (.func 57) #[] #[.pointer (some ⟨g,0,none⟩)]] w fun e w'=>e=.returned (.tuple #[.int .u64 ((sgb E F neg+((2^E-1)*2^F):Nat):Int),.int .i64 0])/\Below w.heap.size w w':=by
 have a5:=vv fun w=>Check (E:Int) (F:Int) w
 rw[R3.chk_ok (formOk_in h1 h2 h3 h4)] at a5;have HI:=vv fun w (hf:FmAt w g E F)=>q9G g E F w h2 hf
 obtain⟨M,hM⟩:=yx (R3.tw E-1);have HJ:=vv fun w=>q9u E F M 0 neg w h1 h2 h3 h4 (by have:=R3.tw_pos E;unfold R3.tw at *;omega) (Nat.two_pow_pos _)
 have e:M*2^F+0=(2^E-1)*2^F:=by rw[hM];rfl
 rw[e] at HJ;rw[<- hM] at HI;obtain⟨O,hO⟩:=yx (sgb E F neg+(2^E-1)*2^F);rw[<- hO] at HJ ⊢;have a1:=(Below.refl w.heap.size w).alloc (o:=.cells #[.int .i64 (E:Int),.int .i64 (F:Int)] 23) lr;have a0:=FmAt.made w (E:Int) (F:Int) 23;obtain⟨w0,a3⟩:=yx (w.alloc (.cells #[.int .i64 (E:Int),.int .i64 (F:Int)] 23));rw[<- a3] at a1 a0;have a4:=vv (hf.below a1);have HF:=vv a0;have HB:=vv a1;have a7:=vv a3;have f0:=a0.c0;have f1:=a0.c1;have fl:=a0.lt;clear hM hO hf a3 a1 a0 e h1 h2 h3 h4;go_enter Tryz.func56,Tryz.ntmps56
 go_wp2_with fail
 rw[<- a7.o];refine(a5.o _).mono ?_;rintro e w1 ⟨rfl,a2⟩;have a4:=vv (a4.o.below a2);have HF:=vv (HF.o.below a2);have HB:=vn HB a2;obtain⟨f0,f1,fl⟩:=HF.o;clear a2;go_wp2_with fail
 refine(HI.o _ a4.o).mono ?_;rintro e w' ⟨rfl,rfl⟩;go_wp2_with fail
 refine(HJ.o _).mono ?_;rintro e w2 ⟨rfl,a6⟩;have HB:=vn HB a6;clear a6;go_wp2;go_ret2
 exact⟨rfl,HB.o⟩
theorem Inf(E F:Nat)(neg:Bool)(w:World)(h1:2<=E)(h2:E<=11)(h3:1<=F)(h4:F<=52):
  Calls Tryz.prog 28 #[fm E F,.bool neg] w fun e w'=>e=.returned (.tuple #[.int .u64 ((sgb E F neg+((2^E-1)*2^F):Nat):Int),.int .i64 0])/\Below w.heap.size w w':=by
 have HK:=vv fun w' (hf:FmAt w' w.heap.size E F)=>q7t w.heap.size E F neg w' h1 h2 h3 h4 hf
 obtain⟨O,hO⟩:=yx (sgb E F neg+(2^E-1)*2^F);rw[<- hO] at HK ⊢;clear hO h1 h2 h3 h4;go_enter Tryz.func28,Tryz.ntmps28
 go_wp2_with fail
 refine(HK.o _ (FmAt.made w _ _ _)).mono ?_;rintro e w1 ⟨rfl,a0⟩;have HB:Hid (Below w.heap.size w w1):=vv (((Below.refl _ w).alloc lr _).trans (a0.mono (by simp)));clear a0;go_wp2;go_ret2
 exact⟨rfl,HB.o⟩
theorem NaN(E G p:Nat)(neg:Bool)(w:World)(h1:2<=E)(h2:E<=11)(h4:G<=51)(hp:p<R3.tw G):
  Calls Tryz.prog 29 #[fm E ((G:Int)+1),.bool neg,.int .u64 (p:Int)] w fun e w'=>e=.returned (.tuple #[.int .u64 ((sgb E (G+1) neg+((2^E-1)*2^(G+1)+(2^G+p)):Nat):Int),.int .i64 0])/\Below w.heap.size w w':=by
 have ecast:((G+1:Nat):Int)=(G:Int)+1:=by omega
 have a3:=formOk_in (F:=G+1) h1 h2 (by omega) (by omega);rw[ecast] at a3;have a8:=vv fun w=>Check (E:Int) ((G:Int)+1) w
 rw[R3.chk_ok a3] at a8;have HM:=vv fun w=>q9k E w (by omega)
 obtain⟨M,hM⟩:=yx (R3.tw E-1);rw[<- hM] at HM;obtain⟨Q,hQ⟩:∃Q:Nat,Q=R3.tw G:=⟨_,rfl⟩;have a4:Q<=4611686018427387904:=by rw[hQ];exact Nat.le_trans (R3.tw_le (j:=G) (k:=62) (by omega)) (by decide)
 have b0:Q*2=2^(G+1):=by rw[hQ,Nat.pow_succ];rfl
 rw[<- hQ] at hp;have HJ:=fun w=>q9u E (G+1) M (Q+p) neg w h1 h2 (by omega) (by omega) (by have:=R3.tw_pos E;unfold R3.tw at *;omega) (by omega)
 have e:M*2^(G+1)+(Q+p)=(2^E-1)*2^(G+1)+(2^G+p):=by rw[hM,hQ];rfl
 simp only[e,ecast] at HJ;obtain⟨O,hO⟩:=yx (sgb E (G+1) neg+((2^E-1)*2^(G+1)+(2^G+p)));simp only[<- hO] at HJ;have HJ:=vv HJ;rw[<- hO];have a9:Hid (IntKind.u64.wrap ((2:Int)^G)=(Q:Int)):=vv (by
  have e:((2:Int)^G)=(Q:Int):=by rw[hQ];unfold R3.tw;rw[Int.natCast_pow];rfl
  rw[e,IntKind.wrap_u64];omega)
 have dq:decide (IntKind.u64.wrap ((2:Int)^G)<=(p:Int))=false:=decide_eq_false (by rw[a9.o];omega);have b1:Hid (bits .or .u64 (Q:Int) (p:Int)=((Q+p:Nat):Int)):=vv (by
  rw[u64_or_nat _ _ (by omega) (by omega)];have h:=Nat.two_pow_add_eq_or_of_lt (i:=G) (b:=p) (by rw[hQ] at hp;exact hp) 1;rw[Nat.mul_one] at h;have e2:2^G=Q:=hQ.symm;rw[e2] at h;rw[<- h])
 have b4:(G:Int)<=51:=by omega
 have a5:=(Below.refl w.heap.size w).alloc (o:=.cells #[.int .i64 (E:Int),.int .i64 ((G:Int)+1)] 23) lr;have a1:=FmAt.made w (E:Int) ((G:Int)+1) 23;obtain⟨w0,a6⟩:=yx (w.alloc (.cells #[.int .i64 (E:Int),.int .i64 ((G:Int)+1)] 23));rw[<- a6] at a5 a1;have HF:=vv a1;have HB:=vv a5;have b2:=vv a6;have f0:=a1.c0;have f1:=a1.c1;have fl:=a1.lt;clear hM hO a6 a5 a1 e h1 h2 h4 hQ a4 b0 hp ecast a3;go_enter Tryz.func29,Tryz.ntmps29
 go_wp2_with fail
 rw[<- b2.o];refine(a8.o _).mono ?_;rintro e w1 ⟨rfl,a7⟩;have HF:=vv (HF.o.below a7);have HB:=vn HB a7;obtain⟨f0,f1,fl⟩:=HF.o;clear a7;go_wp2_with fail
 rw[a9.o];clear f0 f1 fl;refine q02 (fun w'=>w'.cell? ⟨w.heap.size,0,none⟩=some (.int .i64 (E:Int))/\w'.cell? ⟨w.heap.size,1,none⟩=some (.int .i64 ((G:Int)+1))) 9
  (.still 0 (.still 1 (.still 2 (.still 3 (.still 5 (.still 6 (.still 7 (.one 4 (.one 8 .done))))))))) (by kernel_rfl) (by kernel_rfl) (fun _ _ d _ _ h=>by cases d<;>exact h) ⟨HF.o.c0,HF.o.c1⟩ (fun hS0=>?_)
 iterate 6
  refine q00 (v:=?_) rfl (by rfl) ?_ ?_;rotate_left
  ·intro w b3;go_simp;with_reducible rfl
  simp only[Act.put,sa,sb,sc]
 iterate 1
  refine q00 (v:=?_) rfl (by rfl) ?_ ?_;rotate_left
  ·intro w b3;go_simp;with_reducible rfl
  simp only[Act.put,sa,sb,sc]
 rw[b1.o];refine q03 rfl (by rfl) (fun K hK=>?_);go_simp;refine(HM.o _).mono ?_;rintro e w' ⟨rfl,rfl⟩;go_wp2_with fail
 refine hK.out _ _ ⟨HF.o.c0,HF.o.c1⟩ (fun a2=>?_);clear hK;refine q03 rfl (by rfl) (fun K hK=>?_);go_simp;refine(HJ.o _).mono ?_;rintro e w2 ⟨rfl,a0⟩;have a0:Below w1.heap.size w1 w2:=⟨a0.os,a0.tape,a0.output,a0.size,a0.block⟩;have HF:=vv (HF.o.below a0);have HB:=vn HB a0;clear a0;go_wp2_with fail
 refine hK.out _ _ ⟨HF.o.c0,HF.o.c1⟩ (fun a2=>?_);clear hK;refine q0a ?_;go_wp2;go_ret2
 exact⟨rfl,HB.o⟩
end Go.Proofs.YtcdimmblnbkjjaaGreatDoor.Fms
namespace Go.Proofs.YtcdimmblnbkjjaaGreatDoor.Dec
open Go Go.RowKit R5
theorem q79{c:Nat}(h1:48<=c)(h2:c<=57):decide (9<((c:Int)-48)%256)=false:=decide_eq_false (by omega)
theorem q78{c:Nat}(h:c<256)(h1:¬(48<=c/\c<=57)):decide (9<((c:Int)-48)%256)=true:=decide_eq_true (by omega)
theorem q93(s:ByteArray)(w:World)(hsz:s.size<=65536):
  Calls Tryz.prog 83 #[.string s] w fun e w'=>e=.returned (.bool (q3p s))/\w=w':=by
 have a2:(s.size:Int)<=65536:=by omega
 clear hsz;go_enter Tryz.func83,Tryz.ntmps83
 go_wp2;go_loop [6] (fun t=>∃k:Nat,k<=s.size/\t=.int .i64 k/\(∀j (h:j<s.size),j<k->48<=s[j].toNat/\s[j].toNat<=57)) (fun t=>s.size-(intOf t).toNat)
 case atStart=>exact⟨0,Nat.zero_le _,rfl,fun j _ h=>absurd h (by omega)⟩
 case round =>
  obtain⟨k,hk,rfl,a0⟩:=hrel;have HA:=vv a0;clear a0;by_cases hks:k<s.size
  ·by_cases hd:48<=s[k].toNat/\s[k].toNat<=57
   ·have HD:=vv hd;have d:=q79 hd.1 hd.2;clear hd;go_wp2;go_round
    case rel =>
     refine⟨k+1,by omega,by go_num,fun j h hj=>?_⟩;rcases(by omega:j<k\/j=k) with h|rfl
     ·exact HA.o j _ h
     ·exact HD.o
    case measure=>simp [intOf];omega
   ·have HF:=vv (q3o hks hd);have d:=q78 (UInt8.toNat_lt _) hd;clear hd;go_wp2;go_ret
    exact⟨q1K HF.o.symm,rfl⟩
  ·have a1:k=s.size:=by omega
   subst a1;have HT:Hid (q3p s=true):=vv (q2c.2 (fun j h=>HA.o j h h));clear hk hks;go_wp2;go_ret
   exact⟨q1K HT.o.symm,rfl⟩
def farB(x:Int):Bool:=decide (x < -1073741824) || decide (1073741824<x)
theorem far(x:Int)(w:World):
  Calls Tryz.prog 84 #[.int .i64 x] w fun e w'=>e=.returned (.bool (farB x))/\w=w':=by
 by_cases h1:x < -1073741824
 ·have HF:Hid (farB x=true):=vv (by unfold farB;rw[decide_eq_true h1];rfl);have d1:decide (x < -1073741824)=true:=decide_eq_true h1;clear h1;go_enter Tryz.func84,Tryz.ntmps84
  go_wp2;go_ret
  exact⟨q1K HF.o.symm,rfl⟩
 ·have HF:Hid (farB x=decide (1073741824<x)):=vv (by unfold farB;rw[decide_eq_false h1];rfl);have d1:decide (x < -1073741824)=false:=decide_eq_false h1;clear h1;go_enter Tryz.func84,Tryz.ntmps84
  go_wp2;go_ret
  exact⟨q1K HF.o.symm,rfl⟩
def decErr(s:ByteArray)(x:Int):Int:=if 65536<s.size then 4 else if q0x s x then 0 else 100
theorem decErr_zero(s:ByteArray)(x:Int):(decErr s x==0)=q0x s x:=by
 unfold decErr;by_cases h:65536<s.size
 ·rw[if_pos h];unfold q0x;rw[decide_eq_false (p:=s.size<=65536) (by omega)];simp
 ·rw[if_neg h];cases q0x s x<;>rfl
theorem q4L{s:ByteArray}{x:Int}(h:s.size<=65536)(hd:q0x s x=false):decErr s x=100:=by
 unfold decErr;rw[if_neg (by omega),hd];rfl
theorem q3O{s:ByteArray}{x:Int}(h:s.size<=65536)(hd:q0x s x=true):decErr s x=0:=by
 unfold decErr;rw[if_neg (by omega),hd];rfl
theorem q5U{s:ByteArray}{x:Int}(h:s.size<=65536)(h0:0<s.size):q0x s x=(q3p s && !decide (q1v s 0=48) && !decide (q1v s (s.size-1)=48) && !farB x):=by
 unfold q0x farB;rw[decide_eq_true h,if_neg (by omega)];by_cases h1:x < -1073741824
 ·rw[decide_eq_true h1,decide_eq_false (p:=-1073741824<=x) (by omega)];simp
 ·rw[decide_eq_false h1,decide_eq_true (p:=-1073741824<=x) (by omega)];by_cases h2:1073741824<x
  ·rw[decide_eq_true h2,decide_eq_false (p:=x<=1073741824) (by omega)];simp
  ·rw[decide_eq_false h2,decide_eq_true (p:=x<=1073741824) (by omega)];simp
theorem q64(neg:Bool)(s:ByteArray)(x:Int)(w:World)(h:65536<s.size)(hmax:(s.size:Int)<=4611686018427387904):
  Calls Tryz.prog 45 #[q5D neg s x] w fun e w'=>e=.returned (.int .i64 (decErr s x))/\Below w.heap.size w w':=by
 have HV:Hid (decErr s x=4):=vv (by unfold decErr;rw[if_pos h]);have d1:decide ((65536:Int)<(s.size:Int))=true:=decide_eq_true (by omega);clear h;go_enter Tryz.func45,Tryz.ntmps45
 go_wp2;go_ret
 exact⟨q0i HV.o.symm,(Below.refl _ _).alloc lr _⟩
theorem q63(neg:Bool)(x:Int)(w:World):
  Calls Tryz.prog 45 #[q5D neg ⟨#[]⟩ x] w fun e w'=>e=.returned (.int .i64 (decErr ⟨#[]⟩ x))/\Below w.heap.size w w':=by
 have hV:q0x ⟨#[]⟩ x=(x==0):=by
  unfold q0x;by_cases h:x=0
  ·subst h;rfl
  ·have e:(x==0)=false:=by rw[beq_eq_false_iff_ne];exact h
   rw[e,if_pos (by rfl),decide_eq_false h];simp
 cases t:(x==0)
 ·rw[t] at hV;have HV:=vv (q4L (s:=⟨#[]⟩) (x:=x) (by decide) hV);clear hV;go_enter Tryz.func45,Tryz.ntmps45
  go_wp2;go_ret
  exact⟨q0i HV.o.symm,(Below.refl _ _).alloc lr _⟩
 ·rw[t] at hV;have HV:=vv (q3O (s:=⟨#[]⟩) (x:=x) (by decide) hV);clear hV;go_enter Tryz.func45,Tryz.ntmps45
  go_wp2;go_ret
  exact⟨q0i HV.o.symm,(Below.refl _ _).alloc lr _⟩
theorem q62(neg:Bool)(s:ByteArray)(x:Int)(w:World)(h:s.size<=65536)(h0:0<s.size):
  Calls Tryz.prog 45 #[q5D neg s x] w fun e w'=>e=.returned (.int .i64 (decErr s x))/\Below w.heap.size w w':=by
 have hV:=q5U (x:=x) h h0;have d1:decide ((65536:Int)<(s.size:Int))=false:=decide_eq_false (by omega);have d2:((s.size:Int)==0)=false:=by rw[beq_eq_false_iff_ne];omega
 have a8:(s.size:Int)<=65536:=by omega
 have a0:=vv fun w=>q93 s w h
 have a3:=vv fun(hd:q0x s x=false)=>q4L h hd
 have a5:=vv fun(hd:q0x s x=true)=>q3O h hd
 have a6:=(Below.refl w.heap.size w).alloc (o:=.cells #[.bool neg,.string s,.int .i64 x] 25) lr;have a1:=DecBox.made w neg s x 25;obtain⟨w0,a7⟩:=yx (w.alloc (.cells #[.bool neg,.string s,.int .i64 x] 25));rw[<- a7] at a6 a1;have HB:=vv a6;have a2:=vv a7;have k1:=a1.c1;have k2:=a1.c2;have kl:=a1.lt;have a9:s.size-1<s.size:=by omega
 rw[q25 h0,q25 a9] at hV;have HV:=vv hV;clear a7 a6 a1 h hV;cases hdg:q3p s
 ·rw[hdg] at a0;have HE:=vv (a3.o (by rw[HV.o,hdg];rfl));clear hdg;go_enter Tryz.func45,Tryz.ntmps45
  go_wp2_with fail
  rw[<- a2.o];go_wp2_with fail
  refine(a0.o _).mono ?_;rintro e w' ⟨rfl,rfl⟩;go_wp2;go_ret
  exact⟨q0i HE.o.symm,HB.o⟩
 rw[hdg] at a0;by_cases e0:s[0].toNat=48
 ·have HE:=vv (a3.o (by rw[HV.o,decide_eq_true e0];simp));clear hdg;go_enter Tryz.func45,Tryz.ntmps45
  go_wp2_with fail
  rw[<- a2.o];go_wp2_with fail
  refine(a0.o _).mono ?_;rintro e w' ⟨rfl,rfl⟩;go_wp2;go_ret
  exact⟨q0i HE.o.symm,HB.o⟩
 have t0:((s[0].toNat:Int)==48)=false:=by rw[beq_eq_false_iff_ne];omega
 by_cases e1:s[s.size-1].toNat=48
 ·have HE:=vv (a3.o (by rw[HV.o,decide_eq_true e1];simp));have t1:((s[s.size-1].toNat:Int)==48)=true:=by rw[e1];rfl
  clear hdg e0 e1;go_enter Tryz.func45,Tryz.ntmps45
  go_wp2_with fail
  rw[<- a2.o];go_wp2_with fail
  refine(a0.o _).mono ?_;rintro e w' ⟨rfl,rfl⟩;go_wp2;go_ret
  exact⟨q0i HE.o.symm,HB.o⟩
 have t1:((s[s.size-1].toNat:Int)==48)=false:=by rw[beq_eq_false_iff_ne];omega
 have a4:=vv fun w=>far x w
 cases hf:farB x
 ·rw[hf] at a4;have HE:=vv (a5.o (by rw[HV.o,hdg,hf,decide_eq_false e0,decide_eq_false e1];rfl));clear hdg hf e0 e1;go_enter Tryz.func45,Tryz.ntmps45
  go_wp2_with fail
  rw[<- a2.o];go_wp2_with fail
  refine(a0.o _).mono ?_;rintro e w' ⟨rfl,rfl⟩;go_wp2_with fail
  refine(a4.o _).mono ?_;rintro e w' ⟨rfl,rfl⟩;go_wp2;go_ret
  exact⟨q0i HE.o.symm,HB.o⟩
 ·rw[hf] at a4;have HE:=vv (a3.o (by rw[HV.o,hf];simp));clear hdg hf e0 e1;go_enter Tryz.func45,Tryz.ntmps45
  go_wp2_with fail
  rw[<- a2.o];go_wp2_with fail
  refine(a0.o _).mono ?_;rintro e w' ⟨rfl,rfl⟩;go_wp2_with fail
  refine(a4.o _).mono ?_;rintro e w' ⟨rfl,rfl⟩;go_wp2;go_ret
  exact⟨q0i HE.o.symm,HB.o⟩
theorem Check(neg:Bool)(s:ByteArray)(x:Int)(w:World)(hmax:(s.size:Int)<=4611686018427387904):
  Calls Tryz.prog 45 #[q5D neg s x] w fun e w'=>e=.returned (.int .i64 (decErr s x))/\Below w.heap.size w w':=by
 by_cases h:s.size<=65536
 ·by_cases h0:0<s.size
  ·exact q62 neg s x w h h0
  ·have e:s=⟨#[]⟩:=R16.bytes_none (by omega);rw[e];exact q63 neg x w
 ·exact q64 neg s x w (by omega) hmax
end Go.Proofs.YtcdimmblnbkjjaaGreatDoor.Dec
namespace Go.Proofs.YtcdimmblnbkjjaaGreatDoor.Nat_
open Go Go.RowKit R5
def natErr(n:Nat)(xs:List Nat):Int:=if 16384<n then 4 else if q1q n xs then 0 else 10
theorem natErr_ok{n:Nat}{xs:List Nat}(h:q1q n xs=true):natErr n xs=0:=by
 unfold natErr;have:=(R16.natOk_facts h).1;rw[if_neg (by omega),h];rfl
theorem natErr_zero(n:Nat)(xs:List Nat):(natErr n xs==0)=q1q n xs:=by
 unfold natErr;by_cases h:16384<n
 ·rw[if_pos h];unfold q1q;rw[decide_eq_false (p:=n<=16384) (by omega)];rfl
 ·rw[if_neg h];cases q1q n xs<;>rfl
theorem Check(A:Option Addr)(n c:Nat)(xs:List Nat)(w:World)(hr:Rd w A n c xs):
  Calls Tryz.prog 85 #[q4w A n c] w fun e w'=>e=.returned (.int .i64 (natErr n xs))/\Below w.heap.size w w':=by
 have a1:=hr.sm;by_cases h:16384<n
 ·have HV:Hid (natErr n xs=4):=vv (by unfold natErr;rw[if_pos h]);have d1:decide ((16384:Int)<(n:Int))=true:=decide_eq_true (by omega);clear h hr;go_enter Tryz.func85,Tryz.ntmps85
  go_wp2;go_ret
  exact⟨q0i HV.o.symm,(Below.refl _ _).alloc lr _⟩
 have d1:decide ((16384:Int)<(n:Int))=false:=decide_eq_false (by omega);have a2:(n:Int)<=16384:=by omega
 rcases Nat.eq_zero_or_pos n with h0|h0
 ·subst h0;have HV:Hid (natErr 0 xs=0):=vv rfl;clear h hr;go_enter Tryz.func85,Tryz.ntmps85
  go_wp2;go_ret
  exact⟨q0i HV.o.symm,(Below.refl _ _).alloc lr _⟩
 obtain⟨m,rfl⟩:∃m,n=m+1:=⟨n-1,by omega⟩;obtain⟨b,off,rfl,a3,a0⟩:=hr.cell h0;have hx:=a0 m (by omega);have a4:(m:Int)+1<=16384:=by omega
 have d3:((m:Int)+1==0)=false:=by rw[beq_eq_false_iff_ne];omega
 have HE:Hid (natErr (m+1) xs=if nth xs m=0 then 10 else 0):=vv (by
  unfold natErr;rw[if_neg h];unfold q1q;rw[decide_eq_true (p:=m+1<=16384) (by omega),decide_eq_false (p:=m+1=0) (by omega),Nat.add_sub_cancel];by_cases hz:nth xs m=0
  ·rw[if_pos hz,decide_eq_false (p:=nth xs m≠0) (by omega)];rfl
  ·rw[if_neg hz,decide_eq_true (p:=nth xs m≠0) hz];rfl)
 have d4:decide ((16384:Int)<(m:Int)+1)=false:=decide_eq_false (by omega);have d5:decide ((0:Int)<(m:Int)+1)=true:=decide_eq_true (by omega);clear h a0 hr h0 a2 d1 a1;by_cases hz:nth xs m=0
 ·have HF:Hid (natErr (m+1) xs=10):=vv (by rw[HE.o,if_pos hz]);have t1:(((nth xs m:Nat):Int)==0)=true:=by rw[hz];rfl
  clear hz;go_enter Tryz.func85,Tryz.ntmps85
  go_wp2;go_ret
  exact⟨q0i HF.o.symm,(Below.refl _ _).alloc lr _⟩
 ·have HF:Hid (natErr (m+1) xs=0):=vv (by rw[HE.o,if_neg hz]);have t1:(((nth xs m:Nat):Int)==0)=false:=by rw[beq_eq_false_iff_ne];omega
  clear hz;go_enter Tryz.func85,Tryz.ntmps85
  go_wp2;go_ret
  exact⟨q0i HF.o.symm,(Below.refl _ _).alloc lr _⟩
end Go.Proofs.YtcdimmblnbkjjaaGreatDoor.Nat_
namespace Go.Proofs.YtcdimmblnbkjjaaGreatDoor.Exa
open Go Go.RowKit R5
theorem none_(A:Option Addr)(n c:Nat)(w:World):
  Calls Tryz.prog 86 #[q4w A n c] w fun e w'=>e=.returned (.bool ((n:Int)==0))/\Below w.heap.size w w':=by
 go_enter Tryz.func86,Tryz.ntmps86
 go_wp2;go_ret
 exact⟨rfl,(Below.refl _ _).alloc lr _⟩
theorem far(x:Int)(w:World):
  Calls Tryz.prog 87 #[.int .i64 x] w fun e w'=>e=.returned (.bool (Dec.farB x))/\w=w':=by
 by_cases h1:x < -1073741824
 ·have HF:Hid (Dec.farB x=true):=vv (by unfold Dec.farB;rw[decide_eq_true h1];rfl);have d1:decide (x < -1073741824)=true:=decide_eq_true h1;clear h1;go_enter Tryz.func87,Tryz.ntmps87
  go_wp2;go_ret
  exact⟨q1K HF.o.symm,rfl⟩
 ·have HF:Hid (Dec.farB x=decide (1073741824<x)):=vv (by unfold Dec.farB;rw[decide_eq_false h1];rfl);have d1:decide (x < -1073741824)=false:=decide_eq_false h1;clear h1;go_enter Tryz.func87,Tryz.ntmps87
  go_wp2;go_ret
  exact⟨q1K HF.o.symm,rfl⟩
def exaErr(neg:Bool)(n:Nat)(xs:List Nat)(x:Int):Int:=
 if q1q n xs=false then Nat_.natErr n xs else if twoOk neg n xs x then 0 else 40
theorem exaErr_zero(neg:Bool)(n:Nat)(xs:List Nat)(x:Int):(exaErr neg n xs x==0)=twoOk neg n xs x:=by
 unfold exaErr;cases h:q1q n xs
 ·rw[if_pos rfl,Nat_.natErr_zero,h];unfold twoOk;rw[h];rfl
 ·rw[if_neg (by decide)];cases twoOk neg n xs x<;>rfl
theorem q8S(A:Option Addr)(c:Nat)(w:World):
  Calls Tryz.prog 86 #[q4w A 0 c] w fun e w'=>e=.returned (.bool true)/\Below w.heap.size w w':=none_ A 0 c w
theorem q7n(A:Option Addr)(n c:Nat)(w:World)(h:0<n):
  Calls Tryz.prog 86 #[q4w A n c] w fun e w'=>e=.returned (.bool false)/\Below w.heap.size w w':=by
 have e:((n:Int)==0)=false:=by rw[beq_eq_false_iff_ne];omega
 have:=none_ A n c w;rw[e] at this;exact this
theorem Check(neg:Bool)(A:Option Addr)(n c:Nat)(xs:List Nat)(x:Int)(w:World)(hr:Rd w A n c xs):
  Calls Tryz.prog 46 #[q57 neg A n c x] w fun e w'=>e=.returned (.int .i64 (exaErr neg n xs x))/\Below w.heap.size w w':=by
 have a5:=vv fun w' (h:Below w.heap.size w w')=>Nat_.Check A n c xs w' (hr.below h rfl)
 obtain⟨w0,b0⟩:=yx (w.alloc (.cells #[.bool neg,.slice A n c,.int .i64 x] 30));have b7:Below w.heap.size w w0:=by rw[b0];exact(Below.refl _ w).alloc lr _
 have b1:DyadBox w0 w.heap.size neg A n c x:=by rw[b0];exact DyadBox.made w _ _ _ _ _ _
 have HX:=vv b1;have HB:=vv b7;have a8:=vv b0;have x1:=b1.c1;have xl:=b1.lt;clear b0 b7 b1;cases hok:q1q n xs
 ·have HE:Hid (exaErr neg n xs x=Nat_.natErr n xs):=vv (by unfold exaErr;rw[if_pos hok]);obtain⟨v,hv⟩:=yx (Nat_.natErr n xs);have c1:(v != 0)=true:=by
   have:=Nat_.natErr_zero n xs;rw[<- hv,hok] at this;rw[bne,this];rfl
  rw[<- hv] at a5 HE;clear hv hok;go_enter Tryz.func46,Tryz.ntmps46
  go_wp2_with fail
  rw[<- a8.o];refine(a5.o _ HB.o).mono ?_;rintro e w1 ⟨rfl,a0⟩;have HB:=vn HB a0;clear a0;go_wp2;go_ret
  exact⟨q0i HE.o.symm,HB.o⟩
 have HE:Hid (exaErr neg n xs x=if twoOk neg n xs x then 0 else 40):=vv (by unfold exaErr;rw[if_neg (by rw[hok];decide)]);have b8:twoOk neg n xs x=(decide (x<=1073741824) && decide (-1073741824<=x) && (if n=0 then decide (x=0) && !neg else decide (nth xs 0%2=1))):=by unfold twoOk;rw[hok];rfl
 have a6:=vv b8;rw[Nat_.natErr_ok hok] at a5;have b4:=(R16.natOk_facts hok).1;have c2:(n:Int)<=16384:=by omega
 clear b8 b4 hok;rcases Nat.eq_zero_or_pos n with h0|h0
 ·subst h0;have a4:=vv fun w=>q8S A c w
  cases neg
  ·cases tx:(x==0)
   ·have HF:Hid (exaErr false 0 xs x=40):=vv (by
     have hx:x≠0:=by rw[beq_eq_false_iff_ne] at tx;exact tx
     rw[HE.o,a6.o,if_pos rfl,decide_eq_false hx];simp)
    have tx2:(x != 0)=true:=by rw[bne,tx];rfl
    clear HE a6;go_enter Tryz.func46,Tryz.ntmps46
    go_wp2_with fail
    rw[<- a8.o];refine(a5.o _ HB.o).mono ?_;rintro e w1 ⟨rfl,a0⟩;have HX:=vv (HX.o.below a0);have HB:=vn HB a0;obtain⟨x0,x1,x2,xl⟩:=HX.o;clear a0;go_wp2_with fail
    refine(a4.o _).mono ?_;rintro e w2 ⟨rfl,a1⟩;have HX:=vv (HX.o.below a1);have HB:=vn HB a1;obtain⟨x0,x1,x2,xl⟩:=HX.o;clear a1;go_wp2;go_ret
    exact⟨q0i HF.o.symm,HB.o⟩
   ·have hx:x=0:=by rw[beq_iff_eq] at tx;exact tx
    subst hx;have HF:Hid (exaErr false 0 xs 0=0):=vv (by
     rw[HE.o,a6.o,if_pos rfl];rfl)
    clear HE a6;go_enter Tryz.func46,Tryz.ntmps46
    go_wp2_with fail
    rw[<- a8.o];refine(a5.o _ HB.o).mono ?_;rintro e w1 ⟨rfl,a0⟩;have HX:=vv (HX.o.below a0);have HB:=vn HB a0;obtain⟨x0,x1,x2,xl⟩:=HX.o;clear a0;go_wp2_with fail
    refine(a4.o _).mono ?_;rintro e w2 ⟨rfl,a1⟩;have HX:=vv (HX.o.below a1);have HB:=vn HB a1;obtain⟨x0,x1,x2,xl⟩:=HX.o;clear a1;go_wp2_with fail
    refine(a4.o _).mono ?_;rintro e w3 ⟨rfl,a2⟩;have HX:=vv (HX.o.below a2);have HB:=vn HB a2;obtain⟨x0,x1,x2,xl⟩:=HX.o;clear a2;go_wp2;go_ret
    exact⟨q0i HF.o.symm,HB.o⟩
  ·have HF:Hid (exaErr true 0 xs x=40):=vv (by
    rw[HE.o,a6.o,if_pos rfl];simp)
   clear HE a6;go_enter Tryz.func46,Tryz.ntmps46
   go_wp2_with fail
   rw[<- a8.o];refine(a5.o _ HB.o).mono ?_;rintro e w1 ⟨rfl,a0⟩;have HX:=vv (HX.o.below a0);have HB:=vn HB a0;obtain⟨x0,x1,x2,xl⟩:=HX.o;clear a0;go_wp2_with fail
   refine(a4.o _).mono ?_;rintro e w2 ⟨rfl,a1⟩;have HX:=vv (HX.o.below a1);have HB:=vn HB a1;obtain⟨x0,x1,x2,xl⟩:=HX.o;clear a1;go_wp2;go_ret
   exact⟨q0i HF.o.symm,HB.o⟩
 have a4:=vv fun w=>q7n A n c w h0
 obtain⟨b,off,rfl,b9,a7⟩:=hr.cell h0;have b5:=a7 0 h0;rw[Nat.add_zero] at b5;have b2:=vv b5;have a9:=hr.nth_lt 0;have b6:=vv b9;have a3:Hid (twoOk neg n xs x=(decide (nth xs 0%2=1) && !Dec.farB x)):=vv (by
  rw[a6.o,if_neg (by omega)];unfold Dec.farB;by_cases q1:x < -1073741824
  ·rw[decide_eq_true q1,decide_eq_false (p:=-1073741824<=x) (by omega)];simp
  ·rw[decide_eq_false q1,decide_eq_true (p:=-1073741824<=x) (by omega)];by_cases q2:1073741824<x
   ·rw[decide_eq_true q2,decide_eq_false (p:=x<=1073741824) (by omega)];simp
   ·rw[decide_eq_false q2,decide_eq_true (p:=x<=1073741824) (by omega)];simp)
 have d0:decide ((0:Int)<(n:Int))=true:=decide_eq_true (by omega);clear a6 a7 hr h0 b9 b5;have b3:=vv fun w=>far x w
 obtain⟨v,hv⟩:=yx (nth xs 0);rw[<- hv] at b2 a3 a9;have c0:Hid (bits .and .u32 (v:Int) 1=((v%2:Nat):Int)):=vv (by
  have:=u32_and_nat v 1 a9 (by omega);rw[Nat.and_one_is_mod] at this;exact this)
 have c3:(0:Int)<(n:Int):=by simpa using d0
 clear hv;by_cases hp:v%2=0
 ·have HF:Hid (exaErr neg n xs x=40):=vv (by rw[HE.o,a3.o,decide_eq_false (p:=v%2=1) (by omega)];rfl);have t1:(bits .and .u32 (v:Int) 1==0)=true:=by rw[c0.o,hp];rfl
  have t2:((v:Int)%2==0)=true:=by rw[beq_iff_eq];omega
  clear hp HE a3 a9;go_enter Tryz.func46,Tryz.ntmps46
  go_wp2_with fail
  rw[<- a8.o];refine(a5.o _ HB.o).mono ?_;rintro e w1 ⟨rfl,a0⟩;have HX:=vv (HX.o.below a0);have HB:=vn HB a0;obtain⟨x0,x1,x2,xl⟩:=HX.o;clear a0;go_wp2_with fail
  refine(a4.o _).mono ?_;rintro e w2 ⟨rfl,a1⟩;have HX:=vv (HX.o.below a1);have HB:=vn HB a1;obtain⟨x0,x1,x2,xl⟩:=HX.o;clear a1;go_wp2_with fail
  refine(a4.o _).mono ?_;rintro e w3 ⟨rfl,a2⟩;have HX:=vv (HX.o.below a2);have HB:=vn HB a2;obtain⟨x0,x1,x2,xl⟩:=HX.o;clear a2;have hv:=(HB.o.cell (p:=⟨b,off,none⟩) b6.o).trans b2.o;go_wp2;go_ret
  exact⟨q0i HF.o.symm,HB.o⟩
 have t1:(bits .and .u32 (v:Int) 1==0)=false:=by rw[c0.o,beq_eq_false_iff_ne];omega
 have t2:((v:Int)%2==0)=false:=by rw[beq_eq_false_iff_ne];omega
 cases hf:Dec.farB x
 ·rw[hf] at b3;have HF:Hid (exaErr neg n xs x=0):=vv (by rw[HE.o,a3.o,hf,decide_eq_true (p:=v%2=1) (by omega)];rfl);clear hp HE a3 a9 hf;go_enter Tryz.func46,Tryz.ntmps46
  go_wp2_with fail
  rw[<- a8.o];refine(a5.o _ HB.o).mono ?_;rintro e w1 ⟨rfl,a0⟩;have HX:=vv (HX.o.below a0);have HB:=vn HB a0;obtain⟨x0,x1,x2,xl⟩:=HX.o;clear a0;go_wp2_with fail
  refine(a4.o _).mono ?_;rintro e w2 ⟨rfl,a1⟩;have HX:=vv (HX.o.below a1);have HB:=vn HB a1;obtain⟨x0,x1,x2,xl⟩:=HX.o;clear a1;go_wp2_with fail
  refine(a4.o _).mono ?_;rintro e w3 ⟨rfl,a2⟩;have HX:=vv (HX.o.below a2);have HB:=vn HB a2;obtain⟨x0,x1,x2,xl⟩:=HX.o;clear a2;have hv:=(HB.o.cell (p:=⟨b,off,none⟩) b6.o).trans b2.o;go_wp2_with fail
  refine(b3.o _).mono ?_;rintro e w' ⟨rfl,rfl⟩;go_wp2;go_ret
  exact⟨q0i HF.o.symm,HB.o⟩
 ·rw[hf] at b3;have HF:Hid (exaErr neg n xs x=40):=vv (by rw[HE.o,a3.o,hf,decide_eq_true (p:=v%2=1) (by omega)];rfl);clear hp HE a3 a9 hf;go_enter Tryz.func46,Tryz.ntmps46
  go_wp2_with fail
  rw[<- a8.o];refine(a5.o _ HB.o).mono ?_;rintro e w1 ⟨rfl,a0⟩;have HX:=vv (HX.o.below a0);have HB:=vn HB a0;obtain⟨x0,x1,x2,xl⟩:=HX.o;clear a0;go_wp2_with fail
  refine(a4.o _).mono ?_;rintro e w2 ⟨rfl,a1⟩;have HX:=vv (HX.o.below a1);have HB:=vn HB a1;obtain⟨x0,x1,x2,xl⟩:=HX.o;clear a1;go_wp2_with fail
  refine(a4.o _).mono ?_;rintro e w3 ⟨rfl,a2⟩;have HX:=vv (HX.o.below a2);have HB:=vn HB a2;obtain⟨x0,x1,x2,xl⟩:=HX.o;clear a2;have hv:=(HB.o.cell (p:=⟨b,off,none⟩) b6.o).trans b2.o;go_wp2_with fail
  refine(b3.o _).mono ?_;rintro e w' ⟨rfl,rfl⟩;go_wp2;go_ret
  exact⟨q0i HF.o.symm,HB.o⟩
end Go.Proofs.YtcdimmblnbkjjaaGreatDoor.Exa
namespace Go.Proofs.YtcdimmblnbkjjaaGreatDoor.Nat_
open Go Go.RowKit R5
theorem Rd.cap{w:World}{A:Option Addr}{n c:Nat}{xs:List Nat}(h:Rd w A n c xs):Rd w A n n xs:=⟨h.len,lr,h.sm,h.lim,h.cell⟩
theorem q6d(A:Option Addr)(n c:Nat)(xs:List Nat)(w:World)(hr:Rd w A n c xs):
  Calls Tryz.prog 88 #[.slice A n c] w fun e w'=>∃A' m,e=.returned (q4w A' m m)/\Rd w' A' m m (toL (val xs))/\(∀a,A'=some a->A=some a)/\Below w.heap.size w w':=by
 have b3:=hr.sm;have a9:=hr.len;have b4:=hr.le;have a2:=(Below.refl w.heap.size w).alloc (o:=.cells #[.slice none 0 0] 28) lr;have a4:=NatCell.made w 28;obtain⟨w0,a5⟩:=yx (w.alloc (.cells #[.slice none 0 0] 28));rw[<- a5] at a2 a4;have a3:=hr.below a2 rfl;have b0:=vv a5;have HB:=vv a2;have b5:=vv a3;have a8:=vv hr;have c0:=a4.c0;have fz:=a4.fz;have nl:=a4.lt;clear a5 a4;go_enter Tryz.func88,Tryz.ntmps88
 go_wp2_with fail
 rw[<- b0.o];go_loop [3] (fun t=>∃k:Nat,k<=n/\t=.int .i64 k/\∀i,k<=i->nth xs i=0) (fun t=>(intOf t).toNat)
 case atStart=>exact⟨n,lr,rfl,fun i hi=>q0A xs i (by omega)⟩
 case round =>
  obtain⟨k,hk,rfl,hz⟩:=hrel;have fin:∀m,m<=n->(∀i,m<=i->nth xs i=0)->(m=0\/nth xs (m-1)≠0)->Rd w0 A m c (toL (val xs)):=by
   intro m hm h0 h1;have e:=q0Q hr.lim (n:=m) h0 (h1.imp id fun h=>⟨by omega,h⟩);rw[<- e];exact a3.take hm
  have Fin:=vv fin;clear fin;rcases Nat.eq_zero_or_pos k with rfl|b1
  ·have a6:=vv (Fin.o 0 (Nat.zero_le _) hz (.inl rfl));have a1:=vv (HB.o.setCell (p:=⟨w.heap.size,0,none⟩) lr (.slice none 0 0));have a0:(w0.setCell ⟨w.heap.size,0,none⟩ (.slice none 0 0)).cell? ⟨w.heap.size,0,none⟩=some (.slice none 0 0):=q0G c0;clear hz a3 hr a2;go_wp2;refine bodyPost_ret (v:=q4w none 0 0) (by simp [results,Tryz.results88,go_sem,a0]) rfl ⟨none,0,rfl,?_,fun a h=>(by cases h),a1.o⟩;have e:toL (val xs)=[]:=List.eq_nil_of_length_eq_zero a6.o.len;rw[e];exact Rd.nil _
  ·obtain⟨m,rfl⟩:∃m,k=m+1:=⟨k-1,by omega⟩;have b2:=a8.o;obtain⟨b,off,rfl,hb,a0⟩:=a3.cell (by omega);have hx:=a0 m (by omega);clear a0;by_cases h0:nth xs m=0
   ·have h1:(((nth xs m:Nat):Int)==0)=true:=by rw[h0];rfl
    have H0:=vv h0;clear h0 a3 hr a2;go_wp2;go_round
    case rel=>exact⟨m,by omega,by go_num,fun i hi=>by
     rcases Nat.eq_or_lt_of_le hi with rfl|h
     ·exact H0.o
     ·exact hz i (by omega)⟩
    case measure=>simp [intOf]
   ·have h1:(((nth xs m:Nat):Int)==0)=false:=by rw[beq_eq_false_iff_ne];omega
    have a6:=vv (Rd.cap (Fin.o (m+1) (by omega) hz (.inr h0)));have b6:b<w.heap.size:=by
     obtain⟨b',off',e,h,_⟩:=a8.o.cell (by omega);cases e;exact h
    have a1:=vv (HB.o.setCell (p:=⟨w.heap.size,0,none⟩) lr (.slice (some ⟨b,off,none⟩) (m+1) (m+1)));have a0:(w0.setCell ⟨w.heap.size,0,none⟩ (.slice (some ⟨b,off,none⟩) (m+1) (m+1))).cell? ⟨w.heap.size,0,none⟩=some (.slice (some ⟨b,off,none⟩) (m+1) (m+1)):=q0G c0;have a7:Hid (Rd (w0.setCell ⟨w.heap.size,0,none⟩ (.slice (some ⟨b,off,none⟩) (m+1) (m+1))) (some ⟨b,off,none⟩) (m+1) (m+1) (toL (val xs))):=vv (a6.o.other _ _ _ (fun a e=>by cases e;show b≠w.heap.size;omega));clear h0 hz a3 hr a2 b2;go_wp2;exact bodyPost_ret (v:=q4w (some ⟨b,off,none⟩) (m+1) (m+1)) (by simp [results,Tryz.results88,go_sem,a0]) rfl ⟨some ⟨b,off,none⟩,m+1,rfl,a7.o,fun a h=>by simpa using h,a1.o⟩
theorem Of1(w:World):
  Calls Tryz.prog 47 #[.int .u64 1] w fun e w'=>∃A,e=.returned (q4w A 1 1)/\Rd w' A 1 1 (toL 1)/\Below w.heap.size w w':=by
 go_enter Tryz.func47,Tryz.ntmps47
 go_wp2_with fail
 obtain⟨o1,o2⟩:=R1.two_words (w.alloc (.cells #[.slice none 0 0] 28)) 1 0 (by omega) (by omega) 34;have hN:=(NatCell.made w 28).below o2;have hB:=(Below.refl w.heap.size w).alloc (o:=.cells #[.slice none 0 0] 28) lr;have HN:=vv hN;have HB:=vv (hB.trans (o2.mono (by simp)));have hs:(w.alloc (.cells #[.slice none 0 0] 28)).heap.size=w.heap.size+1:=by simp
 rw[hs] at o1;clear o2 hN hB hs;refine(q6d (some ⟨w.heap.size+1,0,none⟩) 2 2 [1,0] _ o1).mono ?_;rintro e w1 ⟨A',m,rfl,hR,hA,a1⟩;have hm:m=1:=hR.words.symm;subst hm;have a5:Hid (Rd w1 A' 1 1 (toL 1)):=vv hR;have a2:=vv (HN.o.below a1);have a6:=vn HB a1;have c0:=a2.o.c0;have fz:=a2.o.fz;have lt:=a2.o.lt;have a3:Hid (Rd (w1.setCell ⟨w.heap.size,0,none⟩ (.slice A' 1 1)) A' 1 1 (toL 1)):=vv (a5.o.other _ _ _ (fun a e=>by have:=hA a e;cases this;simp));have a4:Hid (Below w.heap.size w (w1.setCell ⟨w.heap.size,0,none⟩ (.slice A' 1 1))):=vv (a6.o.setCell lr _);have a0:(w1.setCell ⟨w.heap.size,0,none⟩ (.slice A' 1 1)).cell? ⟨w.heap.size,0,none⟩=some (.slice A' 1 1):=q0G c0;clear a1 hR hA o1;go_wp2;exact bodyPost_ret (v:=q4w A' 1 1) (by simp [results,Tryz.results47,go_sem,a0]) rfl ⟨A',rfl,a3.o,a4.o⟩
end Go.Proofs.YtcdimmblnbkjjaaGreatDoor.Nat_
namespace Go.Proofs.YtcdimmblnbkjjaaGreatDoor.Lex
open Go Go.RowKit R5
theorem q17{neg:Bool}{n:Nat}{xs:List Nat}{x:Int}(h:twoOk neg n xs x=true)(hn:n=0):x=0/\neg=false:=by
 unfold twoOk at h;rw[if_pos hn] at h;simp only[Bool.and_eq_true,decide_eq_true_eq,Bool.not_eq_true'] at h;exact h.2
theorem zero_or(p:Nat):(p=0/\((p:Int)==0)=true)\/(p≠0/\((p:Int)==0)=false):=by
 rcases Nat.eq_zero_or_pos p with h|h
 ·exact .inl ⟨h,by rw[h];rfl⟩
 ·exact .inr ⟨by omega,by rw[beq_eq_false_iff_ne];omega⟩
theorem q7e(p:Nat):(p<=2251799813685247/\decide ((p:Int)<=2251799813685247)=true)\/(¬p<=2251799813685247/\decide ((p:Int)<=2251799813685247)=false):=by
 rcases Nat.lt_or_ge 2251799813685247 p with h|h
 ·exact .inr ⟨by omega,decide_eq_false (by omega)⟩
 ·exact .inl ⟨h,decide_eq_true (by omega)⟩
theorem q8x(kind:Nat)(neg dneg:Bool)(s:ByteArray)(x:Int)(hneg:Bool)(A:Option Addr)(n c:Nat)(xs:List Nat)(hx:Int)(p:Nat)(w:World)(hr:Rd w A n c xs)(hmax:(s.size:Int)<=4611686018427387904)(he:s.toList.isEmpty=false)(hd:dneg=false):
  Calls Tryz.prog 25 #[q4Z kind neg dneg s x hneg A n c hx p] w fun e w'=>e=.returned (.int .i64 (q05 (q1l kind neg dneg s x hneg n xs hx p)))/\Below w.heap.size w w':=by
 obtain⟨dec,a2⟩:=yx (q0x s x);obtain⟨two,a1⟩:=yx (twoOk hneg n xs hx);obtain⟨nn,a0⟩:=yx (R11.noTwoB hneg n hx);obtain⟨V,hV⟩:=yx (q1l kind neg dneg s x hneg n xs hx p);have HD:=vv fun w=>Dec.Check dneg s x w hmax
 have HT:=vv fun w' (h:Below w.heap.size w w')=>Exa.Check hneg A n c xs hx w' (hr.below h rfl)
 have td:=Dec.decErr_zero s x;have tt:=Exa.exaErr_zero hneg n xs hx;obtain⟨zd,a7⟩:=yx (Dec.decErr s x);obtain⟨zt,a8⟩:=yx (Exa.exaErr hneg n xs hx);rw[<- a7,<- a2] at td;rw[<- a7] at HD;rw[<- a8,<- a1] at tt;rw[<- a8] at HT;rw[<- hV];unfold q1l at hV;rw[<- a2,<- a1,<- a0] at hV;have HV:=vv hV;have HO:=vv a0;have b1:=vv a1;obtain⟨w0,a5⟩:=yx (w.alloc (.cells #[.int .u8 (kind:Int),.bool neg,.bool dneg,.string s,.int .i64 x,.bool hneg,.slice A n c,.int .i64 hx,.int .u64 (p:Int)] 33));have b2:Below w.heap.size w w0:=by rw[a5];exact(Below.refl _ w).alloc lr _
 have b3:NumBox w0 w.heap.size kind neg dneg s x hneg A n c hx p:=by rw[a5];exact NumBox.made w _ _ _ _ _ _ _ _ _ _ _ _
 have HN:=vv b3;have HB:=vv b2;have b4:=vv a5;have a9:=vv ((Below.refl w.heap.size w).alloc (o:=.cells #[.int .u8 (kind:Int),.bool neg,.bool dneg,.string s,.int .i64 x,.bool hneg,.slice A n c,.int .i64 hx,.int .u64 (p:Int)] 33) lr);have b5:=hr.sm;clear a5 b2 b3 hr a2 a1 a0 hV a7 a8 hmax;obtain⟨c0,c1,c2,c3,c4,c5,c6,c7,c8,cl⟩:=HN.o;subst hd;have HE:Hid (q1c false s x=false):=vv (by unfold q1c;rw[he];rfl);go_enter Tryz.func25,Tryz.ntmps25
 by_cases hn:n=0
 focus
  have tn:((n:Int)==0)=true:=by rw[hn];rfl
  have a6:=vv hn;cases th:(hx==0)
  focus
   have a3:hx≠0:=by rw[beq_eq_false_iff_ne] at th;exact th
   have HO:Hid (nn=false):=vv (by rw[HO.o];unfold R11.noTwoB;rw[decide_eq_false a3];simp);have HZ:Hid (two=true->n≠0):=vv (fun ht _=>by rw[b1.o] at ht;exact a3 (q17 ht hn).1);clear hn a3
  rotate_left 1
  focus
   have b0:hx=0:=by rw[beq_iff_eq] at th;exact th
   cases hneg
   focus
    have HO:Hid (nn=true):=vv (by rw[HO.o];unfold R11.noTwoB;rw[decide_eq_true hn,decide_eq_true b0];rfl);clear b0 hn
   rotate_left 1
   focus
    have HO:Hid (nn=false):=vv (by rw[HO.o];unfold R11.noTwoB;simp);have HZ:Hid (two=true->n≠0):=vv (fun ht _=>by rw[b1.o] at ht;exact absurd (q17 ht hn).2 (by decide));clear hn b0
 rotate_left 3
 focus
  have tn:((n:Int)==0)=false:=by rw[beq_eq_false_iff_ne];omega
  have HO:Hid (nn=false):=vv (by rw[HO.o];unfold R11.noTwoB;rw[decide_eq_false hn];rfl);have HZ:Hid (two=true->n≠0):=vv (fun _=>hn);clear hn
 all_goals
  rcases(by omega:kind=1\/kind=2\/kind=3\/kind=4\/(kind≠1/\kind≠2/\kind≠3/\kind≠4)) with hk|hk|hk|hk|⟨q1,q2,q3,q4⟩
  ·have HK:=vv hk;have t1:((kind:Int)==1)=true:=by rw[hk];rfl
   clear hk;go_wp2_with fail
   rw[<- b4.o];refine(HD.o _).mono ?_;rintro e w1 ⟨rfl,a4⟩;have HN:=vv (HN.o.below a4);have HB:=vn HB a4;clear a4 c0 c1 c2 c3 c4 c5 c6 c7 c8 cl;obtain⟨c0,c1,c2,c3,c4,c5,c6,c7,c8,cl⟩:=HN.o;cases dec<;>cases neg<;>rcases zero_or p with ⟨hp,tp⟩|⟨hp,tp⟩
   all_goals
    have HP:=vv hp;clear hp;go_wp2;go_ret
    exact⟨q0i (by rw[HV.o,HE.o,HO.o];first|(simp [q05,HK.o];done)|(simp [q05,HK.o,HP.o];done)|(simp [q05,HK.o,HP.o,a6.o];done)|(simp [q05,HK.o,HZ.o rfl];done)|(simp [q05,HK.o,HP.o,HZ.o rfl];done)|(simp [q05,HK.o,HZ.o trivial];done)|(simp [q05,HK.o,HP.o,HZ.o trivial];done)),HB.o⟩
  ·have HK:=vv hk;have t1:((kind:Int)==1)=false:=by rw[beq_eq_false_iff_ne];omega
   have t2:((kind:Int)==2)=true:=by rw[hk];rfl
   clear hk;go_wp2_with fail
   rw[<- b4.o];refine(HT.o _ HB.o).mono ?_;rintro e w1 ⟨rfl,a4⟩;have HN:=vv (HN.o.below a4);have HB:=vn HB a4;clear a4 c0 c1 c2 c3 c4 c5 c6 c7 c8 cl;obtain⟨c0,c1,c2,c3,c4,c5,c6,c7,c8,cl⟩:=HN.o;cases two<;>(try cases hneg)<;>cases neg
   all_goals
    go_wp2;go_ret
    exact⟨q0i (by rw[HV.o,HE.o,HO.o];first|(simp [q05,HK.o];done)|(simp [q05,HK.o,HP.o];done)|(simp [q05,HK.o,HP.o,a6.o];done)|(simp [q05,HK.o,HZ.o rfl];done)|(simp [q05,HK.o,HP.o,HZ.o rfl];done)|(simp [q05,HK.o,HZ.o trivial];done)|(simp [q05,HK.o,HP.o,HZ.o trivial];done)),HB.o⟩
  ·have HK:=vv hk;have t1:((kind:Int)==1)=false:=by rw[beq_eq_false_iff_ne];omega
   have t2:((kind:Int)==2)=false:=by rw[beq_eq_false_iff_ne];omega
   have t3:((kind:Int)==3)=true:=by rw[hk];rfl
   clear hk;all_goals
    go_wp2;go_ret
    exact⟨q0i (by rw[HV.o,HE.o,HO.o];first|(simp [q05,HK.o];done)|(simp [q05,HK.o,HP.o];done)|(simp [q05,HK.o,HP.o,a6.o];done)|(simp [q05,HK.o,HZ.o rfl];done)|(simp [q05,HK.o,HP.o,HZ.o rfl];done)|(simp [q05,HK.o,HZ.o trivial];done)|(simp [q05,HK.o,HP.o,HZ.o trivial];done)),a9.o⟩
  ·have HK:=vv hk;have t1:((kind:Int)==1)=false:=by rw[beq_eq_false_iff_ne];omega
   have t2:((kind:Int)==2)=false:=by rw[beq_eq_false_iff_ne];omega
   have t3:((kind:Int)==3)=false:=by rw[beq_eq_false_iff_ne];omega
   have t4:((kind:Int)==4)=true:=by rw[hk];rfl
   clear hk;all_goals
    go_wp2;go_ret
    exact⟨q0i (by rw[HV.o,HE.o,HO.o];first|(simp [q05,HK.o];done)|(simp [q05,HK.o,HP.o];done)|(simp [q05,HK.o,HP.o,a6.o];done)|(simp [q05,HK.o,HZ.o rfl];done)|(simp [q05,HK.o,HP.o,HZ.o rfl];done)|(simp [q05,HK.o,HZ.o trivial];done)|(simp [q05,HK.o,HP.o,HZ.o trivial];done)),a9.o⟩
  ·have t1:((kind:Int)==1)=false:=by rw[beq_eq_false_iff_ne];omega
   have t2:((kind:Int)==2)=false:=by rw[beq_eq_false_iff_ne];omega
   have t3:((kind:Int)==3)=false:=by rw[beq_eq_false_iff_ne];omega
   have t4:((kind:Int)==4)=false:=by rw[beq_eq_false_iff_ne];omega
   all_goals
    go_wp2;go_ret
    exact⟨q0i (by rw[HV.o,HE.o,HO.o];simp [q05,q1,q2,q3,q4]),a9.o⟩
theorem q8w(kind:Nat)(neg dneg:Bool)(s:ByteArray)(x:Int)(hneg:Bool)(A:Option Addr)(n c:Nat)(xs:List Nat)(hx:Int)(p:Nat)(w:World)(hr:Rd w A n c xs)(hmax:(s.size:Int)<=4611686018427387904)(he:s.toList.isEmpty=true)(hd:dneg=false)(tx:(x==0)=false):
  Calls Tryz.prog 25 #[q4Z kind neg dneg s x hneg A n c hx p] w fun e w'=>e=.returned (.int .i64 (q05 (q1l kind neg dneg s x hneg n xs hx p)))/\Below w.heap.size w w':=by
 obtain⟨dec,a2⟩:=yx (q0x s x);obtain⟨two,a1⟩:=yx (twoOk hneg n xs hx);obtain⟨nn,a0⟩:=yx (R11.noTwoB hneg n hx);obtain⟨V,hV⟩:=yx (q1l kind neg dneg s x hneg n xs hx p);have HD:=vv fun w=>Dec.Check dneg s x w hmax
 have HT:=vv fun w' (h:Below w.heap.size w w')=>Exa.Check hneg A n c xs hx w' (hr.below h rfl)
 have td:=Dec.decErr_zero s x;have tt:=Exa.exaErr_zero hneg n xs hx;obtain⟨zd,a7⟩:=yx (Dec.decErr s x);obtain⟨zt,a8⟩:=yx (Exa.exaErr hneg n xs hx);rw[<- a7,<- a2] at td;rw[<- a7] at HD;rw[<- a8,<- a1] at tt;rw[<- a8] at HT;rw[<- hV];unfold q1l at hV;rw[<- a2,<- a1,<- a0] at hV;have HV:=vv hV;have HO:=vv a0;have b1:=vv a1;obtain⟨w0,a5⟩:=yx (w.alloc (.cells #[.int .u8 (kind:Int),.bool neg,.bool dneg,.string s,.int .i64 x,.bool hneg,.slice A n c,.int .i64 hx,.int .u64 (p:Int)] 33));have b2:Below w.heap.size w w0:=by rw[a5];exact(Below.refl _ w).alloc lr _
 have b3:NumBox w0 w.heap.size kind neg dneg s x hneg A n c hx p:=by rw[a5];exact NumBox.made w _ _ _ _ _ _ _ _ _ _ _ _
 have HN:=vv b3;have HB:=vv b2;have b4:=vv a5;have a9:=vv ((Below.refl w.heap.size w).alloc (o:=.cells #[.int .u8 (kind:Int),.bool neg,.bool dneg,.string s,.int .i64 x,.bool hneg,.slice A n c,.int .i64 hx,.int .u64 (p:Int)] 33) lr);have b5:=hr.sm;clear a5 b2 b3 hr a2 a1 a0 hV a7 a8 hmax;obtain⟨c0,c1,c2,c3,c4,c5,c6,c7,c8,cl⟩:=HN.o;subst hd;have HE:Hid (q1c false s x=false):=vv (by unfold q1c;rw[he,tx];rfl);go_enter Tryz.func25,Tryz.ntmps25
 by_cases hn:n=0
 focus
  have tn:((n:Int)==0)=true:=by rw[hn];rfl
  have a6:=vv hn;cases th:(hx==0)
  focus
   have a3:hx≠0:=by rw[beq_eq_false_iff_ne] at th;exact th
   have HO:Hid (nn=false):=vv (by rw[HO.o];unfold R11.noTwoB;rw[decide_eq_false a3];simp);have HZ:Hid (two=true->n≠0):=vv (fun ht _=>by rw[b1.o] at ht;exact a3 (q17 ht hn).1);clear hn a3
  rotate_left 1
  focus
   have b0:hx=0:=by rw[beq_iff_eq] at th;exact th
   cases hneg
   focus
    have HO:Hid (nn=true):=vv (by rw[HO.o];unfold R11.noTwoB;rw[decide_eq_true hn,decide_eq_true b0];rfl);clear b0 hn
   rotate_left 1
   focus
    have HO:Hid (nn=false):=vv (by rw[HO.o];unfold R11.noTwoB;simp);have HZ:Hid (two=true->n≠0):=vv (fun ht _=>by rw[b1.o] at ht;exact absurd (q17 ht hn).2 (by decide));clear hn b0
 rotate_left 3
 focus
  have tn:((n:Int)==0)=false:=by rw[beq_eq_false_iff_ne];omega
  have HO:Hid (nn=false):=vv (by rw[HO.o];unfold R11.noTwoB;rw[decide_eq_false hn];rfl);have HZ:Hid (two=true->n≠0):=vv (fun _=>hn);clear hn
 all_goals
  rcases(by omega:kind=1\/kind=2\/kind=3\/kind=4\/(kind≠1/\kind≠2/\kind≠3/\kind≠4)) with hk|hk|hk|hk|⟨q1,q2,q3,q4⟩
  ·have HK:=vv hk;have t1:((kind:Int)==1)=true:=by rw[hk];rfl
   clear hk;go_wp2_with fail
   rw[<- b4.o];refine(HD.o _).mono ?_;rintro e w1 ⟨rfl,a4⟩;have HN:=vv (HN.o.below a4);have HB:=vn HB a4;clear a4 c0 c1 c2 c3 c4 c5 c6 c7 c8 cl;obtain⟨c0,c1,c2,c3,c4,c5,c6,c7,c8,cl⟩:=HN.o;cases dec<;>cases neg<;>rcases zero_or p with ⟨hp,tp⟩|⟨hp,tp⟩
   all_goals
    have HP:=vv hp;clear hp;go_wp2;go_ret
    exact⟨q0i (by rw[HV.o,HE.o,HO.o];first|(simp [q05,HK.o];done)|(simp [q05,HK.o,HP.o];done)|(simp [q05,HK.o,HP.o,a6.o];done)|(simp [q05,HK.o,HZ.o rfl];done)|(simp [q05,HK.o,HP.o,HZ.o rfl];done)|(simp [q05,HK.o,HZ.o trivial];done)|(simp [q05,HK.o,HP.o,HZ.o trivial];done)),HB.o⟩
  ·have HK:=vv hk;have t1:((kind:Int)==1)=false:=by rw[beq_eq_false_iff_ne];omega
   have t2:((kind:Int)==2)=true:=by rw[hk];rfl
   clear hk;go_wp2_with fail
   rw[<- b4.o];refine(HT.o _ HB.o).mono ?_;rintro e w1 ⟨rfl,a4⟩;have HN:=vv (HN.o.below a4);have HB:=vn HB a4;clear a4 c0 c1 c2 c3 c4 c5 c6 c7 c8 cl;obtain⟨c0,c1,c2,c3,c4,c5,c6,c7,c8,cl⟩:=HN.o;cases two<;>(try cases hneg)<;>cases neg
   all_goals
    go_wp2;go_ret
    exact⟨q0i (by rw[HV.o,HE.o,HO.o];first|(simp [q05,HK.o];done)|(simp [q05,HK.o,HP.o];done)|(simp [q05,HK.o,HP.o,a6.o];done)|(simp [q05,HK.o,HZ.o rfl];done)|(simp [q05,HK.o,HP.o,HZ.o rfl];done)|(simp [q05,HK.o,HZ.o trivial];done)|(simp [q05,HK.o,HP.o,HZ.o trivial];done)),HB.o⟩
  ·have HK:=vv hk;have t1:((kind:Int)==1)=false:=by rw[beq_eq_false_iff_ne];omega
   have t2:((kind:Int)==2)=false:=by rw[beq_eq_false_iff_ne];omega
   have t3:((kind:Int)==3)=true:=by rw[hk];rfl
   clear hk;all_goals
    go_wp2;go_ret
    exact⟨q0i (by rw[HV.o,HE.o,HO.o];first|(simp [q05,HK.o];done)|(simp [q05,HK.o,HP.o];done)|(simp [q05,HK.o,HP.o,a6.o];done)|(simp [q05,HK.o,HZ.o rfl];done)|(simp [q05,HK.o,HP.o,HZ.o rfl];done)|(simp [q05,HK.o,HZ.o trivial];done)|(simp [q05,HK.o,HP.o,HZ.o trivial];done)),a9.o⟩
  ·have HK:=vv hk;have t1:((kind:Int)==1)=false:=by rw[beq_eq_false_iff_ne];omega
   have t2:((kind:Int)==2)=false:=by rw[beq_eq_false_iff_ne];omega
   have t3:((kind:Int)==3)=false:=by rw[beq_eq_false_iff_ne];omega
   have t4:((kind:Int)==4)=true:=by rw[hk];rfl
   clear hk;all_goals
    go_wp2;go_ret
    exact⟨q0i (by rw[HV.o,HE.o,HO.o];first|(simp [q05,HK.o];done)|(simp [q05,HK.o,HP.o];done)|(simp [q05,HK.o,HP.o,a6.o];done)|(simp [q05,HK.o,HZ.o rfl];done)|(simp [q05,HK.o,HP.o,HZ.o rfl];done)|(simp [q05,HK.o,HZ.o trivial];done)|(simp [q05,HK.o,HP.o,HZ.o trivial];done)),a9.o⟩
  ·have t1:((kind:Int)==1)=false:=by rw[beq_eq_false_iff_ne];omega
   have t2:((kind:Int)==2)=false:=by rw[beq_eq_false_iff_ne];omega
   have t3:((kind:Int)==3)=false:=by rw[beq_eq_false_iff_ne];omega
   have t4:((kind:Int)==4)=false:=by rw[beq_eq_false_iff_ne];omega
   all_goals
    go_wp2;go_ret
    exact⟨q0i (by rw[HV.o,HE.o,HO.o];simp [q05,q1,q2,q3,q4]),a9.o⟩
theorem q8v(kind:Nat)(neg dneg:Bool)(s:ByteArray)(x:Int)(hneg:Bool)(A:Option Addr)(n c:Nat)(xs:List Nat)(hx:Int)(p:Nat)(w:World)(hr:Rd w A n c xs)(hmax:(s.size:Int)<=4611686018427387904)(he:s.toList.isEmpty=true)(hd:dneg=false)(tx:(x==0)=true):
  Calls Tryz.prog 25 #[q4Z kind neg dneg s x hneg A n c hx p] w fun e w'=>e=.returned (.int .i64 (q05 (q1l kind neg dneg s x hneg n xs hx p)))/\Below w.heap.size w w':=by
 obtain⟨dec,a2⟩:=yx (q0x s x);obtain⟨two,a1⟩:=yx (twoOk hneg n xs hx);obtain⟨nn,a0⟩:=yx (R11.noTwoB hneg n hx);obtain⟨V,hV⟩:=yx (q1l kind neg dneg s x hneg n xs hx p);have HD:=vv fun w=>Dec.Check dneg s x w hmax
 have HT:=vv fun w' (h:Below w.heap.size w w')=>Exa.Check hneg A n c xs hx w' (hr.below h rfl)
 have td:=Dec.decErr_zero s x;have tt:=Exa.exaErr_zero hneg n xs hx;obtain⟨zd,a7⟩:=yx (Dec.decErr s x);obtain⟨zt,a8⟩:=yx (Exa.exaErr hneg n xs hx);rw[<- a7,<- a2] at td;rw[<- a7] at HD;rw[<- a8,<- a1] at tt;rw[<- a8] at HT;rw[<- hV];unfold q1l at hV;rw[<- a2,<- a1,<- a0] at hV;have HV:=vv hV;have HO:=vv a0;have b1:=vv a1;obtain⟨w0,a5⟩:=yx (w.alloc (.cells #[.int .u8 (kind:Int),.bool neg,.bool dneg,.string s,.int .i64 x,.bool hneg,.slice A n c,.int .i64 hx,.int .u64 (p:Int)] 33));have b2:Below w.heap.size w w0:=by rw[a5];exact(Below.refl _ w).alloc lr _
 have b3:NumBox w0 w.heap.size kind neg dneg s x hneg A n c hx p:=by rw[a5];exact NumBox.made w _ _ _ _ _ _ _ _ _ _ _ _
 have HN:=vv b3;have HB:=vv b2;have b4:=vv a5;have a9:=vv ((Below.refl w.heap.size w).alloc (o:=.cells #[.int .u8 (kind:Int),.bool neg,.bool dneg,.string s,.int .i64 x,.bool hneg,.slice A n c,.int .i64 hx,.int .u64 (p:Int)] 33) lr);have b5:=hr.sm;clear a5 b2 b3 hr a2 a1 a0 hV a7 a8 hmax;obtain⟨c0,c1,c2,c3,c4,c5,c6,c7,c8,cl⟩:=HN.o;subst hd;have HE:Hid (q1c false s x=true):=vv (by unfold q1c;rw[he,tx];rfl);go_enter Tryz.func25,Tryz.ntmps25
 by_cases hn:n=0
 focus
  have tn:((n:Int)==0)=true:=by rw[hn];rfl
  have a6:=vv hn;cases th:(hx==0)
  focus
   have a3:hx≠0:=by rw[beq_eq_false_iff_ne] at th;exact th
   have HO:Hid (nn=false):=vv (by rw[HO.o];unfold R11.noTwoB;rw[decide_eq_false a3];simp);have HZ:Hid (two=true->n≠0):=vv (fun ht _=>by rw[b1.o] at ht;exact a3 (q17 ht hn).1);clear hn a3
  rotate_left 1
  focus
   have b0:hx=0:=by rw[beq_iff_eq] at th;exact th
   cases hneg
   focus
    have HO:Hid (nn=true):=vv (by rw[HO.o];unfold R11.noTwoB;rw[decide_eq_true hn,decide_eq_true b0];rfl);clear b0 hn
   rotate_left 1
   focus
    have HO:Hid (nn=false):=vv (by rw[HO.o];unfold R11.noTwoB;simp);have HZ:Hid (two=true->n≠0):=vv (fun ht _=>by rw[b1.o] at ht;exact absurd (q17 ht hn).2 (by decide));clear hn b0
 rotate_left 3
 focus
  have tn:((n:Int)==0)=false:=by rw[beq_eq_false_iff_ne];omega
  have HO:Hid (nn=false):=vv (by rw[HO.o];unfold R11.noTwoB;rw[decide_eq_false hn];rfl);have HZ:Hid (two=true->n≠0):=vv (fun _=>hn);clear hn
 all_goals
  rcases(by omega:kind=1\/kind=2\/kind=3\/kind=4\/(kind≠1/\kind≠2/\kind≠3/\kind≠4)) with hk|hk|hk|hk|⟨q1,q2,q3,q4⟩
  ·have HK:=vv hk;have t1:((kind:Int)==1)=true:=by rw[hk];rfl
   clear hk;go_wp2_with fail
   rw[<- b4.o];refine(HD.o _).mono ?_;rintro e w1 ⟨rfl,a4⟩;have HN:=vv (HN.o.below a4);have HB:=vn HB a4;clear a4 c0 c1 c2 c3 c4 c5 c6 c7 c8 cl;obtain⟨c0,c1,c2,c3,c4,c5,c6,c7,c8,cl⟩:=HN.o;cases dec<;>cases neg<;>rcases zero_or p with ⟨hp,tp⟩|⟨hp,tp⟩
   all_goals
    have HP:=vv hp;clear hp;go_wp2;go_ret
    exact⟨q0i (by rw[HV.o,HE.o,HO.o];first|(simp [q05,HK.o];done)|(simp [q05,HK.o,HP.o];done)|(simp [q05,HK.o,HP.o,a6.o];done)|(simp [q05,HK.o,HZ.o rfl];done)|(simp [q05,HK.o,HP.o,HZ.o rfl];done)|(simp [q05,HK.o,HZ.o trivial];done)|(simp [q05,HK.o,HP.o,HZ.o trivial];done)),HB.o⟩
  ·have HK:=vv hk;have t1:((kind:Int)==1)=false:=by rw[beq_eq_false_iff_ne];omega
   have t2:((kind:Int)==2)=true:=by rw[hk];rfl
   clear hk;go_wp2_with fail
   rw[<- b4.o];refine(HT.o _ HB.o).mono ?_;rintro e w1 ⟨rfl,a4⟩;have HN:=vv (HN.o.below a4);have HB:=vn HB a4;clear a4 c0 c1 c2 c3 c4 c5 c6 c7 c8 cl;obtain⟨c0,c1,c2,c3,c4,c5,c6,c7,c8,cl⟩:=HN.o;cases two<;>(try cases hneg)<;>cases neg<;>rcases zero_or p with ⟨hp,tp⟩|⟨hp,tp⟩
   all_goals
    have HP:=vv hp;clear hp;go_wp2;go_ret
    exact⟨q0i (by rw[HV.o,HE.o,HO.o];first|(simp [q05,HK.o];done)|(simp [q05,HK.o,HP.o];done)|(simp [q05,HK.o,HP.o,a6.o];done)|(simp [q05,HK.o,HZ.o rfl];done)|(simp [q05,HK.o,HP.o,HZ.o rfl];done)|(simp [q05,HK.o,HZ.o trivial];done)|(simp [q05,HK.o,HP.o,HZ.o trivial];done)),HB.o⟩
  ·have HK:=vv hk;have t1:((kind:Int)==1)=false:=by rw[beq_eq_false_iff_ne];omega
   have t2:((kind:Int)==2)=false:=by rw[beq_eq_false_iff_ne];omega
   have t3:((kind:Int)==3)=true:=by rw[hk];rfl
   clear hk;rcases zero_or p with ⟨hp,tp⟩|⟨hp,tp⟩;all_goals
    have HP:=vv hp;clear hp;go_wp2;go_ret
    exact⟨q0i (by rw[HV.o,HE.o,HO.o];first|(simp [q05,HK.o];done)|(simp [q05,HK.o,HP.o];done)|(simp [q05,HK.o,HP.o,a6.o];done)|(simp [q05,HK.o,HZ.o rfl];done)|(simp [q05,HK.o,HP.o,HZ.o rfl];done)|(simp [q05,HK.o,HZ.o trivial];done)|(simp [q05,HK.o,HP.o,HZ.o trivial];done)),a9.o⟩
  ·have HK:=vv hk;have t1:((kind:Int)==1)=false:=by rw[beq_eq_false_iff_ne];omega
   have t2:((kind:Int)==2)=false:=by rw[beq_eq_false_iff_ne];omega
   have t3:((kind:Int)==3)=false:=by rw[beq_eq_false_iff_ne];omega
   have t4:((kind:Int)==4)=true:=by rw[hk];rfl
   clear hk;rcases q7e p with ⟨hp,tp⟩|⟨hp,tp⟩;all_goals
    have HP:=vv hp;clear hp;go_wp2;go_ret
    exact⟨q0i (by rw[HV.o,HE.o,HO.o];first|(simp [q05,HK.o];done)|(simp [q05,HK.o,HP.o];done)|(simp [q05,HK.o,HP.o,a6.o];done)|(simp [q05,HK.o,HZ.o rfl];done)|(simp [q05,HK.o,HP.o,HZ.o rfl];done)|(simp [q05,HK.o,HZ.o trivial];done)|(simp [q05,HK.o,HP.o,HZ.o trivial];done)),a9.o⟩
  ·have t1:((kind:Int)==1)=false:=by rw[beq_eq_false_iff_ne];omega
   have t2:((kind:Int)==2)=false:=by rw[beq_eq_false_iff_ne];omega
   have t3:((kind:Int)==3)=false:=by rw[beq_eq_false_iff_ne];omega
   have t4:((kind:Int)==4)=false:=by rw[beq_eq_false_iff_ne];omega
   all_goals
    go_wp2;go_ret
    exact⟨q0i (by rw[HV.o,HE.o,HO.o];simp [q05,q1,q2,q3,q4]),a9.o⟩
theorem q8u(kind:Nat)(neg dneg:Bool)(s:ByteArray)(x:Int)(hneg:Bool)(A:Option Addr)(n c:Nat)(xs:List Nat)(hx:Int)(p:Nat)(w:World)(hr:Rd w A n c xs)(hmax:(s.size:Int)<=4611686018427387904)(hd:dneg=true):
  Calls Tryz.prog 25 #[q4Z kind neg dneg s x hneg A n c hx p] w fun e w'=>e=.returned (.int .i64 (q05 (q1l kind neg dneg s x hneg n xs hx p)))/\Below w.heap.size w w':=by
 obtain⟨dec,a2⟩:=yx (q0x s x);obtain⟨two,a1⟩:=yx (twoOk hneg n xs hx);obtain⟨nn,a0⟩:=yx (R11.noTwoB hneg n hx);obtain⟨V,hV⟩:=yx (q1l kind neg dneg s x hneg n xs hx p);have HD:=vv fun w=>Dec.Check dneg s x w hmax
 have HT:=vv fun w' (h:Below w.heap.size w w')=>Exa.Check hneg A n c xs hx w' (hr.below h rfl)
 have td:=Dec.decErr_zero s x;have tt:=Exa.exaErr_zero hneg n xs hx;obtain⟨zd,a7⟩:=yx (Dec.decErr s x);obtain⟨zt,a8⟩:=yx (Exa.exaErr hneg n xs hx);rw[<- a7,<- a2] at td;rw[<- a7] at HD;rw[<- a8,<- a1] at tt;rw[<- a8] at HT;rw[<- hV];unfold q1l at hV;rw[<- a2,<- a1,<- a0] at hV;have HV:=vv hV;have HO:=vv a0;have b1:=vv a1;obtain⟨w0,a5⟩:=yx (w.alloc (.cells #[.int .u8 (kind:Int),.bool neg,.bool dneg,.string s,.int .i64 x,.bool hneg,.slice A n c,.int .i64 hx,.int .u64 (p:Int)] 33));have b2:Below w.heap.size w w0:=by rw[a5];exact(Below.refl _ w).alloc lr _
 have b3:NumBox w0 w.heap.size kind neg dneg s x hneg A n c hx p:=by rw[a5];exact NumBox.made w _ _ _ _ _ _ _ _ _ _ _ _
 have HN:=vv b3;have HB:=vv b2;have b4:=vv a5;have a9:=vv ((Below.refl w.heap.size w).alloc (o:=.cells #[.int .u8 (kind:Int),.bool neg,.bool dneg,.string s,.int .i64 x,.bool hneg,.slice A n c,.int .i64 hx,.int .u64 (p:Int)] 33) lr);have b5:=hr.sm;clear a5 b2 b3 hr a2 a1 a0 hV a7 a8 hmax;obtain⟨c0,c1,c2,c3,c4,c5,c6,c7,c8,cl⟩:=HN.o;subst hd;have HE:Hid (q1c true s x=false):=vv (by unfold q1c;rfl);go_enter Tryz.func25,Tryz.ntmps25
 by_cases hn:n=0
 focus
  have tn:((n:Int)==0)=true:=by rw[hn];rfl
  have a6:=vv hn;cases th:(hx==0)
  focus
   have a3:hx≠0:=by rw[beq_eq_false_iff_ne] at th;exact th
   have HO:Hid (nn=false):=vv (by rw[HO.o];unfold R11.noTwoB;rw[decide_eq_false a3];simp);have HZ:Hid (two=true->n≠0):=vv (fun ht _=>by rw[b1.o] at ht;exact a3 (q17 ht hn).1);clear hn a3
  rotate_left 1
  focus
   have b0:hx=0:=by rw[beq_iff_eq] at th;exact th
   cases hneg
   focus
    have HO:Hid (nn=true):=vv (by rw[HO.o];unfold R11.noTwoB;rw[decide_eq_true hn,decide_eq_true b0];rfl);clear b0 hn
   rotate_left 1
   focus
    have HO:Hid (nn=false):=vv (by rw[HO.o];unfold R11.noTwoB;simp);have HZ:Hid (two=true->n≠0):=vv (fun ht _=>by rw[b1.o] at ht;exact absurd (q17 ht hn).2 (by decide));clear hn b0
 rotate_left 3
 focus
  have tn:((n:Int)==0)=false:=by rw[beq_eq_false_iff_ne];omega
  have HO:Hid (nn=false):=vv (by rw[HO.o];unfold R11.noTwoB;rw[decide_eq_false hn];rfl);have HZ:Hid (two=true->n≠0):=vv (fun _=>hn);clear hn
 all_goals
  rcases(by omega:kind=1\/kind=2\/kind=3\/kind=4\/(kind≠1/\kind≠2/\kind≠3/\kind≠4)) with hk|hk|hk|hk|⟨q1,q2,q3,q4⟩
  ·have HK:=vv hk;have t1:((kind:Int)==1)=true:=by rw[hk];rfl
   clear hk;go_wp2_with fail
   rw[<- b4.o];refine(HD.o _).mono ?_;rintro e w1 ⟨rfl,a4⟩;have HN:=vv (HN.o.below a4);have HB:=vn HB a4;clear a4 c0 c1 c2 c3 c4 c5 c6 c7 c8 cl;obtain⟨c0,c1,c2,c3,c4,c5,c6,c7,c8,cl⟩:=HN.o;cases dec<;>cases neg<;>rcases zero_or p with ⟨hp,tp⟩|⟨hp,tp⟩
   all_goals
    have HP:=vv hp;clear hp;go_wp2;go_ret
    exact⟨q0i (by rw[HV.o,HE.o,HO.o];first|(simp [q05,HK.o];done)|(simp [q05,HK.o,HP.o];done)|(simp [q05,HK.o,HP.o,a6.o];done)|(simp [q05,HK.o,HZ.o rfl];done)|(simp [q05,HK.o,HP.o,HZ.o rfl];done)|(simp [q05,HK.o,HZ.o trivial];done)|(simp [q05,HK.o,HP.o,HZ.o trivial];done)),HB.o⟩
  ·have HK:=vv hk;have t1:((kind:Int)==1)=false:=by rw[beq_eq_false_iff_ne];omega
   have t2:((kind:Int)==2)=true:=by rw[hk];rfl
   clear hk;go_wp2_with fail
   rw[<- b4.o];refine(HT.o _ HB.o).mono ?_;rintro e w1 ⟨rfl,a4⟩;have HN:=vv (HN.o.below a4);have HB:=vn HB a4;clear a4 c0 c1 c2 c3 c4 c5 c6 c7 c8 cl;obtain⟨c0,c1,c2,c3,c4,c5,c6,c7,c8,cl⟩:=HN.o;cases two<;>(try cases hneg)<;>cases neg
   all_goals
    go_wp2;go_ret
    exact⟨q0i (by rw[HV.o,HE.o,HO.o];first|(simp [q05,HK.o];done)|(simp [q05,HK.o,HP.o];done)|(simp [q05,HK.o,HP.o,a6.o];done)|(simp [q05,HK.o,HZ.o rfl];done)|(simp [q05,HK.o,HP.o,HZ.o rfl];done)|(simp [q05,HK.o,HZ.o trivial];done)|(simp [q05,HK.o,HP.o,HZ.o trivial];done)),HB.o⟩
  ·have HK:=vv hk;have t1:((kind:Int)==1)=false:=by rw[beq_eq_false_iff_ne];omega
   have t2:((kind:Int)==2)=false:=by rw[beq_eq_false_iff_ne];omega
   have t3:((kind:Int)==3)=true:=by rw[hk];rfl
   clear hk;all_goals
    go_wp2;go_ret
    exact⟨q0i (by rw[HV.o,HE.o,HO.o];first|(simp [q05,HK.o];done)|(simp [q05,HK.o,HP.o];done)|(simp [q05,HK.o,HP.o,a6.o];done)|(simp [q05,HK.o,HZ.o rfl];done)|(simp [q05,HK.o,HP.o,HZ.o rfl];done)|(simp [q05,HK.o,HZ.o trivial];done)|(simp [q05,HK.o,HP.o,HZ.o trivial];done)),a9.o⟩
  ·have HK:=vv hk;have t1:((kind:Int)==1)=false:=by rw[beq_eq_false_iff_ne];omega
   have t2:((kind:Int)==2)=false:=by rw[beq_eq_false_iff_ne];omega
   have t3:((kind:Int)==3)=false:=by rw[beq_eq_false_iff_ne];omega
   have t4:((kind:Int)==4)=true:=by rw[hk];rfl
   clear hk;all_goals
    go_wp2;go_ret
    exact⟨q0i (by rw[HV.o,HE.o,HO.o];first|(simp [q05,HK.o];done)|(simp [q05,HK.o,HP.o];done)|(simp [q05,HK.o,HP.o,a6.o];done)|(simp [q05,HK.o,HZ.o rfl];done)|(simp [q05,HK.o,HP.o,HZ.o rfl];done)|(simp [q05,HK.o,HZ.o trivial];done)|(simp [q05,HK.o,HP.o,HZ.o trivial];done)),a9.o⟩
  ·have t1:((kind:Int)==1)=false:=by rw[beq_eq_false_iff_ne];omega
   have t2:((kind:Int)==2)=false:=by rw[beq_eq_false_iff_ne];omega
   have t3:((kind:Int)==3)=false:=by rw[beq_eq_false_iff_ne];omega
   have t4:((kind:Int)==4)=false:=by rw[beq_eq_false_iff_ne];omega
   all_goals
    go_wp2;go_ret
    exact⟨q0i (by rw[HV.o,HE.o,HO.o];simp [q05,q1,q2,q3,q4]),a9.o⟩
theorem Check(kind:Nat)(neg dneg:Bool)(s:ByteArray)(x:Int)(hneg:Bool)(A:Option Addr)(n c:Nat)(xs:List Nat)(hx:Int)(p:Nat)(w:World)(hr:Rd w A n c xs)(hmax:(s.size:Int)<=4611686018427387904):
  Calls Tryz.prog 25 #[q4Z kind neg dneg s x hneg A n c hx p] w fun e w'=>e=.returned (.int .i64 (q05 (q1l kind neg dneg s x hneg n xs hx p)))/\Below w.heap.size w w':=by
 cases hd:dneg
 ·cases he:s.toList.isEmpty
  ·exact q8x kind neg false s x hneg A n c xs hx p w hr hmax he rfl
  ·cases tx:(x==0)
   ·exact q8w kind neg false s x hneg A n c xs hx p w hr hmax he rfl tx
   ·exact q8v kind neg false s x hneg A n c xs hx p w hr hmax he rfl tx
 ·exact q8u kind neg true s x hneg A n c xs hx p w hr hmax rfl
end Go.Proofs.YtcdimmblnbkjjaaGreatDoor.Lex
