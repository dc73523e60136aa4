/- Lemmas. -/
import Derived.Test.YtppgcnhlpnmieaaGreatDoorPartBT
import Derived.Test.YtppgcnhlpnmieaaGreatDoorPartBU
import Derived.Test.YtppgcnhlpnmieaaGreatDoorPartBK
import Derived.Test.YtppgcnhlpnmieaaGreatDoorPartBO
import Derived.Test.YtppgcnhlpnmieaaGreatDoorPartAV
import Derived.Test.YtppgcnhlpnmieaaGreatDoorPartAW
import Derived.Test.YtppgcnhlpnmieaaGreatDoorPartBM
set_option linter.all false
set_option maxHeartbeats 4000000
set_option maxRecDepth 100000
namespace Go.Proofs.YtppgcnhlpnmieaaGreatDoor.Hx
open Go Go.RowKit R5 Scn Fms Exa
theorem q8L(E F:Int)(b:Nat)(w:World)(hb:b<18446744073709551616)(h:q0b E F b≠0):
  Calls Tryz.prog 53 #[fm E F,.int .u64 (b:Int)] w fun e w'=>e=.returned (.tuple #[q2V false none 0 0 0,.bool false,.int .i64 (q0b E F b)])/\Below w.heap.size w w':=by
 have a2:=vv fun w=>qag E F b w hb h
 obtain⟨q,hq⟩:=yx (q0b E F b);rw[<- hq] at a2 h ⊢;have t1:(q != 0)=true:=by rw[bne_iff_ne];exact h
 obtain⟨w0,a1⟩:=yx ((w.alloc (.cells #[.int .i64 E,.int .i64 F] 23)).alloc (.cells #[.bool false,.slice none 0 0,.int .i64 0] 30));have hC:Ctx w [(w.heap.size+1,30,[.bool false,.slice none 0 0,.int .i64 0]),(w.heap.size,23,[.int .i64 E,.int .i64 F])] w0:=by
  rw[a1];exact((Ctx.nil w).new 23 [.int .i64 E,.int .i64 F] rfl).new 30 [.bool false,.slice none 0 0,.int .i64 0] (by simp)
 have HC:=vv hC;have HW:=vv a1;clear hq h hb a1 hC;go_enter Tryz.func53,Tryz.ntmps53
 go_wp2_with fail
 rw[<- HW.o];refine(a2.o _).mono ?_;rintro e w1 ⟨rfl,hB⟩;have a5:=vv (HC.o.step hB);clear hB;have a0:=a5.o.new 101 [.bool false,.int .i64 0,.int .u64 0] rfl;replace a0:Ctx w [(w1.heap.size,101,[.bool false,.int .i64 0,.int .u64 0]),(w.heap.size+1,30,[.bool false,.slice none 0 0,.int .i64 0]),(w.heap.size,23,[.int .i64 E,.int .i64 F])] (w1.alloc (.cells #[.bool false,.int .i64 0,.int .u64 0] 101)):=a0;have a3:=vv a0;have a6:=vv (a0.get 1 rfl);clear a0;go_wp2_with (with_reducible refine q07 rfl 30 (.tmp 4) (.tmp 16) rfl (w.heap.size+1) [.bool false,.slice none 0 0,.int .i64 0] rfl rfl 30 _ a6.o (by kernel_rfl) rfl rfl ?_)
 intro w8 hB a4;have a7:=vv (q0a a3.o.low a4 a3.o.low.size (Nat.le_succ _));obtain⟨k0,k1,k2⟩:=blk3 hB;have K:=vv (And.intro k0 (And.intro k1 k2));clear hB a4 k0 k1 k2;go_wp2;obtain⟨k0,k1,k2⟩:=K.o;exact bodyPost_ret (v:=.tuple #[q2V false none 0 0 0,.bool false,.int .i64 q]) (by simp [results,Tryz.results53,go_sem,k0,k1,k2]) rfl ⟨rfl,a7.o⟩
theorem qai(E F:Int)(b:Nat)(w:World)(hb:b<18446744073709551616)(h:q0b E F b≠0):
  Calls Tryz.prog 18 #[fm E F,.int .u64 b] w fun e w'=>e=.returned (.tuple #[.string ⟨#[]⟩,.int .i64 (q0b E F b)])/\Below w.heap.size w w':=by
 obtain⟨w0,a0⟩:=yx (w.alloc (.cells #[.int .i64 E,.int .i64 F] 23));have hB:Below w.heap.size w w0:=by rw[a0];exact(Below.refl _ _).alloc lr _
 have a2:=vv (q8L E F b w0 hb h);obtain⟨q,hq⟩:=yx (q0b E F b);rw[<- hq] at a2 h ⊢;have t1:(q != 0)=true:=by rw[bne_iff_ne];exact h
 have HW:=vv a0;have HB:=vv hB;clear hB a0 hb h hq;go_enter Tryz.func18,Tryz.ntmps18
 go_wp2_with fail
 rw[<- HW.o];refine a2.o.mono ?_;rintro e w1 ⟨rfl,hB⟩;have a1:=vn HB hB;have a3:Hid (Below w.heap.size w (w1.alloc (.cells #[.bool false,.slice none 0 0,.int .i64 0] 30))):=vv (a1.o.alloc a1.o.size _);clear hB;go_wp2;go_ret2
 exact⟨rfl,by first|exact a3.o|exact a1.o⟩
theorem Places_nf(E F:Int)(b:Nat)(places:Int)(mode:Nat)(w:World)(hb:b<18446744073709551616)(h:q0b E F b≠0):
  Calls Tryz.prog 20 #[fm E F,.int .u64 b,.int .i64 places,.int .u8 (mode:Int)] w fun e w'=>e=.returned (.tuple #[.string ⟨#[]⟩,.int .i64 (q0b E F b)])/\Below w.heap.size w w':=by
 obtain⟨w0,a0⟩:=yx (w.alloc (.cells #[.int .i64 E,.int .i64 F] 23));have hB:Below w.heap.size w w0:=by rw[a0];exact(Below.refl _ _).alloc lr _
 have a1:=vv (Fms.Fits E F b w0 hb);obtain⟨q,hq⟩:=yx (q0b E F b);rw[<- hq] at a1 h ⊢;have t1:(q==0)=false:=by rw[beq_eq_false_iff_ne];exact h
 have t2:(q != 0)=true:=by rw[bne_iff_ne];exact h
 have HW:=vv a0;have HB:=vv hB;clear hB a0 hb h hq;go_enter Tryz.func20,Tryz.ntmps20
 go_wp2_with fail
 rw[<- HW.o];refine a1.o.mono ?_;rintro e w1 ⟨rfl,hB⟩;have a2:=vn HB hB;clear hB;go_wp2;go_ret2
 exact⟨rfl,a2.o⟩
theorem Places_pl(E F:Int)(b:Nat)(places:Int)(mode:Nat)(w:World)(hb:b<18446744073709551616)(h:q0b E F b=0)(hp:places<0\/2000<places):
  Calls Tryz.prog 20 #[fm E F,.int .u64 b,.int .i64 places,.int .u8 (mode:Int)] w fun e w'=>e=.returned (.tuple #[.string ⟨#[]⟩,.int .i64 101])/\Below w.heap.size w w':=by
 obtain⟨w0,a0⟩:=yx (w.alloc (.cells #[.int .i64 E,.int .i64 F] 23));have hB:Below w.heap.size w w0:=by rw[a0];exact(Below.refl _ _).alloc lr _
 have a1:=vv (Fms.Fits E F b w0 hb);rw[h] at a1;have HW:=vv a0;have HB:=vv hB;have a2:places<0\/(0<=places/\2000<places):=by omega
 clear hB a0 hb h hp;rcases a2 with hp|⟨hp,a4⟩;all_goals
  go_enter Tryz.func20,Tryz.ntmps20
  go_wp2_with fail
  rw[<- HW.o];refine a1.o.mono ?_;rintro e w1 ⟨rfl,hB⟩;have a3:=vn HB hB;clear hB;go_wp2;go_ret2
  exact⟨rfl,a3.o⟩
theorem Places_md(E F:Int)(b:Nat)(places:Int)(mode:Nat)(w:World)(hb:b<18446744073709551616)(h:q0b E F b=0)(hp:0<=places)(hp2:places<=2000)(hm:4<mode):
  Calls Tryz.prog 20 #[fm E F,.int .u64 b,.int .i64 places,.int .u8 (mode:Int)] w fun e w'=>e=.returned (.tuple #[.string ⟨#[]⟩,.int .i64 7])/\Below w.heap.size w w':=by
 obtain⟨w0,a0⟩:=yx (w.alloc (.cells #[.int .i64 E,.int .i64 F] 23));have hB:Below w.heap.size w w0:=by rw[a0];exact(Below.refl _ _).alloc lr _
 have a1:=vv (Fms.Fits E F b w0 hb);rw[h] at a1;have HW:=vv a0;have HB:=vv hB;have a3:(4:Int)<(mode:Int):=by omega
 clear hB a0 hb h hm;go_enter Tryz.func20,Tryz.ntmps20
 go_wp2_with fail
 rw[<- HW.o];refine a1.o.mono ?_;rintro e w1 ⟨rfl,hB⟩;have a2:=vn HB hB;clear hB;go_wp2;go_ret2
 exact⟨rfl,a2.o⟩
theorem q9a(E F b:Nat)(places:Int)(mode:Nat)(w:World)(h1:2<=E)(h2:E<=11)(h3:1<=F)(h4:F<=52)(hb:b<2^(1+E+F))(hfit:q0b E F b=0)(hf:q0f E F b=R3.tw E-1)(hs:Std w)(hp:0<=places)(hp2:places<=2000)(hm:mode<=4):
  Calls Tryz.prog 20 #[fm E F,.int .u64 b,.int .i64 places,.int .u8 (mode:Int)] w fun e w'=>e=.returned (.tuple #[.string ⟨#[]⟩,.int .i64 8])/\Below w.heap.size w w':=by
 have a1:b<18446744073709551616:=Nat.lt_of_lt_of_le hb (Nat.le_trans (Nat.pow_le_pow_right (by decide) (show 1+E+F<=64 by omega)) (by decide));obtain⟨w0,a3⟩:=yx (w.alloc (.cells #[.int .i64 (E:Int),.int .i64 (F:Int)] 23));have hC:Ctx w [(w.heap.size,23,[.int .i64 (E:Int),.int .i64 (F:Int)])] w0:=by rw[a3];exact(Ctx.nil w).new _ _ rfl
 have a5:=vv (Fms.Fits E F b w0 a1);rw[hfit] at a5;have a6:=vv fun w' (h:Below w.heap.size w w')=>q3c E F b w' h1 h2 h3 h4 hb hf (hs.below h)
 obtain⟨neg,a2⟩:=yx (q0L E F b);rw[<- a2] at a6;have HW:=vv a3;have HC:=vv hC;have a8:(mode:Int)<=4:=by omega
 clear hC a3 hf hs hb h1 h2 h3 h4 a2 hfit hm a1;go_enter Tryz.func20,Tryz.ntmps20
 go_wp2_with fail
 rw[<- HW.o];refine a5.o.mono ?_;rintro e w1 ⟨rfl,hB⟩;have a0:=vv (HC.o.step hB);clear hB;have c0:=a0.o.get 0 rfl |>.cell 0;have c1:=a0.o.get 0 rfl |>.cell 1;have cl:=a0.o.get 0 rfl |>.lt;simp only[List.getElem?_cons_zero,List.getElem?_cons_succ] at c0 c1;go_wp2_with fail
 refine(a6.o _ a0.o.low).mono ?_;rintro e w2 ⟨rfl,hB⟩;have a4:=vv (a0.o.low.trans (hB.mono a0.o.low.size));have a7:Hid (Below w.heap.size w (w2.alloc (.cells #[.bool false,.slice none 0 0,.int .i64 0] 30))):=vv (a4.o.alloc a4.o.size _);clear hB c0 c1 cl;go_wp2;go_ret2
 exact⟨rfl,by first|exact a7.o|exact a4.o⟩
abbrev fM(E F b:Nat):Nat:=q0U F (q0f E F b) (q0u F b)
abbrev fN(E F b:Nat):Nat:=q6k (fM E F b)
abbrev fX(E F b:Nat):Int:=qb4 (fM E F b) (q1k E F (q0f E F b))
abbrev fG(E F b:Nat):Bool:=qbU (q0L E F b) (fM E F b)
theorem q6K{M:Nat}(h:0<M):q6k M%2=1:=by
 unfold q6k;rw[if_neg (by omega)];obtain⟨m,hm⟩:=q2O h;have e:M/2^tz M=2*m+1:=Nat.div_eq_of_eq_mul_right (Nat.two_pow_pos _) hm;omega
theorem q2c{M:Nat}(h:0<M):0<q6k M:=by have:=q6K h;omega
theorem q3l(M:Nat):q6k M<=M:=by
 unfold q6k;split
 ·omega
 ·exact Nat.div_le_self _ _
theorem q5Q{E F b:Nat}(h4:F<=52):fM E F b<2^53:=by
 have a1:q0u F b<2^F:=Nat.mod_lt _ (Nat.two_pow_pos _);have a0:2^F<=2^52:=Nat.pow_le_pow_right (by decide) h4;unfold fM q0U;split<;>omega
theorem qbq{E F b:Nat}(h1:2<=E)(h2:E<=11)(h4:F<=52):-4000<=fX E F b/\fX E F b<=4000:=by
 have hx:q0f E F b<2^11:=Nat.lt_of_lt_of_le (Nat.mod_lt _ (Nat.two_pow_pos _)) (Nat.pow_le_pow_right (by decide) h2);have hP:2^(E-1)<=2^10:=Nat.pow_le_pow_right (by decide) (by omega);have hM:=q5Q (E:=E) (b:=b) h4;unfold fX qb4 q1k;obtain⟨P,a0⟩:=yx (2^(E-1));rw[<- a0] at hP ⊢;clear a0;split
 ·omega
 ·next h =>
  have ht:=q0Y (n:=fM E F b) (by omega);have hb:=q0t hM;split<;>omega
def q2K(N:Nat):Nat:=(bl N+up4 (bl N)-1)/4
theorem q3f{N:Nat}(h:0<N):4*q2K N+1=bl N+up4 (bl N):=by
 have:=q1Q h;unfold q2K up4;omega
theorem q95{N:Nat}(h:N<2^53):q2K N<=13:=by
 have:=q0t h;unfold q2K up4;omega
def txN(N q3F:Nat):Nat:=if N=0 then 0 else N*2^(up4 (bl N)+4*q3F)
def txX(N:Nat)(x:Int):Int:=if N=0 then 0 else x+(bl N:Int)-1
theorem q8e(neg:Bool)(N:Nat)(x:Int):q2j neg N x=txtL neg (hexL (txN N 0) (q2K N+1)) (txX N x):=by
 unfold q2j txN txX;split
 ·next h=>subst h;rfl
 ·next h =>
  have:=q3f (Nat.pos_of_ne_zero h);rw[show(bl N+up4 (bl N)+3)/4=q2K N+1 by omega]
  rfl
end Go.Proofs.YtppgcnhlpnmieaaGreatDoor.Hx
namespace Go.Proofs.YtppgcnhlpnmieaaGreatDoor.R12
open Go Go.RowKit R5 Scn Fms Exa Hx
theorem q4P(b:Bool)(N M:Nat):sg b N*(M:Int)=sg b (N*M):=by
 cases b
 ·show(N:Int)*M=((N*M:Nat):Int);rw[Int.natCast_mul]
 ·show -(N:Int)*M = -((N*M:Nat):Int);rw[Int.natCast_mul,Int.neg_mul]
theorem q77{E F b:Nat}(h:0<fM E F b):fM E F b=fN E F b*2^tz (fM E F b)/\bl (fM E F b)=bl (fN E F b)+tz (fM E F b)/\fX E F b=q1k E F (q0f E F b)+(tz (fM E F b):Int):=by
 have h1:=q8m h;refine⟨h1,?_,?_⟩
 ·have e:fM E F b/2^tz (fM E F b)=fN E F b:=by
   show _=q6k _;unfold q6k;rw[if_neg (by omega)]
  have hp:0<fN E F b:=q2c h;have:=q5b (x:=fM E F b) (b:=tz (fM E F b)) (by rw[e];omega);rw[e] at this;omega
 ·show qb4 _ _=_;unfold qb4;rw[if_neg (by omega)]
theorem q74{E F b:Nat}(h:0<fM E F b):q45 E F (q0f E F b) (q0u F b)=fX E F b+(bl (fN E F b):Int)-1:=by
 obtain⟨-,h2,h3⟩:=q77 h;rw[h3];obtain⟨t,ht⟩:=yx (tz (fM E F b));rw[<- ht] at h2 ⊢;have a1:q0u F b<2^F:=Nat.mod_lt _ (Nat.two_pow_pos _);have a0:R3.tw (E-1)=2^(E-1):=rfl;unfold q45 q1k;rw[a0];by_cases hx:q0f E F b=0
 ·have hM:fM E F b=q0u F b:=by show q0U _ _ _=_;unfold q0U;rw[if_pos hx]
  rw[hM] at h2;rw[if_pos hx,if_pos hx];omega
 ·have hM:fM E F b=q0u F b+2^F:=by show q0U _ _ _=_;unfold q0U;rw[if_neg hx]
  have hb:bl (fM E F b)=F+1:=by
   rw[hM];exact qbz (by rw[Nat.pow_succ];omega) (by rw[Nat.add_sub_cancel];omega) (by omega)
  rw[hb] at h2;rw[if_neg hx,if_neg hx];omega
theorem q4Y{E F b:Nat}(h1:2<=E)(h2:E<=11)(h4:F<=52):-4000<=fX E F b+(bl (fN E F b):Int)-1/\fX E F b+(bl (fN E F b):Int)-1<=4053\/fN E F b=0:=by
 rcases Nat.eq_zero_or_pos (fN E F b) with h|h
 ·exact .inr h
 ·have hx:=qbq (b:=b) (F:=F) h1 h2 h4;have hl:bl (fN E F b)<=53:=q0t (Nat.lt_of_le_of_lt (q3l _) (q5Q h4));have:=q1Q h;exact .inl ⟨by omega,by omega⟩
theorem q9x(neg:Bool){E F b q:Nat}(e:Int)(h:0<fM E F b)(he:e=fX E F b+(bl (fN E F b):Int)-1):
  sg neg (fM E F b*p2 (q1k E F (q0f E F b)))*((p2 (-e):Nat):Int)*((2^(4*q):Nat):Int)*((p2 (-q1h (fN E F b) q):Nat):Int)
   = sg neg (fN E F b*p2 (q1h (fN E F b) q))*((p2 (-q1k E F (q0f E F b))*p2 e:Nat):Int):=by
 obtain⟨h1,h2,h3⟩:=q77 h;have hp:0<bl (fN E F b):=q1Q (q2c h);rw[q4P,q4P,q4P,q4P];congr 1
 rw[h3] at he;obtain⟨t,ht⟩:=yx (tz (fM E F b));obtain⟨N,hN⟩:=yx (fN E F b);obtain⟨p,a0⟩:=yx (q1k E F (q0f E F b));rw[<- ht,<- hN] at h1;rw[h1,<- hN,<- a0];rw[<- ht,<- hN,<- a0] at he;rw[<- hN] at hp;have hk:q1h N q=4*(q:Int)-((bl N:Int)-1):=rfl;obtain⟨k,a1⟩:=yx (q1h N q);rw[<- a1] at hk ⊢;unfold p2;have e1:N*2^t*2^p.toNat*2^(-e).toNat*2^(4*q)*2^(-k).toNat=N*2^(t+p.toNat+(-e).toNat+4*q+(-k).toNat):=by
  simp only[Nat.pow_add,Nat.mul_assoc]
 have e2:N*2^k.toNat*(2^(-p).toNat*2^e.toNat)=N*2^(k.toNat+((-p).toNat+e.toNat)):=by
  simp only[Nat.pow_add,Nat.mul_assoc]
 rw[e1,e2];congr 2
 omega
theorem qcd(neg:Bool){N:Nat}{k:Int}(ho:N%2=1):decide (ld (sg neg (N*p2 k)) (p2 (-k))=1)=decide (0<=k):=by
 by_cases h:0<=k
 ·rw[decide_eq_true h,decide_eq_true_iff,q0q (n:=-k) (by omega)];unfold ld;rw[Nat.gcd_one_right]
 ·rw[decide_eq_false h,decide_eq_false_iff_not,q0q (n:=k) (by omega),Nat.mul_one];unfold ld;rw[q0C];have hc:Nat.Coprime N 2:=by
   unfold Nat.Coprime;rw[Nat.gcd_comm,Nat.gcd_rec,ho]
   rfl
  have hg:Nat.gcd N (p2 (-k))=1:=Nat.Coprime.pow_right _ hc;rw[hg,Nat.div_one];have h2:2^1<=p2 (-k):=Nat.pow_le_pow_right (by decide) (by omega);omega
theorem qcc(neg:Bool){N:Nat}{k:Int}(h:0<=k):lp (sg neg (N*p2 k)) (p2 (-k))=sg neg (N*p2 k):=by
 rw[q0q (n:=-k) (by omega)];unfold lp;rw[Nat.gcd_one_right,Nat.div_one,q0C];cases neg
 ·rw[show sg false (N*p2 k)=((N*p2 k:Nat):Int) from rfl,decide_eq_false (by omega)]
  rfl
 ·rcases Nat.eq_zero_or_pos (N*p2 k) with h0|h0
  ·rw[h0];rfl
  ·rw[show sg true (N*p2 k) = -((N*p2 k:Nat):Int) from rfl,decide_eq_true (by omega)]
   rfl
theorem q9O{N k:Nat}:bl (N*2^k)<=bl N+k:=q0t (by
 have h:=Nat.mul_lt_mul_of_pos_right (q1l N) (Nat.two_pow_pos k)
 rwa [<- Nat.pow_add] at h)
theorem qap(E F b q:Nat)(e:Int)(w:World)(h1:2<=E)(h2:E<=11)(h3:1<=F)(h4:F<=52)(hb:b<2^(1+E+F))(h0:0<fM E F b)(he:e=fX E F b+(bl (fN E F b):Int)-1)(hq:q<=2000)(hst:Std w):
  Calls Tryz.prog 63 #[fm E F,.int .u64 (b:Int),.int .i64 e,.int .i64 (q:Int)] w (q2x (sg (q0L E F b) (fN E F b*p2 (q1h (fN E F b) q))) (p2 (-q1h (fN E F b) q)) w):=by
 have e4:=q4Y (b:=b) (F:=F) h1 h2 h4;have e5:0<fN E F b:=q2c h0;have i3:-4000<=e:=by omega
 have i4:e<=4053:=by omega
 have HX:=vv (q9x (q0L E F b) (q:=q) e h0 he);have c5:Hid (0<p2 (-q1h (fN E F b) q)):=vv (q0D _);obtain⟨T,hT⟩:=yx (sg (q0L E F b) (fN E F b*p2 (q1h (fN E F b) q)));obtain⟨U,hU⟩:=yx (p2 (-q1h (fN E F b) q));have b4:=vv fun w' (hs:Std w')=>qdq E F b w' h1 h2 h3 h4 hb hs
 have e6:=qas (b:=b) (F:=F) h1 h2 h4;have b5:bl (sg (q0L E F b) (fM E F b*p2 (q1k E F (q0f E F b)))).natAbs<=4000:=by
  rw[q0C];have k1:=q13 (fM E F b) (p2 (q1k E F (q0f E F b)));have k2:bl (fM E F b)<=53:=q0t (q5Q h4);have k3:=Hx.bl_p2 (q1k E F (q0f E F b));omega
 have b6:bl (p2 (-q1k E F (q0f E F b)))<=4000:=by
  have k3:=Hx.bl_p2 (-q1k E F (q0f E F b));omega
 obtain⟨P,hP⟩:=yx (sg (q0L E F b) (fM E F b*p2 (q1k E F (q0f E F b))));obtain⟨D,hD⟩:=yx (p2 (-q1k E F (q0f E F b)));rw[<- hT,<- hU,<- hP,<- hD] at HX;rw[<- hU] at c5;rw[<- hT,<- hU];rw[<- hP] at b5;rw[<- hD] at b6
 change Hid (∀w',Std w'->Calls Tryz.prog 140 #[fm E F,.int .u64 (b:Int)] w' (q2x (sg (q0L E F b) (fM E F b*p2 (q1k E F (q0f E F b)))) (p2 (-q1k E F (q0f E F b))) w')) at b4
 rw[<- hP,<- hD] at b4;obtain⟨j,hj⟩:=yx (e.natAbs);have c6:max e (-e)=(j:Int):=by omega
 have i5:(j:Int)<=4053:=by omega
 have c7:j<=4053:=by omega
 have i6:(q:Int)<=2000:=by omega
 have HJ:Hid ((0<e->p2 (-e)=1/\p2 e=2^j)/\(e<=0->p2 (-e)=2^j/\p2 e=1)):=vv ⟨fun h=>⟨q0q (by omega),by rw[show e=(j:Int) by omega,q1B]⟩,fun h=>⟨by rw[show -e=(j:Int) by omega,q1B],q0q (by omega)⟩⟩;obtain⟨w0,b7⟩:=yx (w.alloc (.cells #[.int .i64 (E:Int),.int .i64 (F:Int)] 23));have hC:Ctx w [(w.heap.size,23,[.int .i64 (E:Int),.int .i64 (F:Int)])] w0:=by rw[b7];exact(Ctx.nil w).new _ _ rfl
 have c0:=hC.get 0 rfl |>.cell 0;have c1:=hC.get 0 rfl |>.cell 1;have cl:=hC.get 0 rfl |>.lt;simp only[List.getElem?_cons_zero,List.getElem?_cons_succ] at c0 c1;have b8:=vv hC.low;have HW:=vv b7;have a4:=vv hst;have a1:=vv (And.intro b5 b6);have e7:=vv c6;have a5:=vv (And.intro c7 hq);clear h1 h2 h3 h4 hb h0 he hq hst e4 e5 e6 b5 b6 hP hD hT hU hj c6 c7 b7 hC;go_enter Tryz.func63,Tryz.ntmps63
 go_wp2_with fail
 rw[<- HW.o];go_wp2_with fail
 refine(b4.o _ (a4.o.below b8.o)).mono ?_;rintro e' w1 ⟨gx,rfl,c8,hR,hB⟩;have c9:=vv hR;have HG:Hid (w.heap.size<=gx):=vv (Nat.le_trans b8.o.size c8);have d0:=vn b8 hB;clear hR hB c8 c0 c1 cl;go_wp2_with fail
 obtain⟨g2,a6⟩:=yx (w1.heap.size);have a7:Hid (gx<g2):=vv (by rw[a6];exact c9.o.lt);obtain⟨z0,z1⟩:=q2P w1;obtain⟨y0,y1⟩:=q1x (w1.alloc q4q);rw[World.size_alloc] at y0;obtain⟨w2,a8⟩:=yx ((w1.alloc q4q).alloc q8z);have z2:=z0.below y1;have d1:=vv (d0.o.trans ((z1.trans (y1.mono z1.size)).mono d0.o.size));have d2:=vv ((c9.o.below z1).below y1);rw[<- a8,<- a6] at z2 y0;rw[<- a8] at d1 d2;rw[<- a8,<- a6];have e8:=vv z2;have e9:=vv y0;clear z0 z1 y0 y1 z2 a8 a6;refine(B.NewInt 1 _ (by omega) (by omega)).mono ?_;rintro e' w3 ⟨g3,rfl,f0,hI,hB⟩;have f1:=vv hI;have f2:=vv (e8.o.below hB);have d3:=vv (e9.o.below hB);have f3:=vv (d2.o.below hB);have d4:=vn d1 hB;clear hI hB f0;go_wp2_with fail
 rw[e7.o];refine(B.Lsh (g2+1) 0 g3 0 j 0 1 _ d3.o f1.o (by exact Sz.small (by decide)) (by have:=a5.o.1;omega)).mono ?_;rintro e' w4 hP;have hP:=hP.f d3.o;have f4:=vv hP.2.1;have f5:=vv (f2.o.fs1 hP.2.2 (by omega));have f6:=vv (f3.o.fs1 hP.2.2 (by have:=a7.o;omega));have d5:=vv (hP.below d4.o d4.o.size (by have:=HG.o;have:=a7.o;omega));obtain⟨rfl,-,-⟩:=hP;go_wp2_with fail
 refine(B.SetInt g2 (g2+1) _ _ f5.o.sh f4.o).mono ?_;rintro e' w5 hP;have a9:=vv (f6.o.fs1 hP.2.2 (by have:=a7.o;omega));have a2:=vv (hP.below d5.o d5.o.size (by have:=HG.o;have:=a7.o;omega));obtain⟨rfl,hQ,-⟩:=hP;have d6:=vv (RatAt.one2 hQ);have d7:Hid (Sz (2^j)):=vv (by unfold Sz;rw[q4z];have:=a5.o.1;omega);have f7:=vv (Nat.two_pow_pos j);clear hQ;have f8:Hid (∀w6,RatAt w6 gx (P*((p2 (-e):Nat):Int)) (D*p2 e)->∀g9 w9,Below w.heap.size w w9->RatAt w9 gx (P*((p2 (-e):Nat):Int)) (D*p2 e)->RatAt w9 g9 ((2^(4*q):Nat):Int) 1 ->
   Calls Tryz.prog 111 #[.pointer (some ⟨gx,0,none⟩),.pointer (some ⟨gx,0,none⟩),.pointer (some ⟨g9,0,none⟩)] w9 fun e w'=>e=.returned (.pointer (some ⟨gx,0,none⟩))/\RatAt w' gx T U/\Below w.heap.size w w'):=vv (by
  intro _ _ g9 w9 b9 d8 h9;have s1:bl (p2 (-e))<=4054:=by have:=Hx.bl_p2 (-e);omega
  have s2:bl (p2 e)<=4054:=by have:=Hx.bl_p2 e;omega
  have s3:bl (2^(4*q))<=8001:=by rw[q4z];have:=a5.o.2;omega
  have s4:bl (P*((p2 (-e):Nat):Int)).natAbs<=9000:=by
   rw[Int.natAbs_mul,Int.natAbs_natCast];have:=q13 P.natAbs (p2 (-e));have:=a1.o.1;omega
  have s5:bl (D*p2 e)<=9000:=by
   have:=q13 D (p2 e);have:=a1.o.2;omega
  refine(B.MulR gx gx g9 _ _ _ _ w9 d8.sh d8 h9 (a4.o.below b9) (by unfold Sz;omega) (by unfold Sz;omega) (by unfold Sz;rw[Int.natAbs_natCast];omega) (by unfold Sz;decide)).mono ?_;rintro e' w10 hP;have a0:=hP.below b9 b9.size HG.o;obtain⟨rfl,hR,-⟩:=hP;refine⟨rfl,hR.cross c5.o ?_,a0⟩;rw[Nat.mul_one];exact HX.o)
 by_cases hlt:0<e
 obtain⟨j1,j2⟩:=HJ.o.1 hlt;have a3:=vv (And.intro j1 j2);clear j1 j2;go_wp2_with fail
 refine(B.QuoR gx gx g2 P (2^j) D 1 _ a9.o.sh a9.o d6.o f7.o (a4.o.below a2.o) (by unfold Sz;have:=a1.o.1;omega) (by unfold Sz;have:=a1.o.2;omega) d7.o (by unfold Sz;decide)).mono ?_;rintro e' w6 hP;have c2:=vv (hP.below a2.o a2.o.size HG.o);obtain⟨rfl,hR,-⟩:=hP;have b0:Hid (RatAt w6 gx (P*((p2 (-e):Nat):Int)) (D*p2 e)):=vv (by rw[a3.o.1,a3.o.2];exact hR);clear hR;go_wp2_with fail
 rotate_left;obtain⟨j1,j2⟩:=HJ.o.2 (by omega);have a3:=vv (And.intro j1 j2);clear j1 j2;go_wp2_with fail
 refine(B.MulR gx gx g2 P _ D 1 _ a9.o.sh a9.o d6.o (a4.o.below a2.o) (by unfold Sz;have:=a1.o.1;omega) (by unfold Sz;have:=a1.o.2;omega) (by rw[Int.natAbs_natCast];exact d7.o) (by unfold Sz;decide)).mono ?_;rintro e' w6 hP;have c2:=vv (hP.below a2.o a2.o.size HG.o);obtain⟨rfl,hR,-⟩:=hP;have b0:Hid (RatAt w6 gx (P*((p2 (-e):Nat):Int)) (D*p2 e)):=vv (by rw[a3.o.1,a3.o.2];exact hR);clear hR;go_wp2_with fail
 rotate_left;all_goals
  obtain⟨g7,b1⟩:=yx (w6.heap.size);have b2:Hid (gx<g7):=vv (by rw[b1];exact b0.o.lt);obtain⟨z0,z1⟩:=q2P w6;obtain⟨y0,y1⟩:=q1x (w6.alloc q4q);rw[World.size_alloc] at y0;obtain⟨w7,b3⟩:=yx ((w6.alloc q4q).alloc q8z);have z2:=z0.below y1;have d9:=vv (c2.o.trans ((z1.trans (y1.mono z1.size)).mono c2.o.size));have e0:=vv ((b0.o.below z1).below y1);rw[<- b3,<- b1] at z2 y0;rw[<- b3] at d9 e0;rw[<- b3,<- b1];have f9:=vv z2;have g0:=vv y0;clear z0 z1 y0 y1 z2 b3 b1;refine(B.NewInt 1 _ (by omega) (by omega)).mono ?_;rintro e' w8 ⟨g8,rfl,g1,hI,hB⟩;have g4:=vv hI;have g5:=vv (f9.o.below hB);have e1:=vv (g0.o.below hB);have g6:=vv (e0.o.below hB);have e2:=vn d9 hB;clear hI hB g1;go_wp2_with fail
  rw[show 4*(q:Int)=((4*q:Nat):Int) by omega];refine(B.Lsh (g7+1) 0 g8 0 (4*q) 0 1 _ e1.o g4.o (by exact Sz.small (by decide)) (by have:=a5.o.2;omega)).mono ?_;rintro e' w9 hP;have hP:=hP.f e1.o;have i0:=vv hP.2.1;have i1:=vv (g5.o.fs1 hP.2.2 (by omega));have i2:=vv (g6.o.fs1 hP.2.2 (by have:=b2.o;omega));have e3:=vv (hP.below e2.o e2.o.size (by have:=HG.o;have:=b2.o;omega));obtain⟨rfl,-,-⟩:=hP;go_wp2_with fail
  refine(B.SetInt g7 (g7+1) _ _ i1.o.sh i0.o).mono ?_;rintro e' w10 hP;have c3:=vv (i2.o.fs1 hP.2.2 (by have:=b2.o;omega));have a0:=vv (hP.below e3.o e3.o.size (by have:=HG.o;have:=b2.o;omega));obtain⟨rfl,hQ,-⟩:=hP;have c4:=vv (RatAt.one2 hQ);clear hQ;go_wp2_with fail
  refine(f8.o _ b0.o g7 _ a0.o c3.o c4.o).mono ?_;rintro e' w11 ⟨rfl,hR,hB⟩;have HR:=vv hR;have HB:=vv hB;clear hR hB;go_wp2;go_ret
  exact⟨_,rfl,HG.o,HR.o,HB.o⟩
theorem Print_no(E F:Int)(b:Nat)(w:World)(hb:b<18446744073709551616)(h:q0b E F b≠0):
  Calls Tryz.prog 19 #[fm E F,.int .u64 b] w fun e w'=>e=.returned (.tuple #[.string ⟨#[]⟩,.int .i64 (q0b E F b)])/\Below w.heap.size w w':=by
 have HF:=vv fun w=>q3c E F b w hb h
 obtain⟨q,hq⟩:=yx (q0b E F b);rw[<- hq] at HF h ⊢;have h':(q != 0)=true:=by rw[bne_iff_ne];exact h
 have HB:=vv ((Below.refl w.heap.size w).alloc (o:=.cells #[.int .i64 E,.int .i64 F] 23) lr);clear hq hb h;go_enter Tryz.func19,Tryz.ntmps19
 go_wp2_with fail
 refine(HF.o _).mono ?_;rintro e w1 ⟨rfl,hB⟩;have a0:=vn HB hB;clear hB;go_wp2;go_ret2
 exact⟨rfl,a0.o⟩
theorem Print_inf(E F b:Nat)(w:World)(h1:2<=E)(h2:E<=11)(h3:1<=F)(h4:F<=52)(hb:b<2^(1+E+F))(hf:q0f E F b=R3.tw E-1):
  Calls Tryz.prog 19 #[fm E F,.int .u64 b] w fun e w'=>e=.returned (.tuple #[.string ⟨#[]⟩,.int .i64 8])/\Below w.heap.size w w':=by
 have HF:=vv fun w=>q46 E F b w h1 h2 h3 h4 hb
 rw[show decide (q0f E F b≠R3.tw E-1)=false from decide_eq_false (fun h=>h hf)] at HF;have HB:=vv ((Below.refl w.heap.size w).alloc (o:=.cells #[.int .i64 (E:Int),.int .i64 (F:Int)] 23) lr);clear hb h1 h2 h3 h4 hf;go_enter Tryz.func19,Tryz.ntmps19
 go_wp2_with fail
 refine(HF.o _).mono ?_;rintro e w1 ⟨rfl,hB⟩;have a0:=vn HB hB;clear hB;go_wp2;go_ret2
 exact⟨rfl,a0.o⟩
theorem Print_zero(E F b:Nat)(w:World)(h1:2<=E)(h2:E<=11)(h3:1<=F)(h4:F<=52)(hb:b<2^(1+E+F))(hf:q0f E F b≠R3.tw E-1)(h0:q0f E F b=0)(hz:q0u F b=0):
  Calls Tryz.prog 19 #[fm E F,.int .u64 b] w fun e w'=>e=.returned (.tuple #[.string ⟨(txtL (q0L E F b) (hexL 0 1) 0).toArray⟩,.int .i64 0])/\Below w.heap.size w w':=by
 have HF:=vv fun w=>q46 E F b w h1 h2 h3 h4 hb
 rw[show decide (q0f E F b≠R3.tw E-1)=true from decide_eq_true hf] at HF;have a2:=vv fun w=>R3.Split E F b w h1 h2 h3 h4 hb
 rw[h0,hz] at a2;obtain⟨neg,a0⟩:=yx (q0L E F b);rw[<- a0] at a2 ⊢;have a4:=vv fun g w (hi:IntAt w g 0 0)=>q9t neg g 0 0 0 0 w hi (by decide) (by decide) (by decide) (by decide) (by decide)
 obtain⟨S,hS⟩:∃S:ByteArray,S=⟨(txtL neg (hexL 0 1) 0).toArray⟩:=⟨_,rfl⟩;rw[<- hS] at a4 ⊢;obtain⟨w0,a3⟩:=yx (w.alloc (.cells #[.int .i64 (E:Int),.int .i64 (F:Int)] 23));have hC:Ctx w [(w.heap.size,23,[.int .i64 (E:Int),.int .i64 (F:Int)])] w0:=by rw[a3];exact(Ctx.nil w).new _ _ rfl
 have HW:=vv a3;have HC:=vv hC;clear hb h1 h2 h3 h4 hf h0 hz a0 hS a3 hC;go_enter Tryz.func19,Tryz.ntmps19
 go_wp2_with fail
 rw[<- HW.o];go_wp2_with fail
 refine(HF.o _).mono ?_;rintro e w1 ⟨rfl,hB⟩;have a1:=vv (HC.o.step hB);have c0:=(a1.o.get 0 rfl).cell 0;have c1:=(a1.o.get 0 rfl).cell 1;have cl:=(a1.o.get 0 rfl).lt;simp only[List.getElem?_cons_zero,List.getElem?_cons_succ] at c0 c1;clear hB;go_wp2_with fail
 refine(a2.o _).mono ?_;rintro e w2 ⟨rfl,hB⟩;have a5:=vv (a1.o.step hB);clear hB c0 c1 cl;go_wp2_with fail
 obtain⟨z0,z1⟩:=q1x (w2.alloc (.cells #[.bool neg,.int .i64 0,.int .u64 0] 101));rw[World.size_alloc] at z0;have a6:=vv (a5.o.low.trans ((((Below.refl w2.heap.size w2).alloc (o:=.cells #[.bool neg,.int .i64 0,.int .u64 0] 101) lr).trans (z1.mono (by simp))).mono a5.o.low.size));refine(a4.o _ _ z0).mono ?_;rintro e w4 ⟨rfl,hB⟩;have a7:=vn a6 hB;clear hB z0 z1;go_wp2;go_ret2
 exact⟨rfl,a7.o⟩
theorem qb0{N k:Nat}(h0:0<N)(h:k<q2K N):q1h N k<0:=by
 have h1:=q3f h0;have h2:up4 (bl N)<=3:=by unfold up4;omega
 unfold q1h;omega
theorem q4Q{N:Nat}(h0:0<N):q1h N (q2K N)=((up4 (bl N):Nat):Int):=by
 have h1:=q3f h0;have:=q1Q h0;unfold q1h;omega
theorem Print_pos(E F b:Nat)(w:World)(h1:2<=E)(h2:E<=11)(h3:1<=F)(h4:F<=52)(hb:b<2^(1+E+F))(hf:q0f E F b≠R3.tw E-1)(h0:0<fM E F b)(hst:Std w):
  Calls Tryz.prog 19 #[fm E F,.int .u64 b] w fun e w'=>e=.returned (.tuple #[.string ⟨(q2j (q0L E F b) (fN E F b) (fX E F b)).toArray⟩,.int .i64 0])/\Below w.heap.size w w':=by
 have a4:0<fN E F b:=q2c h0;have a6:fN E F b%2=1:=q6K h0;have d4:bl (fN E F b)<=53:=q0t (Nat.lt_of_le_of_lt (q3l _) (q5Q h4));have d5:=q4Y (b:=b) (F:=F) h1 h2 h4;have c2:q0f E F b≠0\/q0u F b≠0:=by
  rcases Nat.eq_zero_or_pos (q0f E F b) with h|h
  ·refine .inr fun h'=>?_
   have:fM E F b=0:=by show q0U _ _ _=0;unfold q0U;rw[if_pos h];exact h'
   omega
  ·exact .inl (by omega)
 have HF:=vv fun w=>q46 E F b w h1 h2 h3 h4 hb
 rw[show decide (q0f E F b≠R3.tw E-1)=true from decide_eq_true hf] at HF;have c3:=vv fun w=>R3.Split E F b w h1 h2 h3 h4 hb
 have c4:=vv fun w=>qcU E F b w h1 h2 h3 h4 hb c2
 rw[q74 h0] at c4;obtain⟨e,he⟩:=yx (fX E F b+(bl (fN E F b):Int)-1);rw[<- he] at c4;obtain⟨x,hx⟩:=yx (q0f E F b);obtain⟨f,c5⟩:=yx (q0u F b);obtain⟨neg,a3⟩:=yx (q0L E F b);obtain⟨N,hN⟩:=yx (fN E F b);obtain⟨n,hn⟩:=yx (q2K N);have b0:n<=13:=by rw[hn,hN];exact q95 (Nat.lt_of_le_of_lt (q3l _) (q5Q h4))
 obtain⟨RK,a8⟩:∃RK:Nat->Nat->World->Prop,RK=fun k g w'=>RatAt w' g (sg neg (N*p2 (q1h N k))) (p2 (-q1h N k)):=⟨_,rfl⟩
 have d6:Hid (∀(k:Nat) w',k<=2000->Std w'->Calls Tryz.prog 63 #[fm E F,.int .u64 (b:Int),.int .i64 e,.int .i64 (k:Int)] w' (fun e' w''=>∃g,e'=.returned (.pointer (some ⟨g,0,none⟩))/\w'.heap.size<=g/\RK k g w''/\Below w'.heap.size w' w'')):=vv fun k w' hk hs=>by
  rw[a8,a3,hN];exact qap E F b k e w' h1 h2 h3 h4 hb h0 he hk hs
 have d7:Hid (∀(k g:Nat) w1 w2,RK k g w1->Below w1.heap.size w1 w2->RK k g w2):=vv fun k g w1 w2 h hB=>by
  rw[a8] at h ⊢;exact RatAt.below h hB
 have g4:Hid (∀(k g:Nat) w1,RK k g w1->g<w1.heap.size):=vv fun k g w1 h=>by
  rw[a8] at h;exact RatAt.lt h
 rw[<- hN] at a4 a6 d4 he d5;have d8:Hid (∀(k g:Nat) w',RK k g w'->Calls Tryz.prog 64 #[.pointer (some ⟨g,0,none⟩)] w' fun e w''=>e=.returned (.bool (decide (0<=q1h N k)))/\w'=w''):=vv fun k g w' h=>by
  rw[a8] at h;have:=B.IsInt g _ _ w' h
  rwa [qcd neg a6] at this
 obtain⟨K,hK⟩:=yx (N*p2 (q1h N n));have d9:K=txN N 0:=by
  rw[hK,hn,q4Q a4,q1B];unfold txN;rw[if_neg (by omega),Nat.mul_zero,Nat.add_zero]
 have f1:bl K<=4*n+1:=by
  rw[hK,hn,q4Q a4,q1B];have:=q9O (N:=N) (k:=up4 (bl N));have:=q3f a4;omega
 have e0:Hid (∀g w',RK n g w'->Calls Tryz.prog 66 #[.pointer (some ⟨g,0,none⟩)] w' (q1d (sg neg K) w')):=vv fun g w' h=>by
  rw[a8] at h;have:=B.Num g _ _ w' h
  rwa [qcc neg (by rw[hn,q4Q a4];omega),<- hK] at this
 have f2:Hid (∀g gx w',IntAt w' g 0 0->IntAt w' gx 0 (sg neg K)->Calls Tryz.prog 65 #[.pointer (some ⟨g,0,none⟩),.pointer (some ⟨gx,0,none⟩)] w' (q0i g 0 (K:Int) w')):=vv fun g gx w' h hx=>by
  have:=B.Abs g 0 gx 0 0 _ w' h hx
  rwa [q0C] at this
 have e1:=vv fun g w (hi:IntAt w g 0 (K:Int))=>q9t neg g 0 K n e w hi (by omega) (by omega) (by omega) (by omega) (by omega)
 rw[<- a3,<- hN,q8e,<- d9,<- hn];have e2:txX N (fX E F b)=e:=by unfold txX;rw[if_neg (by omega),he]
 rw[e2];obtain⟨S,hS⟩:∃S:ByteArray,S=⟨(txtL neg (hexL K (n+1)) e).toArray⟩:=⟨_,rfl⟩;rw[<- hS] at e1 ⊢;have e3:Hid ((∀k,k<n->¬0<=q1h N k)/\0<=q1h N n):=vv ⟨fun k hk=>by have:=qb0 a4 (show k<q2K N by omega);omega,by rw[hn,q4Q a4];omega⟩;rw[<- hx,<- c5] at c2 c3;rw[<- a3] at c3;have g5:(n:Int)<=13:=by omega
 have f3:f<2^52:=by
  have h1:f<2^F:=by rw[c5];exact Nat.mod_lt _ (Nat.two_pow_pos _)
  exact Nat.lt_of_lt_of_le h1 (Nat.pow_le_pow_right (by decide) h4)
 have e4:(x:Int)≠0\/((x:Int)=0/\(f:Int)≠0):=by omega
 obtain⟨w0,c6⟩:=yx (w.alloc (.cells #[.int .i64 (E:Int),.int .i64 (F:Int)] 23));have hC:Ctx w [(w.heap.size,23,[.int .i64 (E:Int),.int .i64 (F:Int)])] w0:=by rw[c6];exact(Ctx.nil w).new _ _ rfl
 have HW:=vv c6;have HC:=vv hC;have e5:=vv hst;have c7:=vv b0;clear hb h1 h2 h3 h4 hf h0 a3 hS c6 hC hst a4 a6 d4 d5 c2 he hx c5 hN hn a8 hK d9 f1 e2 f3 b0;have b1:((((x:Int)==0)=false)\/(((x:Int)==0)=true/\((f:Int)==0)=false)):=by
  rcases e4 with h|⟨h,h'⟩
  ·exact .inl (by rw[beq_eq_false_iff_ne];exact h)
  ·exact .inr ⟨by rw[h];rfl,by rw[beq_eq_false_iff_ne];exact h'⟩
 have f4:=vv b1;clear e4 b1;go_enter Tryz.func19,Tryz.ntmps19
 go_wp2_with fail
 rw[<- HW.o];go_wp2_with fail
 refine(HF.o _).mono ?_;rintro e' w1 ⟨rfl,hB⟩;have b6:=vv (HC.o.step hB);have c0:=(b6.o.get 0 rfl).cell 0;have c1:=(b6.o.get 0 rfl).cell 1;have cl:=(b6.o.get 0 rfl).lt;simp only[List.getElem?_cons_zero,List.getElem?_cons_succ] at c0 c1;clear hB;go_wp2_with fail
 refine(c3.o _).mono ?_;rintro e' w2 ⟨rfl,hB⟩;have b7:=vv (b6.o.step hB);obtain⟨gp,b2⟩:=yx (w2.heap.size);have b8:=b7.o.new 101 [.bool neg,.int .i64 (x:Int),.int .u64 (f:Int)] b2;obtain⟨w3,c8⟩:=yx (w2.alloc (.cells #[.bool neg,.int .i64 (x:Int),.int .u64 (f:Int)] 101));replace b8:Ctx w [(gp,101,[.bool neg,.int .i64 (x:Int),.int .u64 (f:Int)]),(w.heap.size,23,[.int .i64 (E:Int),.int .i64 (F:Int)])] w3:=by rw[c8];exact b8
 have f5:=vv b8;have e6:=vv (And.intro c8 b2);clear hB b8 c0 c1 cl c8 b2;have c0:=(b7.o.get 0 rfl).cell 0;have c1:=(b7.o.get 0 rfl).cell 1;have cl:=(b7.o.get 0 rfl).lt;simp only[List.getElem?_cons_zero,List.getElem?_cons_succ] at c0 c1;rcases f4.o with q1|⟨q1,q2⟩;all_goals
  go_wp2_with fail
  rw[<- e6.o.1,<- e6.o.2];refine(c4.o _).mono ?_;rintro e' w4 ⟨rfl,hB⟩;have b3:=vv (f5.o.step hB)
  try clear q2
  clear hB c0 c1 cl q1;have c0:=(b3.o.get 1 rfl).cell 0;have c1:=(b3.o.get 1 rfl).cell 1;have cl:=(b3.o.get 1 rfl).lt;simp only[List.getElem?_cons_zero,List.getElem?_cons_succ] at c0 c1;go_wp2_with fail
  refine(d6.o 0 _ (by decide) (b3.o.std e5.o)).mono ?_;rintro e' w5 ⟨gx,rfl,f6,hR,hB⟩;have f7:=vv (b3.o.step hB);have f8:=vv hR;clear hB hR f6 c0 c1 cl;go_wp2_with fail
  go_loopw [10,11] (fun pv xv wr=>∃k g:Nat,k<=n/\pv=.int .i64 (k:Int)/\xv=.pointer (some ⟨g,0,none⟩)/\RK k g wr/\Ctx w [(gp,101,[.bool neg,.int .i64 (x:Int),.int .u64 (f:Int)]),(w.heap.size,23,[.int .i64 (E:Int),.int .i64 (F:Int)])] wr) (fun pv _ _=>(n-intOf pv).toNat)
  case atStart=>exact⟨0,gx,Nat.zero_le _,rfl,rfl,f8.o,f7.o⟩
  case round =>
   obtain⟨k,g,hk,rfl,rfl,hR,e7⟩:=hrel;have c9:=vv hR;have a5:=vv e7;have g6:(k:Int)<=13:=by omega
   clear hR e7;rcases Nat.lt_or_ge k n with d0|b9
   ·have hd:decide (0<=q1h N k)=false:=decide_eq_false (by have:=e3.o.1 k d0;omega);have a7:=d8.o k g wr c9.o;rw[hd] at a7;have d1:=vv a7;have c0:=(a5.o.get 1 rfl).cell 0;have c1:=(a5.o.get 1 rfl).cell 1;have cl:=(a5.o.get 1 rfl).lt;simp only[List.getElem?_cons_zero,List.getElem?_cons_succ] at c0 c1;have d2:=vv d0;clear hd a7 d0;go_wp2_with fail
    refine d1.o.mono ?_;rintro e' w' ⟨rfl,rfl⟩;go_wp2_with fail
    rw[show(k:Int)+1=((k+1:Nat):Int) by omega];refine(d6.o (k+1) _ (by have:=d2.o;have:=c7.o;omega) (a5.o.std e5.o)).mono ?_;rintro e' w6 ⟨g',rfl,f9,hR,hB⟩;have g0:=vv (a5.o.step hB);have g1:=vv hR;clear hB hR f9 c0 c1 cl;go_wp2;go_round
    case rel=>exact⟨k+1,g',d2.o,by go_num,rfl,g1.o,g0.o⟩
    case measure=>have:=d2.o;simp [intOf];omega
   ·obtain rfl:k=n:=by omega
    have hd:decide (0<=q1h N k)=true:=decide_eq_true e3.o.2;have a7:=d8.o k g wr c9.o;rw[hd] at a7;have d1:=vv a7;clear hd a7 b9 hk;go_wp2_with fail
    refine d1.o.mono ?_;rintro e' w' ⟨rfl,rfl⟩;obtain⟨p0,p1,p2⟩:=blk3 (a5.o.get 0 rfl);have pl:=(a5.o.get 0 rfl).lt;go_wp2_with fail
    refine q01 (fun w'=>w'.cell? ⟨gp,0,none⟩=some (.bool neg)) 9
     (.still 0 (.still 1 (.still 3 (.still 6 (.still 7 (.two 2 (.one 4 (.one 5 (.one 8 .done))) 4 (.one 2 (.one 5 (.one 8 .done))))))))) (by kernel_rfl) (by kernel_rfl) (fun _ _ d _ _ h=>by cases d<;>exact h) p0 (fun hS0=>?_)
    iterate 5
     refine q02 (v:=?_) rfl (by rfl) ?_ ?_;rotate_left
     ·intro w g7;go_simp;with_reducible rfl
     simp only[Act.put,sa,sb,sc]
    have a0:=vv a5.o.drew;have a9:Hid (RK k g wr.drew):=vv (d7.o _ _ _ _ c9.o (q04 (Below.refl _ _)));obtain⟨wc,e8⟩:=yx (wr.drew);rw[<- e8] at hS0 a0 a9 ⊢;clear e8 p0 p1 p2 pl;refine q2b rfl (by rfl) rfl (by rfl) (fun K' hK=>?_) (fun K' hK=>?_)
    focus
     go_simp;obtain⟨z0,z1⟩:=q1x wc;obtain⟨ga,a2⟩:=yx (wc.heap.size);have b9:w.heap.size<=ga:=by rw[a2];exact a0.o.low.size
     have b2:gp<ga:=by rw[a2];exact(a0.o.get 0 rfl).lt
     have g2:w.heap.size<ga:=by rw[a2];exact(a0.o.get 1 rfl).lt
     obtain⟨wn,b4⟩:=yx (wc.alloc q8z);have a0:=vv (a0.o.step z1);have a9:=vv (d7.o _ _ _ _ a9.o z1);rw[<- b4] at z0 a0 a9 ⊢;rw[<- a2] at z0 ⊢;have HZ:=vv z0;clear z0 z1 b4 a2;refine hK.out _ _ ((a0.o.get 0 rfl).cell 0) (fun a1=>?_);clear hK;refine q03 rfl (by rfl) (fun K' hK=>?_);go_simp;refine(e0.o g _ a9.o).mono ?_;rintro e' w8 ⟨gn,rfl,d3,hI,hB⟩;have a0:=vv (a0.o.step hB);have HZ:=vv (HZ.o.below hB);have HI:=vv hI;clear hB hI d3;go_wp2_with fail
     refine hK.out _ _ ((a0.o.get 0 rfl).cell 0) (fun a1=>?_);clear hK
    rotate_left
    focus
     go_simp;refine(e0.o g _ a9.o).mono ?_;rintro e' w8 ⟨gn,rfl,d3,hI,hB⟩;have a0:=vv (a0.o.step hB);have HI:=vv hI;clear hB hI d3;go_wp2_with fail
     refine hK.out _ _ ((a0.o.get 0 rfl).cell 0) (fun a1=>?_);clear hK;refine q03 rfl (by rfl) (fun K' hK=>?_);go_simp;obtain⟨z0,z1⟩:=q1x w8;obtain⟨ga,a2⟩:=yx (w8.heap.size);have b9:w.heap.size<=ga:=by rw[a2];exact a0.o.low.size
     have b2:gp<ga:=by rw[a2];exact(a0.o.get 0 rfl).lt
     have g2:w.heap.size<ga:=by rw[a2];exact(a0.o.get 1 rfl).lt
     have HI:=vv (HI.o.below z1);obtain⟨wn,b4⟩:=yx (w8.alloc q8z);have a0:=vv (a0.o.step z1);rw[<- b4] at z0 a0 HI ⊢;rw[<- a2] at z0 ⊢;have HZ:=vv z0;clear z0 z1 b4 a2;refine hK.out _ _ ((a0.o.get 0 rfl).cell 0) (fun a1=>?_);clear hK
    all_goals
     refine q03 rfl (by rfl) (fun K' hK=>?_);go_simp;refine(f2.o ga gn _ HZ.o HI.o).mono ?_;rintro e' w9 hP;have hP:=hP.f HZ.o;have e9:=vv (a0.o.fs hP.2.2 (by intro p hp;rw[List.mem_singleton.1 hp];exact b9) (by
      intro x hx p hp;rw[List.mem_singleton.1 hp];simp only[List.mem_cons,List.not_mem_nil,or_false] at hx;rcases hx with rfl|rfl
      ·show ga≠gp;omega
      ·show ga≠w.heap.size;omega))
     obtain⟨rfl,f0,-⟩:=hP;have g3:=vv f0;clear f0;go_wp2_with fail
     refine hK.out _ _ ((e9.o.get 0 rfl).cell 0) (fun a1=>?_);clear hK;refine q03 rfl (by rfl) (fun K' hK=>?_);go_simp;refine(e1.o ga _ g3.o).mono ?_;rintro e' w10 ⟨rfl,hB⟩;have b5:=vv (e9.o.step hB);clear hB;go_wp2_with fail
     refine hK.out _ _ ((b5.o.get 0 rfl).cell 0) (fun a1=>?_);clear hK;refine q08 ?_;simp only[List.drop_succ_cons,List.drop_zero];go_wp2;go_ret2
     exact⟨rfl,b5.o.low⟩
theorem Places_nf(E F:Int)(b:Nat)(places:Int)(mode:Nat)(w:World)(hb:b<18446744073709551616)(h:q0b E F b≠0):
  Calls Tryz.prog 21 #[fm E F,.int .u64 b,.int .i64 places,.int .u8 (mode:Int)] w fun e w'=>e=.returned (.tuple #[.string ⟨#[]⟩,.int .i64 (q0b E F b)])/\Below w.heap.size w w':=by
 have HF:=vv fun w=>R3.Fits E F b w hb
 obtain⟨q,hq⟩:=yx (q0b E F b);rw[<- hq] at HF h ⊢;have h':(q != 0)=true:=by rw[bne_iff_ne];exact h
 have HB:=vv ((Below.refl w.heap.size w).alloc (o:=.cells #[.int .i64 E,.int .i64 F] 23) lr);clear hq hb h;go_enter Tryz.func21,Tryz.ntmps21
 go_wp2_with fail
 refine(HF.o _).mono ?_;rintro e w1 ⟨rfl,hB⟩;have a0:=vn HB hB;clear hB;go_wp2;go_ret2
 exact⟨rfl,a0.o⟩
theorem Places_pl(E F:Int)(b:Nat)(places:Int)(mode:Nat)(w:World)(hb:b<18446744073709551616)(h:q0b E F b=0)(hp:places<0\/2000<places):
  Calls Tryz.prog 21 #[fm E F,.int .u64 b,.int .i64 places,.int .u8 (mode:Int)] w fun e w'=>e=.returned (.tuple #[.string ⟨#[]⟩,.int .i64 101])/\Below w.heap.size w w':=by
 have HF:=vv fun w=>R3.Fits E F b w hb
 rw[h] at HF;have HB:=vv ((Below.refl w.heap.size w).alloc (o:=.cells #[.int .i64 E,.int .i64 F] 23) lr);have a0:places<0\/(0<=places/\2000<places):=by omega
 clear hb h hp;rcases a0 with hp|⟨hp,a2⟩;all_goals
  go_enter Tryz.func21,Tryz.ntmps21
  go_wp2_with fail
  refine(HF.o _).mono ?_;rintro e w1 ⟨rfl,hB⟩;have a1:=vn HB hB;clear hB;go_wp2;go_ret2
  exact⟨rfl,a1.o⟩
theorem Places_md(E F:Int)(b:Nat)(places:Int)(mode:Nat)(w:World)(hb:b<18446744073709551616)(h:q0b E F b=0)(hp:0<=places)(hp2:places<=2000)(hm:4<mode):
  Calls Tryz.prog 21 #[fm E F,.int .u64 b,.int .i64 places,.int .u8 (mode:Int)] w fun e w'=>e=.returned (.tuple #[.string ⟨#[]⟩,.int .i64 7])/\Below w.heap.size w w':=by
 have HF:=vv fun w=>R3.Fits E F b w hb
 rw[h] at HF;have HB:=vv ((Below.refl w.heap.size w).alloc (o:=.cells #[.int .i64 E,.int .i64 F] 23) lr);have a1:(5:Int)<=(mode:Int):=by omega
 clear hb h hm;go_enter Tryz.func21,Tryz.ntmps21
 go_wp2_with fail
 refine(HF.o _).mono ?_;rintro e w1 ⟨rfl,hB⟩;have a0:=vn HB hB;clear hB;go_wp2;go_ret2
 exact⟨rfl,a0.o⟩
theorem Places_inf(E F b:Nat)(places:Int)(mode:Nat)(w:World)(h1:2<=E)(h2:E<=11)(h3:1<=F)(h4:F<=52)(hb:b<2^(1+E+F))(hfit:q0b E F b=0)(hf:q0f E F b=R3.tw E-1)(hp:0<=places)(hp2:places<=2000)(hm:mode<=4):
  Calls Tryz.prog 21 #[fm E F,.int .u64 b,.int .i64 places,.int .u8 (mode:Int)] w fun e w'=>e=.returned (.tuple #[.string ⟨#[]⟩,.int .i64 8])/\Below w.heap.size w w':=by
 have a0:b<18446744073709551616:=Nat.lt_of_lt_of_le hb (Nat.le_trans (Nat.pow_le_pow_right (by decide) (show 1+E+F<=64 by omega)) (by decide));have HF:=vv fun w=>R3.Fits E F b w a0
 rw[hfit] at HF;have HN:=vv fun w=>R3.Finite E F b w h1 h2 h3 h4 hb
 rw[show decide (q0f E F b≠R3.tw E-1)=false from decide_eq_false (fun h=>h hf)] at HN;obtain⟨w0,a2⟩:=yx (w.alloc (.cells #[.int .i64 (E:Int),.int .i64 (F:Int)] 23));have hC:Ctx w [(w.heap.size,23,[.int .i64 (E:Int),.int .i64 (F:Int)])] w0:=by rw[a2];exact(Ctx.nil w).new _ _ rfl
 have HW:=vv a2;have HC:=vv hC;have a4:(mode:Int)<=4:=by omega
 clear hb h1 h2 h3 h4 hf a2 hC hm hfit a0;go_enter Tryz.func21,Tryz.ntmps21
 go_wp2_with fail
 rw[<- HW.o];go_wp2_with fail
 refine(HF.o _).mono ?_;rintro e w1 ⟨rfl,hB⟩;have a1:=vv (HC.o.step hB);have c0:=(a1.o.get 0 rfl).cell 0;have c1:=(a1.o.get 0 rfl).cell 1;have cl:=(a1.o.get 0 rfl).lt;simp only[List.getElem?_cons_zero,List.getElem?_cons_succ] at c0 c1;clear hB;go_wp2_with fail
 refine(HN.o _).mono ?_;rintro e w2 ⟨rfl,hB⟩;have a3:=vv (a1.o.step hB);clear hB c0 c1 cl;go_wp2;go_ret2
 exact⟨rfl,a3.o.low⟩
theorem Places_zero(E F b q mode:Nat)(w:World)(h1:2<=E)(h2:E<=11)(h3:1<=F)(h4:F<=52)(hb:b<2^(1+E+F))(hfit:q0b E F b=0)(hf:q0f E F b≠R3.tw E-1)(h0:q0f E F b=0)(hz:q0u F b=0)(hq:q<=2000)(hm:mode<=4):
  Calls Tryz.prog 21 #[fm E F,.int .u64 b,.int .i64 (q:Int),.int .u8 (mode:Int)] w fun e w'=>e=.returned (.tuple #[.string ⟨(txtL (q0L E F b) (hexL 0 (q+1)) 0).toArray⟩,.int .i64 0])/\Below w.heap.size w w':=by
 have a0:b<18446744073709551616:=Nat.lt_of_lt_of_le hb (Nat.le_trans (Nat.pow_le_pow_right (by decide) (show 1+E+F<=64 by omega)) (by decide));have HF:=vv fun w=>R3.Fits E F b w a0
 rw[hfit] at HF;have HN:=vv fun w=>R3.Finite E F b w h1 h2 h3 h4 hb
 rw[show decide (q0f E F b≠R3.tw E-1)=true from decide_eq_true hf] at HN;have a4:=vv fun w=>R3.Split E F b w h1 h2 h3 h4 hb
 rw[h0,hz] at a4;obtain⟨neg,a1⟩:=yx (q0L E F b);rw[<- a1] at a4 ⊢;have a6:=vv fun g w (hi:IntAt w g 0 0)=>q9t neg g 0 0 q 0 w hi (by decide) (by rw[show bl 0=0 from rfl];omega) (by omega) (by decide) (by decide)
 obtain⟨S,hS⟩:∃S:ByteArray,S=⟨(txtL neg (hexL 0 (q+1)) 0).toArray⟩:=⟨_,rfl⟩;rw[<- hS] at a6 ⊢;obtain⟨w0,a5⟩:=yx (w.alloc (.cells #[.int .i64 (E:Int),.int .i64 (F:Int)] 23));have hC:Ctx w [(w.heap.size,23,[.int .i64 (E:Int),.int .i64 (F:Int)])] w0:=by rw[a5];exact(Ctx.nil w).new _ _ rfl
 have HW:=vv a5;have HC:=vv hC;have b0:(mode:Int)<=4:=by omega
 have b1:(q:Int)<=2000:=by omega
 clear hb h1 h2 h3 h4 hf h0 hz a1 hS a5 hC hm hq hfit a0;go_enter Tryz.func21,Tryz.ntmps21
 go_wp2_with fail
 rw[<- HW.o];go_wp2_with fail
 refine(HF.o _).mono ?_;rintro e w1 ⟨rfl,hB⟩;have a2:=vv (HC.o.step hB);have c0:=(a2.o.get 0 rfl).cell 0;have c1:=(a2.o.get 0 rfl).cell 1;have cl:=(a2.o.get 0 rfl).lt;simp only[List.getElem?_cons_zero,List.getElem?_cons_succ] at c0 c1;clear hB;go_wp2_with fail
 refine(HN.o _).mono ?_;rintro e w2 ⟨rfl,hB⟩;have a3:=vv (a2.o.step hB);clear hB c0 c1 cl;have c0:=(a3.o.get 0 rfl).cell 0;have c1:=(a3.o.get 0 rfl).cell 1;have cl:=(a3.o.get 0 rfl).lt;simp only[List.getElem?_cons_zero,List.getElem?_cons_succ] at c0 c1;go_wp2_with fail
 refine(a4.o _).mono ?_;rintro e w3 ⟨rfl,hB⟩;have a7:=vv (a3.o.step hB);clear hB c0 c1 cl;go_wp2_with fail
 obtain⟨z0,z1⟩:=q1x (w3.alloc (.cells #[.bool neg,.int .i64 0,.int .u64 0] 101));rw[World.size_alloc] at z0;have a8:=vv (a7.o.low.trans ((((Below.refl w3.heap.size w3).alloc (o:=.cells #[.bool neg,.int .i64 0,.int .u64 0] 101) lr).trans (z1.mono (by simp))).mono a7.o.low.size));refine(a6.o _ _ z0).mono ?_;rintro e w5 ⟨rfl,hB⟩;have a9:=vn a8 hB;clear hB z0 z1;go_wp2;go_ret2
 exact⟨rfl,a9.o⟩
theorem Places_pos(E F b q mode:Nat)(w:World)(h1:2<=E)(h2:E<=11)(h3:1<=F)(h4:F<=52)(hb:b<2^(1+E+F))(hfit:q0b E F b=0)(hf:q0f E F b≠R3.tw E-1)(h0:0<fM E F b)(hq:q<=2000)(hm:mode<=4)(hst:Std w):
  Calls Tryz.prog 21 #[fm E F,.int .u64 b,.int .i64 (q:Int),.int .u8 (mode:Int)] w fun e w'=>e=.returned (.tuple #[.string ⟨(q7L (q0L E F b) (q0L E F b) (fN E F b) (fX E F b) mode q).toArray⟩,.int .i64 0])/\Below w.heap.size w w':=by
 have a7:b<18446744073709551616:=Nat.lt_of_lt_of_le hb (Nat.le_trans (Nat.pow_le_pow_right (by decide) (show 1+E+F<=64 by omega)) (by decide));have a4:0<fN E F b:=q2c h0;have e2:bl (fN E F b)<=53:=q0t (Nat.lt_of_le_of_lt (q3l _) (q5Q h4));have e3:=q4Y (b:=b) (F:=F) h1 h2 h4;have c5:q0f E F b≠0\/q0u F b≠0:=by
  rcases Nat.eq_zero_or_pos (q0f E F b) with h|h
  ·refine .inr fun h'=>?_
   have:fM E F b=0:=by show q0U _ _ _=0;unfold q0U;rw[if_pos h];exact h'
   omega
  ·exact .inl (by omega)
 have HF:=vv fun w=>R3.Fits E F b w a7
 rw[hfit] at HF;have e4:=vv fun w=>R3.Finite E F b w h1 h2 h3 h4 hb
 rw[show decide (q0f E F b≠R3.tw E-1)=true from decide_eq_true hf] at e4;have c6:=vv fun w=>R3.Split E F b w h1 h2 h3 h4 hb
 have c7:=vv fun w=>qcU E F b w h1 h2 h3 h4 hb c5
 rw[q74 h0] at c7;obtain⟨e,he⟩:=yx (fX E F b+(bl (fN E F b):Int)-1);rw[<- he] at c7;obtain⟨x,hx⟩:=yx (q0f E F b);obtain⟨f,c8⟩:=yx (q0u F b);obtain⟨neg,a2⟩:=yx (q0L E F b);have e5:=vv fun w' (hs:Std w')=>qap E F b q e w' h1 h2 h3 h4 hb h0 he hq hs
 obtain⟨N,hN⟩:=yx (fN E F b);rw[<- hN] at a4 e2 he e3;rw[<- hN,<- a2] at e5;rw[<- hN,<- a2];have a8:=q4s (N:=N) (places:=q) (by omega) hq a4;have a9:=qca neg (N*p2 (q1h N q)) (p2 (-q1h N q));have e6:Hid (∀g w',RatAt w' g (sg neg (N*p2 (q1h N q))) (p2 (-q1h N q))->Calls Tryz.prog 76 #[.pointer (some ⟨g,0,none⟩)] w' (R2.OfP neg (q5h N q) (q5i N q) w')):=vv fun g w' h=>by
  have:=R2.Of g _ _ w' h (by rw[a9.1];exact Nat.le_trans a8.1 (by decide)) (by rw[a9.2];exact Nat.le_trans a8.2 (by decide));rw[a9.1,a9.2,q3k neg (Nat.mul_pos a4 (q0D _))] at this;exact this
 have e7:0<q5h N q:=by
  unfold q5h;rw[q2I,Int.natAbs_natCast];exact Nat.div_pos (Nat.le_of_dvd (Nat.mul_pos a4 (q0D _)) (Nat.gcd_dvd_left _ _)) (q0o (q0D _))
 have e8:0<q5i N q:=q0Z (q0D _);have e9:=q8h neg mode a4 q;have c9:Hid (∀A n c B m d w',Rd w' A n c (toL (q5h N q))->Rd w' B m d (toL (q5i N q))->Std w'->Calls Tryz.prog 77 #[q1b neg A n c B m d,.int .u8 (mode:Int)] w' (qdN (q4t neg N mode q) w')):=vv fun A n c B m d w' hA hB hs=>by
  rw[<- e9];exact qcM neg A n c B m d (q5h N q) (q5i N q) mode w' hA hB (q1C hA a8.1) (q1C hB a8.2) e7 e8 (q1M (q0D _)) hm hs
 obtain⟨P',f0⟩:∃P',P'=q5h N q:=⟨_,rfl⟩;obtain⟨D',f1⟩:∃D',D'=q5i N q:=⟨_,rfl⟩;rw[<- f0,<- f1] at e6 c9;have d0:=q6i (g:=neg) mode a4 q;have a1:=q5x (g:=neg) mode a4 q;have hL:q7L neg neg N (fX E F b) mode q=if 4*q+1<bl (q4t neg N mode q) then txtL neg (hexL (q4t neg N mode q/2) (q+1)) (e+1) else txtL neg (hexL (q4t neg N mode q) (q+1)) e:=by
  unfold q7L;rw[if_neg (by omega),he]
 rw[hL];obtain⟨Q,hQ⟩:=yx (q4t neg N mode q);rw[<- hQ] at c9 d0 a1;rw[<- hQ];obtain⟨S,hS⟩:∃S:ByteArray,S=⟨(if 4*q+1<bl Q then txtL neg (hexL (Q/2) (q+1)) (e+1) else txtL neg (hexL Q (q+1)) e).toArray⟩:=⟨_,rfl⟩;rw[<- hS];have HS:=vv hS;clear hS;have d1:((Q:Int)=2*2^(4*q)/\4*q+1<bl Q)\/((Q:Int)<2*2^(4*q)/\¬4*q+1<bl Q):=by
  have hp:((2^(4*q+1):Nat):Int)=2*2^(4*q):=by rw[Int.natCast_pow,Int.pow_succ,Int.mul_comm];rfl
  rcases Nat.lt_or_ge Q (2^(4*q+1)) with h|h
  ·exact .inr ⟨by rw[<- hp];omega,by have:=q0t h;omega⟩
  ·have f2:Q=2^(4*q+1):=Nat.le_antisymm d0 h;exact .inl ⟨by rw[<- hp,f2],by rw[f2,q4z];omega⟩
 obtain⟨T2,d2⟩:∃T2:Int,T2=2*2^(4*q):=⟨_,rfl⟩;rw[<- d2] at d1;have f3:=vv fun A n c w' (hr:Rd w' A n c (toL Q))=>R2.IntW A n c (toL Q) w' hr
 simp only[q00] at f3;have f4:=vv fun M g z w (hM:M<2^(4*q+1)) (hi:IntAt w g 0 ((M:Nat):Int)) (i2:-1000000<=z) (i3:z<=1000000)=>q9t neg g 0 M q z w hi (by have:=q0t hM;omega) (by have:=q0t hM;omega) (by omega) i2 i3
 have f5:=vv fun g w' (h:IntAt w' g 0 (Q:Int))=>B.Rsh g 0 g 0 1 _ _ w' h h (by omega) (by decide)
 have f6:((Q:Int)/2^1)=((Q/2:Nat):Int):=by rw[Int.natCast_ediv];rfl
 rw[f6] at f5;rw[<- hx,<- c8] at c5 c6;rw[<- a2] at c6;have i4:f<2^52:=by
  have h1:f<2^F:=by rw[c8];exact Nat.mod_lt _ (Nat.two_pow_pos _)
  exact Nat.lt_of_lt_of_le h1 (Nat.pow_le_pow_right (by decide) h4)
 have f7:(x:Int)≠0\/((x:Int)=0/\(f:Int)≠0):=by omega
 have b0:((((x:Int)==0)=false)\/(((x:Int)==0)=true/\((f:Int)==0)=false)):=by
  rcases f7 with h|⟨h,h'⟩
  ·exact .inl (by rw[beq_eq_false_iff_ne];exact h)
  ·exact .inr ⟨by rw[h];rfl,by rw[beq_eq_false_iff_ne];exact h'⟩
 have i5:=vv b0;have k9:-5000<=e:=by omega
 have l0:e<=5000:=by omega
 have l1:(q:Int)<=2000:=by omega
 have l2:(mode:Int)<=4:=by omega
 have i6:=vv d1;have i7:=vv a1;have i8:=vv d2;have i9:=vv hq;obtain⟨w0,d3⟩:=yx (w.alloc (.cells #[.int .i64 (E:Int),.int .i64 (F:Int)] 23));have hC:Ctx w [(w.heap.size,23,[.int .i64 (E:Int),.int .i64 (F:Int)])] w0:=by rw[d3];exact(Ctx.nil w).new _ _ rfl
 have HW:=vv d3;have HC:=vv hC;have f8:=vv hst;clear hb h1 h2 h3 h4 hf h0 a2 d3 hC hst a4 e2 e3 c5 he hx c8 hN a8 a9 e7 e8 e9 f0 f1 d0 a1 hL hQ d1 d2 f6 i4 f7 b0 hm hq hfit a7;go_enter Tryz.func21,Tryz.ntmps21
 go_wp2_with fail
 rw[<- HW.o];go_wp2_with fail
 refine(HF.o _).mono ?_;rintro e' w1 ⟨rfl,hB⟩;have b5:=vv (HC.o.step hB);have c0:=(b5.o.get 0 rfl).cell 0;have c1:=(b5.o.get 0 rfl).cell 1;have cl:=(b5.o.get 0 rfl).lt;simp only[List.getElem?_cons_zero,List.getElem?_cons_succ] at c0 c1;clear hB;go_wp2_with fail
 refine(e4.o _).mono ?_;rintro e' w2 ⟨rfl,hB⟩;have a3:=vv (b5.o.step hB);clear hB c0 c1 cl;have c0:=(a3.o.get 0 rfl).cell 0;have c1:=(a3.o.get 0 rfl).cell 1;have cl:=(a3.o.get 0 rfl).lt;simp only[List.getElem?_cons_zero,List.getElem?_cons_succ] at c0 c1;go_wp2_with fail
 refine(c6.o _).mono ?_;rintro e' w2' ⟨rfl,hB⟩;have a3:=vv (a3.o.step hB);obtain⟨gp,d4⟩:=yx (w2'.heap.size);have b6:=a3.o.new 101 [.bool neg,.int .i64 (x:Int),.int .u64 (f:Int)] d4;obtain⟨w3,d5⟩:=yx (w2'.alloc (.cells #[.bool neg,.int .i64 (x:Int),.int .u64 (f:Int)] 101));replace b6:Ctx w [(gp,101,[.bool neg,.int .i64 (x:Int),.int .u64 (f:Int)]),(w.heap.size,23,[.int .i64 (E:Int),.int .i64 (F:Int)])] w3:=by rw[d5];exact b6
 have j0:=vv b6;have f9:=vv (And.intro d5 d4);clear hB b6 c0 c1 cl d5 d4;have c0:=(a3.o.get 0 rfl).cell 0;have c1:=(a3.o.get 0 rfl).cell 1;have cl:=(a3.o.get 0 rfl).lt;simp only[List.getElem?_cons_zero,List.getElem?_cons_succ] at c0 c1;rcases i5.o with q1|⟨q1,q2⟩;all_goals
  go_wp2_with fail
  rw[<- f9.o.1,<- f9.o.2];refine(c7.o _).mono ?_;rintro e' w4 ⟨rfl,hB⟩;have b2:=vv (j0.o.step hB)
  try clear q2
  clear hB c0 c1 cl q1;have c0:=(b2.o.get 1 rfl).cell 0;have c1:=(b2.o.get 1 rfl).cell 1;have cl:=(b2.o.get 1 rfl).lt;simp only[List.getElem?_cons_zero,List.getElem?_cons_succ] at c0 c1;go_wp2_with fail
  refine(e5.o _ (b2.o.std f8.o)).mono ?_;rintro e' w5 ⟨gx,rfl,j1,hR,hB⟩;have j2:=vv (b2.o.step hB);have j3:=vv hR;clear hB hR j1 c0 c1 cl;go_wp2_with fail
  refine(e6.o _ _ j3.o).mono ?_;rintro e' w6 ⟨X,n,c,Y,m,d,rfl,hX,hY,hB⟩;have j4:=vv (j2.o.step hB);obtain⟨gr,d6⟩:=yx (w6.heap.size);obtain⟨w7,b7⟩:=yx (w6.alloc (.cells #[.bool neg,.slice X n c,.slice Y m d] 115));have d7:Below w6.heap.size w6 w7:=by rw[b7];exact(Below.refl _ _).alloc lr _
  have b8:Hid (Ctx w [(gr,115,[.bool neg,.slice X n c,.slice Y m d]),(gp,101,[.bool neg,.int .i64 (x:Int),.int .u64 (f:Int)]),(w.heap.size,23,[.int .i64 (E:Int),.int .i64 (F:Int)])] w7):=vv (by rw[b7];exact j4.o.new _ _ d6);have j5:=vv (hX.below d7 rfl);have j6:=vv (hY.below d7 rfl);have g0:=vv (And.intro b7 d6);clear hX hY hB d7 b7 d6;obtain⟨r0,r1,r2⟩:=blk3 (b8.o.get 0 rfl);have rl:=(b8.o.get 0 rfl).lt;go_wp2_with fail
  rw[<- g0.o.1,<- g0.o.2];go_wp2_with fail
  refine(c9.o _ _ _ _ _ _ _ j5.o j6.o (b8.o.std f8.o)).mono ?_;rintro e' w8 ⟨b1,b3,Z,n',c',rfl,hZ,hB⟩;have j7:=vv (b8.o.step hB);obtain⟨gn,d8⟩:=yx (w8.heap.size);obtain⟨w9,b9⟩:=yx (w8.alloc (.cells #[.slice Z n' c'] 28));have g1:Below w8.heap.size w8 w9:=by rw[b9];exact(Below.refl _ _).alloc lr _
  have a5:Hid (Ctx w [(gn,28,[.slice Z n' c']),(gr,115,[.bool neg,.slice X n c,.slice Y m d]),(gp,101,[.bool neg,.int .i64 (x:Int),.int .u64 (f:Int)]),(w.heap.size,23,[.int .i64 (E:Int),.int .i64 (F:Int)])] w9):=vv (by rw[b9];exact j7.o.new _ _ d8);have j8:=vv (hZ.below g1 rfl);have g4:=vv (And.intro b9 d8);clear hZ hB g1 b9 d8 r0 r1 r2 rl;have n0:=(a5.o.get 0 rfl).cell 0;have nl:=(a5.o.get 0 rfl).lt;simp only[List.getElem?_cons_zero] at n0;go_wp2_with fail
  rw[<- g4.o.1,<- g4.o.2];go_wp2_with fail
  refine(f3.o _ _ _ _ j8.o).mono ?_;rintro e' wA ⟨gm,rfl,j9,hI,hB⟩;have k0:=vv (a5.o.step hB);have g5:=vv hI;have c2:Hid (w.heap.size<=gm/\gp<gm/\w.heap.size<gm/\gr<gm/\gn<gm):=vv (by
   have h1:=(a5.o.get 0 rfl).lt;have h2:=(a5.o.get 1 rfl).lt;have h3:=(a5.o.get 2 rfl).lt;have h4:=(a5.o.get 3 rfl).lt;exact⟨by omega,by omega,by omega,by omega,by omega⟩)
  clear hB hI j9 n0 nl;go_wp2_with fail
  obtain⟨z0,z1⟩:=q1x wA;obtain⟨g2,d9⟩:=yx (wA.heap.size);obtain⟨wB,g6⟩:=yx (wA.alloc q8z);have e0:Hid (gm<g2):=vv (by rw[d9];exact g5.o.lt);have g7:=vv (k0.o.step z1);have g8:=vv (g5.o.below z1);rw[<- g6] at z0 g7 g8 ⊢;rw[<- d9] at z0 ⊢;have k1:=vv z0;clear z0 z1 g6 d9;refine(B.NewInt 2 _ (by omega) (by omega)).mono ?_;rintro e' wC ⟨g3,rfl,k2,hI,hB⟩;have k3:=vv hI;have k4:=vv (g7.o.step hB);have k5:=vv (g8.o.below hB);have g9:=vv (k1.o.below hB);clear hI hB k2;go_wp2_with fail
  rw[show 4*(q:Int)=((4*q:Nat):Int) by omega];refine(B.Lsh g2 0 g3 0 (4*q) 0 2 _ g9.o k3.o (by exact Sz.small (by decide)) (by have:=i9.o;omega)).mono ?_;rintro e' wD hP;have hP:=hP.f g9.o;rw[<- i8.o] at hP;have k6:=vv (k4.o.fs hP.2.2 (by intro p hp;rw[List.mem_singleton.1 hp];have:=c2.o.1;have:=e0.o;show _<=g2;omega) (by
   intro y hy p hp;rw[List.mem_singleton.1 hp];have:=c2.o;have:=e0.o;simp only[List.mem_cons,List.not_mem_nil,or_false] at hy;rcases hy with rfl|rfl|rfl|rfl<;>show g2≠_<;>omega))
  have i0:=vv (k5.o.fs1 hP.2.2 (by have:=e0.o;omega));have k7:=vv hP.2.1;obtain⟨rfl,-,-⟩:=hP;go_wp2_with fail
  refine(B.Cmp gm 0 g2 0 _ _ _ i0.o k7.o).mono ?_;rintro e' wE ⟨rfl,hB⟩;have c3:=vv (k6.o.step hB);have e1:=vv (i0.o.below hB);clear hB;obtain⟨p0,p1,p2⟩:=blk3 (c3.o.get 2 rfl);have pl:=(c3.o.get 2 rfl).lt;have a0:=i7.o;rcases i6.o with ⟨t1,t2⟩|⟨t1,t2⟩
  ·rw[if_pos t2] at a0;rw[show q3p (Q:Int) T2=0 by unfold q3p;rw[if_neg (by omega),if_neg (by omega)]];have hS:=HS.o;rw[if_pos t2] at hS;subst hS;have a6:=vv a0;have l3:IntKind.i64.wrap (e+1)=e+1:=IntWalk.i64_in _ (by omega);clear t1 t2 a0;go_wp2_with fail
   refine q01 (fun w'=>w'.cell? ⟨gp,0,none⟩=some (.bool neg)) 9
    (.still 0 (.still 1 (.still 2 (.still 3 (.still 5 (.still 6 (.still 7 (.one 4 (.one 8 .done))))))))) (by kernel_rfl) (by kernel_rfl) (fun _ _ d _ _ h=>by cases d<;>exact h) p0 (fun hS0=>?_)
   iterate 7
    refine q02 (v:=?_) rfl (by rfl) ?_ ?_;rotate_left
    ·intro w l4;go_simp;with_reducible rfl
    simp only[Act.put,sa,sb,sc]
   refine q03 rfl (by rfl) (fun K' hK=>?_);go_simp;refine(f5.o gm _ e1.o.drew).mono ?_;rintro e' wF hP;have hP:=hP.f e1.o.drew;have i1:=vv (c3.o.drew.fs hP.2.2 (by intro p hp;rw[List.mem_singleton.1 hp];exact c2.o.1) (by
    intro y hy p hp;rw[List.mem_singleton.1 hp];have:=c2.o;simp only[List.mem_cons,List.not_mem_nil,or_false] at hy;rcases hy with rfl|rfl|rfl|rfl<;>show gm≠_<;>omega))
   obtain⟨rfl,hI,-⟩:=hP;have k8:=vv hI;clear hI;go_wp2_with fail
   refine hK.out _ _ ((i1.o.get 2 rfl).cell 0) (fun b4=>?_);clear hK;refine q03 rfl (by rfl) (fun K' hK=>?_);go_simp;refine(f4.o _ gm _ _ a6.o k8.o (by omega) (by omega)).mono ?_;rintro e' wG ⟨rfl,hB⟩;have c4:=vv (i1.o.step hB);clear hB;go_wp2_with fail
   refine hK.out _ _ ((c4.o.get 2 rfl).cell 0) (fun b4=>?_);clear hK;refine q08 ?_;simp only[List.drop_succ_cons,List.drop_zero];go_wp2;go_ret2
   exact⟨rfl,c4.o.low⟩
  ·rw[if_neg t2] at a0;rw[show q3p (Q:Int) T2 = -1 by unfold q3p;rw[if_pos (by omega)]];have hS:=HS.o;rw[if_neg t2] at hS;subst hS;have a6:=vv a0;clear t1 t2 a0;go_wp2_with fail
   refine(f4.o _ gm _ _ a6.o e1.o (by omega) (by omega)).mono ?_;rintro e' wG ⟨rfl,hB⟩;have c4:=vv (c3.o.step hB);clear hB;go_wp2;go_ret2
   exact⟨rfl,c4.o.low⟩
end Go.Proofs.YtppgcnhlpnmieaaGreatDoor.R12
namespace Go.Proofs.YtppgcnhlpnmieaaGreatDoor.Hx
open Go Go.RowKit R5 Scn Fms Exa
def cst(a:Nat × Bool)(c:UInt8):Nat × Bool:=(if a.2 then a.1+1 else a.1,a.2 || c==46)
def cnt(l:List UInt8):Nat × Bool:=l.foldl cst (0,false)
def qe0(neg:Bool)(N q:Nat):List UInt8:=(if neg then[45] else[])++([48,120]++(hexL N (q+1)).take 1++(if 1<(hexL N (q+1)).length then 46::(hexL N (q+1)).drop 1 else[]))
theorem q44{E F:Int}{b:Nat}(h:q0b E F b=0):∃e f:Nat,E=e/\F=f/\2<=e/\e<=11/\1<=f/\f<=52/\b<2^(1+e+f):=by
 unfold q0b at h;split at h
 ·next hok =>
  obtain⟨e,f,rfl,rfl,h1,h2,h3,h4⟩:=R3.formOk_nat hok;split at h
  ·exact absurd h (by decide)
  ·next hlt =>
   exact⟨e,f,rfl,rfl,h1,h2,h3,h4,Nat.lt_of_lt_of_le (q1l b) (Nat.pow_le_pow_right (by decide) (by omega))⟩
 ·exact absurd h (by decide)
structure BackP(E F:Int)(b q:Nat)(H T:List UInt8)(D S:ByteArray)(L:Nat->ByteArray)(w:World):Prop where
 du:∀w',Calls Tryz.prog 22 #[fm E F,.int .u64 b] w' fun e w''=>e=.returned (.tuple #[.string D,.int .i64 0])/\Below w'.heap.size w' w''
 lo:∀w',Calls Tryz.prog 52 #[fm E F,.string D] w' fun e w''=>e=ldV b 0 0/\Below w'.heap.size w' w''
 pr:∀w',Below w.heap.size w w'->Calls Tryz.prog 18 #[fm E F,.int .u64 b] w' fun e w''=>e=.returned (.tuple #[.string S,.int .i64 0])/\Below w'.heap.size w' w''
 rd:∀(mode:Nat) w',mode<=4->Below w.heap.size w w'->Calls Tryz.prog 51 #[fm E F,.string S,.int .u8 mode] w' (RdP b 0 w')
 pl:∀(m mode:Nat) w',m<=100->mode<=4->Below w.heap.size w w'->Calls Tryz.prog 20 #[fm E F,.int .u64 b,.int .i64 ((q:Int)+m),.int .u8 mode] w' fun e w''=>e=.returned (.tuple #[.string (L m),.int .i64 0])/\Below w'.heap.size w' w''
 rl:∀(m mode:Nat) w',m<=100->mode<=4->Below w.heap.size w w'->Calls Tryz.prog 51 #[fm E F,.string (L m),.int .u8 mode] w' (RdP b 0 w')
 sd:S.data.toList=H++112::T
 hn:∀c∈H,c≠112
 hc:(cnt H).1=q
 hl:H.length<=100
 sz:∀m,m<=100->(L m).size=S.size+m\/((L m).size=S.size+m+1/\0<m)
 sm:S.size<=1000
def q7N(S:ByteArray)(q:Int)(w:World)(e:Ending)(w':World):Prop:=e=.returned (.tuple #[.string S,.int .i64 q])/\Below w.heap.size w w'
theorem q8d(E F:Int)(b:Nat)(places:Int)(mode:Nat)(S1 S2 S3:ByteArray)(q1 q2 q3:Int)(w:World)(hg:Bg w)(ht:Ten w)
  (a1:∀w',Below w.heap.size w w'->Calls Tryz.prog 18 #[fm E F,.int .u64 b] w' (q7N S1 q1 w')) (a2:∀w',Below w.heap.size w w'->Calls Tryz.prog 19 #[fm E F,.int .u64 b] w' (q7N S1 q1 w'))
  (b1:∀w',Below w.heap.size w w'->Calls Tryz.prog 20 #[fm E F,.int .u64 b,.int .i64 places,.int .u8 mode] w' (q7N S2 q2 w')) (b2:∀w',Below w.heap.size w w'->Calls Tryz.prog 21 #[fm E F,.int .u64 b,.int .i64 places,.int .u8 mode] w' (q7N S2 q2 w'))
  (c1:∀w',Below w.heap.size w w'->Calls Tryz.prog 22 #[fm E F,.int .u64 b] w' (q7N S3 q3 w')) (c2:∀w',Below w.heap.size w w'->Calls Tryz.prog 23 #[fm E F,.int .u64 b] w' (q7N S3 q3 w')) :
  Calls Tryz.prog 5 #[fm E F,.int .u64 b,.int .i64 places,.int .u8 mode] w fun e w'=>e=.returned (.bool true)/\Below w.heap.size w w':=by
 obtain⟨w0,a8⟩:=yx (w.alloc (.cells #[.int .i64 E,.int .i64 F] 23));have hC:Ctx w [(w.heap.size,23,[.int .i64 E,.int .i64 F])] w0:=by rw[a8];exact(Ctx.nil w).new _ _ rfl
 have a9:=vv (qdo w0 (hg.below hC.low) (ht.below hC.low));have A1:=vv a1;have A2:=vv a2;have B1:=vv b1;have B2:=vv b2;have C1:=vv c1;have C2:=vv c2;have HC:=vv hC;have HW:=vv a8;have e1:(S1.toList==S1.toList)=true:=beq_self_eq_true _;have e2:(S2.toList==S2.toList)=true:=beq_self_eq_true _;have e3:(S3.toList==S3.toList)=true:=beq_self_eq_true _;have i1:(q1==q1)=true:=beq_self_eq_true _;have i2:(q2==q2)=true:=beq_self_eq_true _;have i3:(q3==q3)=true:=beq_self_eq_true _;clear hg ht hC a8 a1 a2 b1 b2 c1 c2;go_enter Tryz.func5,Tryz.ntmps5
 go_wp2_with fail
 rw[<- HW.o];refine a9.o.mono ?_;rintro e w1 ⟨rfl,hB⟩;have a0:=vv (HC.o.step hB);have c0:=a0.o.get 0 rfl |>.cell 0;have c1:=a0.o.get 0 rfl |>.cell 1;have cl:=a0.o.get 0 rfl |>.lt;simp only[List.getElem?_cons_zero,List.getElem?_cons_succ] at c0 c1;clear hB;go_wp2_with fail
 refine(A1.o _ a0.o.low).mono ?_;rintro e w2 ⟨rfl,hB⟩;have a3:=vv (a0.o.step hB);clear hB c0 c1 cl;have c0:=a3.o.get 0 rfl |>.cell 0;have c1:=a3.o.get 0 rfl |>.cell 1;have cl:=a3.o.get 0 rfl |>.lt;simp only[List.getElem?_cons_zero,List.getElem?_cons_succ] at c0 c1;go_wp2_with fail
 refine(A2.o _ a3.o.low).mono ?_;rintro e w3 ⟨rfl,hB⟩;have a4:=vv (a3.o.step hB);clear hB c0 c1 cl;have c0:=a4.o.get 0 rfl |>.cell 0;have c1:=a4.o.get 0 rfl |>.cell 1;have cl:=a4.o.get 0 rfl |>.lt;simp only[List.getElem?_cons_zero,List.getElem?_cons_succ] at c0 c1;go_wp2_with fail
 refine(B1.o _ a4.o.low).mono ?_;rintro e w4 ⟨rfl,hB⟩;have a5:=vv (a4.o.step hB);clear hB c0 c1 cl;have c0:=a5.o.get 0 rfl |>.cell 0;have c1:=a5.o.get 0 rfl |>.cell 1;have cl:=a5.o.get 0 rfl |>.lt;simp only[List.getElem?_cons_zero,List.getElem?_cons_succ] at c0 c1;go_wp2_with fail
 refine(B2.o _ a5.o.low).mono ?_;rintro e w5 ⟨rfl,hB⟩;have a6:=vv (a5.o.step hB);clear hB c0 c1 cl;have c0:=a6.o.get 0 rfl |>.cell 0;have c1:=a6.o.get 0 rfl |>.cell 1;have cl:=a6.o.get 0 rfl |>.lt;simp only[List.getElem?_cons_zero,List.getElem?_cons_succ] at c0 c1;go_wp2_with fail
 refine(C1.o _ a6.o.low).mono ?_;rintro e w6 ⟨rfl,hB⟩;have a7:=vv (a6.o.step hB);clear hB c0 c1 cl;have c0:=a7.o.get 0 rfl |>.cell 0;have c1:=a7.o.get 0 rfl |>.cell 1;have cl:=a7.o.get 0 rfl |>.lt;simp only[List.getElem?_cons_zero,List.getElem?_cons_succ] at c0 c1;go_wp2_with fail
 refine(C2.o _ a7.o.low).mono ?_;rintro e w7 ⟨rfl,hB⟩;have b0:=vv (a7.o.step hB);clear hB c0 c1 cl;go_wp2;go_ret
 exact⟨rfl,b0.o.low⟩
theorem q8O{E F b:Nat}(h:fM E F b=0):q0f E F b=0/\q0u F b=0:=by
 change q0U F (q0f E F b) (q0u F b)=0 at h
 unfold q0U at h;by_cases hx:q0f E F b=0
 ·rw[if_pos hx] at h;exact⟨hx,h⟩
 ·rw[if_neg hx] at h;have:=Nat.two_pow_pos F;omega
theorem qaz(E F b:Nat)(w:World)(hg:Bg w)(h1:2<=E)(h2:E<=11)(h3:1<=F)(h4:F<=52)(hb:b<2^(1+E+F))(hf:q0f E F b≠R3.tw E-1)(w':World)(h:Below w.heap.size w w'):
  Calls Tryz.prog 53 #[fm E F,.int .u64 (b:Int)] w' (qbX (q0L E F b) (fG E F b) (fN E F b) (fX E F b) w'):=
 q46 E F b w' h1 h2 h3 h4 hb hf (hg.below h).std _ _ _ rfl rfl rfl
theorem q6g(E F:Int)(b:Nat)(w:World)(hg:Bg w)(ht:Ten w)(hb:b<18446744073709551616):∃S q,
  (∀w',Below w.heap.size w w'->Calls Tryz.prog 18 #[fm E F,.int .u64 b] w' (q7N S q w'))/\(∀w',Below w.heap.size w w'->Calls Tryz.prog 19 #[fm E F,.int .u64 b] w' (q7N S q w')):=by
 by_cases hfit:q0b E F b=0
 ·obtain⟨e,f,rfl,rfl,h1,h2,h3,h4,h5⟩:=q44 hfit;by_cases hf:q0f e f b=R3.tw e-1
  ·exact⟨_,_,fun w' h=>Print_no e f b w' h1 h2 h3 h4 h5 hf (hg.below h).std,fun w' h=>R12.Print_inf e f b w' h1 h2 h3 h4 h5 hf⟩
  ·have a0:=qaz e f b w hg h1 h2 h3 h4 h5 hf;have hX:=qbq (b:=b) (F:=f) h1 h2 h4;have hN:fN e f b<2^53:=Nat.lt_of_le_of_lt (q3l _) (q5Q h4);rcases Nat.eq_zero_or_pos (fM e f b) with h0|h0
   ·have a1:fN e f b=0:=by show q6k (fM e f b)=0;rw[h0];rfl
    obtain⟨k1,k2⟩:=q8O h0;rw[a1] at a0;refine⟨_,_,fun w' h=>qcS e f b _ _ _ w' hb (ht.below h) fun w2 h'=>a0 w2 (h.trans (h'.mono h.size)),fun w' h=>?_⟩;have:=R12.Print_zero e f b w' h1 h2 h3 h4 h5 hf k1 k2;rw[show txtL (q0L e f b) (hexL 0 1) 0=q2j (q0L e f b) 0 (fX e f b) by unfold q2j;rw[if_pos rfl];rfl] at this;exact this
   ·exact⟨_,_,fun w' h=>qaI e f b _ _ _ _ w' hb (ht.below h) (q2c h0) hN hX.1 hX.2 fun w2 h'=>a0 w2 (h.trans (h'.mono h.size)),
     fun w' h=>R12.Print_pos e f b w' h1 h2 h3 h4 h5 hf h0 (hg.below h).std⟩
 ·exact⟨_,_,fun w' _=>qai E F b w' hb hfit,fun w' _=>R12.Print_no E F b w' hb hfit⟩
theorem q7E(E F:Int)(b:Nat)(w:World)(hb:b<18446744073709551616):∃S q,
  (∀w',Below w.heap.size w w'->Calls Tryz.prog 22 #[fm E F,.int .u64 b] w' (q7N S q w'))/\(∀w',Below w.heap.size w w'->Calls Tryz.prog 23 #[fm E F,.int .u64 b] w' (q7N S q w')):=by
 by_cases hfit:q0b E F b=0
 ·obtain⟨e,f,rfl,rfl,h1,h2,h3,h4,h5⟩:=q44 hfit;exact⟨_,_,fun w' _=>Dump e f b w' h1 h2 h3 h4 h5,fun w' _=>R12.Dump e f b w' h1 h2 h3 h4 h5⟩
 ·exact⟨_,_,fun w' _=>Dump_no E F b w' hb hfit,fun w' _=>R12.Dump_no E F b w' hb hfit⟩
theorem q5y(E F:Int)(b:Nat)(places:Int)(mode:Nat)(w:World)(hg:Bg w)(ht:Ten w)(hb:b<18446744073709551616):∃S q,
  (∀w',Below w.heap.size w w'->Calls Tryz.prog 20 #[fm E F,.int .u64 b,.int .i64 places,.int .u8 mode] w' (q7N S q w'))/\(∀w',Below w.heap.size w w'->Calls Tryz.prog 21 #[fm E F,.int .u64 b,.int .i64 places,.int .u8 mode] w' (q7N S q w')):=by
 by_cases hfit:q0b E F b=0
 ·by_cases hp:places<0\/2000<places
  ·exact⟨_,_,fun w' _=>Places_pl E F b places mode w' hb hfit hp,fun w' _=>R12.Places_pl E F b places mode w' hb hfit hp⟩
  ·by_cases hm:4<mode
   ·exact⟨_,_,fun w' _=>Places_md E F b places mode w' hb hfit (by omega) (by omega) hm,fun w' _=>R12.Places_md E F b places mode w' hb hfit (by omega) (by omega) hm⟩
   ·obtain⟨e,f,rfl,rfl,h1,h2,h3,h4,h5⟩:=q44 hfit;by_cases hf:q0f e f b=R3.tw e-1
    ·exact⟨_,_,fun w' h=>q9a e f b places mode w' h1 h2 h3 h4 h5 hfit hf (hg.below h).std (by omega) (by omega) (by omega),fun w' h=>R12.Places_inf e f b places mode w' h1 h2 h3 h4 h5 hfit hf (by omega) (by omega) (by omega)⟩
    ·obtain⟨q,rfl⟩:∃q:Nat,places=q:=⟨places.toNat,by omega⟩;have a0:=qaz e f b w hg h1 h2 h3 h4 h5 hf;have hX:=qbq (b:=b) (F:=f) h1 h2 h4;have hN:fN e f b<2^53:=Nat.lt_of_le_of_lt (q3l _) (q5Q h4);rcases Nat.eq_zero_or_pos (fM e f b) with h0|h0
     ·have a1:fN e f b=0:=by show q6k (fM e f b)=0;rw[h0];rfl
      obtain⟨k1,k2⟩:=q8O h0;rw[a1] at a0;refine⟨_,_,fun w' h=>qbQ e f b _ _ _ q mode w' hb (ht.below h) (by omega) (by omega) hfit fun w2 h'=>a0 w2 (h.trans (h'.mono h.size)),fun w' h=>?_⟩;have:=R12.Places_zero e f b q mode w' h1 h2 h3 h4 h5 hfit hf k1 k2 (by omega) (by omega);rw[show txtL (q0L e f b) (hexL 0 (q+1)) 0=q7L (q0L e f b) (fG e f b) 0 (fX e f b) mode q by unfold q7L;rw[if_pos rfl]] at this;exact this
     ·have hG:fG e f b=q0L e f b:=by show qbU _ (fM e f b)=_;unfold qbU;rw[if_neg (by omega)]
      rw[hG] at a0;exact⟨_,_,fun w' h=>q9b e f b _ _ _ _ q mode w' hb (ht.below h) (hg.below h).std (q2c h0) hN hX.1 hX.2 (by omega) (by omega) hfit fun w2 h'=>a0 w2 (h.trans (h'.mono h.size)),
       fun w' h=>R12.Places_pos e f b q mode w' h1 h2 h3 h4 h5 hfit hf h0 (by omega) (by omega) (hg.below h).std⟩
 ·exact⟨_,_,fun w' _=>Places_nf E F b places mode w' hb hfit,fun w' _=>R12.Places_nf E F b places mode w' hb hfit⟩
theorem HexPrint(E F:Int)(b:Nat)(places:Int)(mode:Nat)(w:World)(hg:Bg w)(ht:Ten w)(hb:b<18446744073709551616):
  Calls Tryz.prog 5 #[fm E F,.int .u64 b,.int .i64 places,.int .u8 mode] w fun e w'=>e=.returned (.bool true)/\Below w.heap.size w w':=by
 obtain⟨S1,q1,a1,a2⟩:=q6g E F b w hg ht hb;obtain⟨S2,q2,b1,b2⟩:=q5y E F b places mode w hg ht hb;obtain⟨S3,q3,c1,c2⟩:=q7E E F b w hb;exact q8d E F b places mode S1 S2 S3 q1 q2 q3 w hg ht a1 a2 b1 b2 c1 c2
end Go.Proofs.YtppgcnhlpnmieaaGreatDoor.Hx
