/- Lemmas. -/
set_option linter.all false
def k00:=@decide_eq_false
def k01:=@Nat.eq_zero_or_pos
def k02:=@Nat.lt_of_lt_of_le
def k03:=@decide_eq_true
def k04:=@Nat.pow_le_pow_right
def k05:=@Int.natAbs_natCast
def k06:=@Nat.le_trans
def k07:=@Int.natCast_mul
def k08:=@beq_eq_false_iff_ne
def k09:=@List.length_set
def k0a:=@Nat.pow_succ
def k0b:=@Nat.mul_comm
def k0c:=@Nat.two_pow_pos
def k0d:=@List.mem_singleton
def k0e:=@Nat.div_le_self
def k0f:=@Int.natCast_nonneg
def k0g:=@Nat.mul_le_mul_left
def k0h:=@Nat.mul_assoc
def k0i:=@Nat.pow_add
def k0j:=@Nat.mul_pos
def k0k:=@List.length_drop
def k0l:=@Nat.mod_lt
def k0m:=@Nat.mul_add
def k0n:=@Nat.mul_le_mul_right
def k0o:=@Int.sign_eq_one_of_pos
def k0p:=@List.take_of_length_le
def k0q:=@if_pos
def k0r:=@Nat.div_div_eq_div_mul
def k0s:=@List.length_take
def k0t:=@if_neg
def k0u:=@Nat.mul_one
def k0v:=@congrArg
def k0w:=@Nat.div_lt_of_lt_mul
def k0x:=@Nat.zero_le
def k0y:=@Nat.gcd_dvd_right
def k0z:=@Nat.mul_lt_mul_of_pos_right
def k0A:=@Nat.lt_or_ge
def k0B:=@Int.natAbs_mul
def k0C:=@Nat.lt_of_le_of_lt
def k0D:=@Nat.mod_eq_of_lt
def k0E:=@Nat.pow_zero
def k0F:=@Int.natCast_pow
def k0G:=@Nat.pos_of_ne_zero
def k0H:=@Int.sign_eq_neg_one_of_neg
def k0I:=@List.drop_zero
def k0J:=@Nat.one_mul
def k0K:=@List.length_replicate
def k0L:=@Int.lt_trichotomy
def k0M:=@Nat.div_add_mod
def k0N:=@Int.neg_mul
def k0O:=@List.drop_succ_cons
def k0P:=@Nat.mul_left_comm
def k0Q:=@List.drop_of_length_le
def k0R:=@Nat.div_eq_of_lt
def k0S:=@Nat.mod_two_eq_zero_or_one
def k0T:=@decide_eq_true_eq
def k0U:=@Bool.and_eq_true
def k0V:=@Nat.add_comm
def k0W:=@Nat.zero_add
def k0X:=@Int.mul_nonneg
def k0Y:=@Int.toNat_of_nonneg
def k0Z:=@Nat.add_mul
def k10:=@Nat.mul_div_cancel_left
def k11:=@decide_eq_false_iff_not
def k12:=@Nat.min_eq_left
def k13:=@Nat.le_of_dvd
def k14:=@Nat.pow_mul
def k15:=@Nat.gcd_dvd_left
def k16:=@Rat.intCast_natCast
def k17:=@Int.lt_or_le
def k18:=@Nat.add_zero
def k19:=@Nat.gcd_comm
def k1a:=@Nat.le_of_lt
def k1b:=@List.mem_cons
def k1c:=@Int.natCast_add
def k1d:=@Nat.div_one
def k1e:=@Nat.two_pow_add_eq_or_of_lt
def k1f:=@List.length_append
def k1g:=@Int.mul_le_mul_of_nonneg_right
def k1h:=@Nat.mul_zero
def k1i:=@Nat.div_pos
def k1j:=@List.not_mem_nil
def k1k:=@Nat.lt_of_mul_lt_mul_left
def k1l:=@of_decide_eq_true
def k1m:=@Nat.add_sub_cancel
def k1n:=@List.take_succ_eq_append_getElem
def k1o:=@Nat.pow_le_pow_left
def k1p:=@Nat.pow_pos
def k1q:=@Bool.false_eq_true
def k1r:=@decide_eq_true_iff
def k1s:=@Nat.add_mul_mod_self_left
def k1t:=@Int.mul_le_mul_of_nonneg_left
def k1u:=@List.eq_nil_of_length_eq_zero
def k1v:=@Nat.lt_trichotomy
def k1w:=@beq_iff_eq
def k1x:=@Nat.add_assoc
def k1y:=@Nat.le_mul_of_pos_left
def k1z:=@Nat.gcd_one_right
def k1A:=@Nat.le_succ
def k1B:=@Rat.mul_assoc
def k1C:=@Bool.or_eq_true
def k1D:=@List.length_map
def k1E:=@Nat.le_div_iff_mul_le
def k1F:=@Option.some.inj
def k1G:=@Rat.le_of_lt
def k1H:=@Rat.mul_le_mul_of_nonneg_right
def k1I:=@Nat.eq_or_lt_of_le
def k1J:=@Nat.pow_lt_pow_iff_right
def k1K:=@Int.dvd_mul_left
def k1L:=@Int.natCast_ediv
def k1M:=@Int.natCast_emod
def k1N:=@List.all_eq_true
def k1O:=@Rat.mul_le_mul_of_nonneg_left
def k1P:=@Int.ofNat_eq_natCast
def k1Q:=@Nat.add_mul_div_left
def k1R:=@Nat.Coprime.coprime_dvd_left
def k1S:=@Nat.mul_le_mul
def k1T:=@Nat.zero_mul
def k1U:=@Nat.coprime_div_gcd_div_gcd
def k1V:=@Nat.div_eq_of_lt_le
def k1W:=@Nat.pow_one
def k1X:=@Int.tmod_eq_emod_of_nonneg
def k1Y:=@List.length_cons
def k1Z:=@Int.ofNat_le
def k20:=@Int.sub_eq_add_neg
def k21:=@Nat.gcd_zero_right
def k22:=@Int.natAbs_neg
def k23:=@Nat.pow_lt_pow_right
def k24:=@List.nil_append
def k25:=@Nat.gcd_zero_left
def k26:=@Nat.mod_add_div
def k27:=@Nat.and_two_pow_sub_one_eq_mod
def k28:=@Int.dvd_trans
def k29:=@Int.natCast_dvd_natCast
def k2a:=@Int.sign_zero
def k2b:=@Rat.mkRat_one
def k2c:=@Rat.mul_one
def k2d:=@Rat.zpow_natCast
def k2e:=@Nat.div_dvd_of_dvd
def k2f:=@Int.natAbs_zero
def k2g:=@List.take_append_drop
def k2h:=@Nat.Coprime.mul_right
def k2i:=@Rat.mul_lt_mul_of_pos_right
def k2j:=@Rat.natCast_pow
def k2k:=@Int.toNat_natCast
def k2l:=@Nat.dvd_trans
def k2m:=@Nat.mod_mul_right_div_self
def k2n:=@Bool.not_false
def k2o:=@Int.mul_neg_of_neg_of_pos
def k2p:=@Nat.le_of_mul_le_mul_left
def k2q:=@List.getElem_mem
def k2r:=@Nat.lt_of_not_le
def k2s:=@decide_eq_decide
def k2t:=@Array.length_toList
def k2u:=@List.take_replicate
def k2v:=@Nat.gcd_rec
def k2w:=@Nat.testBit_two_pow
def k2x:=@Rat.one_mul
def k2y:=@Int.mul_comm
def k2z:=@BitVec.toNat_ofInt
def k2A:=@Bool.eq_iff_iff
def k2B:=@Bool.not_true
def k2C:=@Int.eq_ofNat_of_zero_le
def k2D:=@List.length_eq_zero_iff
def k2E:=@List.mem_append
def k2F:=@Nat.le_mul_of_pos_right
def k2G:=@or_false
def k2H:=@Int.mul_add
def k2I:=@List.take_zero
def k2J:=@List.singleton_append
def k2K:=@Rat.mul_comm
def k2L:=@Nat.dvd_mul_left
def k2M:=@Rat.le_floor_iff
def k2N:=@Bool.true_and
def k2O:=@if_false
def k2P:=@Int.mul_neg
def k2Q:=@Int.mul_one
def k2R:=@Rat.natCast_add
def k2S:=@if_true
def k2T:=@Int.le_total
def k2U:=@Nat.lt_trans
namespace Go.Proofs.YtabcgemembkkcaaGreatDoor
variable{n x k a b q j y d c N:Nat}{xs ys U V:List Nat}
section
def val:List Nat->Nat
 | []=>0
 | x::xs=>x+4294967296*val xs
def Lim(xs:List Nat):Prop:=∀x∈xs,x<4294967296
def q8s:Nat->Nat->List Nat
 | 0,_=>[]
 | f+1,n=>if n=0 then[] else(n%4294967296)::q8s f (n/4294967296)
def toL(n:Nat):List Nat:=q8s n n
theorem q6Y:∀(f g n:Nat),n<=f->n<=g->q8s f n=q8s g n
 | 0,0,_,_,_=>rfl
 | 0,g+1,n,h,_=>by
  have:n=0:=by omega
  subst this;simp [q8s]
 | f+1,0,n,_,h=>by
  have:n=0:=by omega
  subst this;simp [q8s]
 | f+1,g+1,n,hf,hg=>by
  by_cases h:n=0
  ·subst h;simp [q8s]
  ·simp only[q8s,k0t h];rw[q6Y f g _ (by omega) (by omega)]
theorem q2A:toL 0=[]:=rfl
theorem q3o(h:0<n):toL n=(n%4294967296)::toL (n/4294967296):=by unfold toL;obtain⟨m,rfl⟩:∃m,n=m+1:=⟨n-1,by omega⟩;simp only[q8s];rw[k0t (by omega)];rw[q6Y m ((m+1)/4294967296) _ (by omega) (by omega)]
theorem q0D:Lim []:=fun _ h=>by cases h
theorem q0u:Lim (x::xs)↔x<4294967296/\Lim xs:=by simp [Lim]
theorem q1t:Lim (xs++ys)↔Lim xs/\Lim ys:=by simp only[Lim,k2E];exact⟨fun h=>⟨fun x hx=>h x (.inl hx),fun x hx=>h x (.inr hx)⟩,fun h x hx=>hx.elim (h.1 x) (h.2 x)⟩
theorem q0F(h:Lim xs)(n:Nat):Lim (xs.take n):=fun x hx=>h x (List.mem_of_mem_take hx)
theorem q0Y(h:Lim xs)(n:Nat):Lim (xs.drop n):=fun x hx=>h x (List.mem_of_mem_drop hx)
theorem q19(n:Nat):Lim (List.replicate n 0):=fun x hx=>by rw[(List.mem_replicate.1 hx).2];omega
theorem q8f(h:Lim xs)(i:Nat)(hx:x<4294967296):Lim (xs.set i x):=fun y hy=>by
 rcases List.mem_or_eq_of_mem_set hy with h'|rfl
 ·exact h _ h'
 ·exact hx
theorem q25(h:Lim xs)(i:Nat):xs.getD i 0<4294967296:=by
 rw[List.getD_eq_getElem?_getD];by_cases hi:i<xs.length
 ·rw[List.getElem?_eq_getElem hi];exact h _ (k2q hi)
 ·rw[List.getElem?_eq_none (by omega)];simp
theorem q24(n:Nat):Lim (toL n):=by
 induction n using Nat.strongRecOn with
 | ind n ih =>
  by_cases h:n=0
  ·subst h;exact q0D
  ·rw[q3o (by omega),q0u];exact⟨k0l _ (by omega),ih _ (by omega)⟩
theorem q5c:val []=0:=rfl
theorem q3c(x:Nat)(xs:List Nat):val (x::xs)=x+4294967296*val xs:=rfl
theorem q15(xs ys:List Nat):val (xs++ys)=val xs+4294967296^xs.length*val ys:=by
 induction xs with
 | nil=>simp [val]
 | cons x xs ih =>simp only[List.cons_append,val,ih,k1Y,k0a,k0m];rw[<- k0h,k0b 4294967296 (4294967296^xs.length)];omega
theorem q3P(x:Nat):val [x]=x:=by simp [val]
theorem q3b(xs:List Nat)(x:Nat):val (xs++[x])=val xs+4294967296^xs.length*x:=by rw[q15,q3P]
theorem q0e(n:Nat):val (List.replicate n 0)=0:=by
 induction n with
 | zero=>rfl
 | succ n ih=>simp [List.replicate_succ,val,ih]
theorem q0Z(h:Lim xs):val xs<4294967296^xs.length:=by
 induction xs with
 | nil=>simp [val]
 | cons x xs ih =>obtain⟨b,a⟩:=q0u.1 h;have:=ih a;simp only[val,k1Y,k0a];omega
theorem q04(n:Nat):val (toL n)=n:=by
 induction n using Nat.strongRecOn with
 | ind n ih =>
  by_cases h:n=0
  ·subst h;rfl
  ·rw[q3o (by omega),val,ih _ (by omega)];omega
theorem q4L(hx:x<4294967296)(h:0<x+4294967296*val xs):toL (val (x::xs))=x::toL (val xs):=by
 rw[val,q3o h];congr 1
 ·omega
 ·congr 1;omega
def Top(xs:List Nat):Prop:=∀h:xs≠[],xs.getLast h≠0
theorem q3K(ht:Top xs)(hne:xs≠[]):0<val xs:=by
 induction xs with
 | nil=>exact absurd rfl hne
 | cons x xs ih =>
  by_cases h:xs=[]
  ·subst h;have:=ht (by simp);simp [val] at this ⊢;omega
  ·have a:Top xs:=fun h'=>by
    have:=ht (by simp)
    rwa [List.getLast_cons h'] at this
   have:=ih a h;simp only[val];omega
theorem q9V(hl:Lim xs)(ht:Top xs):toL (val xs)=xs:=by
 induction xs with
 | nil=>rfl
 | cons x xs ih =>
  obtain⟨a,b⟩:=q0u.1 hl;have c:=q3K ht (by simp);rw[q4L a c];congr 1;by_cases h:xs=[]
  ·subst h;rfl
  ·exact ih b fun h'=>by
    have:=ht (by simp)
    rwa [List.getLast_cons h'] at this
theorem q6e:toL n=[]↔n=0:=⟨fun h=>by rw[<- q04 n,h];rfl,fun h=>by subst h;rfl⟩
theorem q2b(hl:Lim xs)(h0:∀i,n<=i->xs.getD i 0=0)(hn:n=0\/(n<=xs.length/\xs.getD (n-1) 0≠0)):xs.take n=toL (val xs):=by
 have e:val xs=val (xs.take n):=by
  conv=>lhs;rw[<- k2g n xs,q15]
  have f:val (xs.drop n)=0:=by
   have:∀a:List Nat,(∀i,a.getD i 0=0)->val a=0:=by
    intro a
    induction a with
    | nil=>intro _;rfl
    | cons y a ih =>intro h;have c:=h 0;simp at c;rw[val,c,ih (fun i=>by simpa using h (i+1))]
   refine this _ fun i=>?_
   have:=h0 (n+i) (by omega)
   simpa [List.getElem?_drop] using this
  rw[f];simp
 rw[e,q9V (q0F hl n)];intro b;rcases hn with rfl|⟨hn,hx⟩
 ·simp at b
 ·rw[List.getLast_eq_getElem];have d:(xs.take n).length=n:=by simp;omega
  have g:0<n:=by
   rcases k01 n with h|h
   ·subst h;simp at b
   ·exact h
  simp only[d,List.getElem_take];rw[List.getD_eq_getElem?_getD,List.getElem?_eq_getElem (by omega)] at hx
  simpa using hx
theorem q47(xs:List Nat)(i:Nat)(h:i<xs.length):val (xs.take (i+1))=val (xs.take i)+4294967296^i*xs.getD i 0:=by rw[k1n h,q3b,k0s,k12 (by omega),List.getD_eq_getElem?_getD,List.getElem?_eq_getElem h];rfl
theorem q5E(xs:List Nat)(i:Nat)(h:i<xs.length):val (xs.drop i)=xs.getD i 0+4294967296*val (xs.drop (i+1)):=by rw[List.drop_eq_getElem_cons h,val,List.getD_eq_getElem?_getD,List.getElem?_eq_getElem h];rfl
theorem q0z(xs:List Nat)(i:Nat)(h:i<=xs.length):val xs=val (xs.take i)+4294967296^i*val (xs.drop i):=by
 conv=>lhs;rw[<- k2g i xs,q15]
 rw[k0s,k12 h]
theorem q11(hl:Lim xs)(i:Nat):val xs/4294967296^i=val (xs.drop i):=by
 by_cases h:i<=xs.length
 ·have b:0<4294967296^i:=k1p (by omega);have a:=q0Z (q0F hl i);rw[k0s,k12 h] at a;rw[q0z xs i h,k1Q _ _ b,k0R a,k0W]
 ·rw[k0Q (by omega)];have a:=q0Z hl;have:4294967296^xs.length<=4294967296^i:=k04 (by omega) (by omega);exact k0R (by omega)
theorem q3n(hl:Lim xs)(i:Nat):val xs%4294967296^i=val (xs.take i):=by
 by_cases h:i<=xs.length
 ·have a:=q0Z (q0F hl i);rw[k0s,k12 h] at a;rw[q0z xs i h,k1s,k0D a]
 ·rw[k0p (by omega)];have a:=q0Z hl;have:4294967296^xs.length<=4294967296^i:=k04 (by omega) (by omega);exact k0D (by omega)
theorem q8Y(hl:Lim xs)(i:Nat):xs.getD i 0=val xs/4294967296^i%4294967296:=by
 rw[q11 hl];by_cases h:i<xs.length
 ·rw[q5E xs i h];have:=q25 hl i;omega
 ·rw[k0Q (by omega),q5c,List.getD_eq_getElem?_getD,List.getElem?_eq_none (by omega)];rfl
theorem q49(xs:List Nat)(i x:Nat)(h:i<xs.length):(xs.set i x).take (i+1)=xs.take i++[x]:=by rw[k1n (by simpa using h),List.take_set_of_le (Nat.le_refl i)];simp
theorem q3q(xs:List Nat)(i j x:Nat)(h:j<=i):(xs.set i x).take j=xs.take j:=List.take_set_of_le h
def words(n:Nat):Nat:=(toL n).length
theorem q0h(n:Nat):n<4294967296^words n:=by
 have:=q0Z (q24 n)
 rwa [q04] at this
theorem q10(h:n<4294967296^k):words n<=k:=by
 induction k generalizing n with
 | zero =>
  have:n=0:=by simp at h;omega
  subst this;simp [words,q2A]
 | succ k ih =>
  by_cases h0:n=0
  ·subst h0;simp [words,q2A]
  ·unfold words;rw[q3o (by omega),k1Y];have:=ih (n:=n/4294967296) (by rw[k0a] at h;exact k0w (by rw[k0b];exact h));unfold words at this;omega
theorem q3A(h:0<n):4294967296^(words n-1)<=n:=by
 rcases k0A n (4294967296^(words n-1)) with a|a
 ·have:=q10 a;have b:0<words n:=by unfold words;rw[q3o h];simp
  omega
 ·exact a
theorem q0w:words 0=0:=rfl
theorem q06:words n=0↔n=0:=by unfold words;rw[k2D,q6e]
theorem q2f(h:a<=b):words a<=words b:=q10 (k0C h (q0h b))
def nth(xs:List Nat)(i:Nat):Nat:=xs.getD i 0
theorem nth_lt(h:Lim xs)(i:Nat):nth xs i<4294967296:=q25 h i
theorem q3v(h:Lim xs)(i:Nat):nth xs i=val xs/4294967296^i%4294967296:=q8Y h i
theorem q1h(xs:List Nat)(i:Nat)(h:xs.length<=i):nth xs i=0:=by unfold nth;rw[List.getD_eq_getElem?_getD,List.getElem?_eq_none h];rfl
theorem q0K(xs:List Nat)(i x j:Nat)(h:i<xs.length):nth (xs.set i x) j=if j=i then x else nth xs j:=by
 unfold nth;rw[List.getD_eq_getElem?_getD,List.getD_eq_getElem?_getD,List.getElem?_set];by_cases hj:i=j
 ·subst hj;simp [h]
 ·rw[k0t hj,k0t (fun e=>hj e.symm)]
theorem q4l(xs:List Nat)(n i:Nat)(h:i<n):nth (xs.take n) i=nth xs i:=by unfold nth;rw[List.getD_eq_getElem?_getD,List.getD_eq_getElem?_getD,List.getElem?_take,k0q h]
theorem q0E(xs:List Nat)(n i:Nat):nth (xs.drop n) i=nth xs (n+i):=by unfold nth;rw[List.getD_eq_getElem?_getD,List.getD_eq_getElem?_getD,List.getElem?_drop]
theorem q0W(n i:Nat):nth (List.replicate n 0) i=0:=by unfold nth;rw[List.getD_eq_getElem?_getD,List.getElem?_replicate];split<;>rfl
theorem q12(n i:Nat):nth (toL n) i=n/4294967296^i%4294967296:=by rw[q3v (q24 n),q04]
theorem q08(xs:List Nat)(i:Nat):val (xs.take (i+1))=val (xs.take i)+4294967296^i*nth xs i:=by
 by_cases h:i<xs.length
 ·exact q47 xs i h
 ·rw[q1h xs i (by omega),k0p (by omega),k0p (by omega)];simp
theorem q0i(xs:List Nat)(i x:Nat)(h:i<xs.length):val ((xs.set i x).take (i+1))=val (xs.take i)+4294967296^i*x:=by rw[q49 xs i x h,q3b,k0s,k12 (by omega)]
theorem q23(hU:k<U.length)(h:val (U.take k)+4294967296^k*q=val (xs.take k)+val (ys.take k)):val ((U.set k ((nth xs k+q+nth ys k)%4294967296)).take (k+1))+4294967296^(k+1)*((nth xs k+q+nth ys k)/4294967296)=val (xs.take (k+1))+val (ys.take (k+1)):=by rw[q0i U k _ hU,q08,q08,k0a,k0h,k1x,<- k0m,k26,k0m,k0m];omega
def q0y(a b:Nat):Int:=if a<b then -1 else if b<a then 1 else 0
theorem q1I(h:a<b):q0y a b = -1:=k0q h
theorem q2x(h:b<a):q0y a b=1:=by unfold q0y;rw[k0t (by omega),k0q h]
theorem q4v(h:a=b):q0y a b=0:=by unfold q0y;rw[k0t (by omega),k0t (by omega)]
theorem q34:q0y a b<0↔a<b:=by unfold q0y;split<;>(try split)<;>omega
theorem q1E:0<=q0y a b↔b<=a:=by unfold q0y;split<;>(try split)<;>omega
theorem q35:0<q0y a b↔b<a:=by unfold q0y;split<;>(try split)<;>omega
theorem q5y(a b:Nat):-1<=q0y a b/\q0y a b<=1:=by unfold q0y;split<;>(try split)<;>omega
theorem q0s(xs:List Nat)(i:Nat):val (xs.drop i)=nth xs i+4294967296*val (xs.drop (i+1)):=by
 by_cases h:i<xs.length
 ·exact q5E xs i h
 ·rw[q1h xs i (by omega),k0Q (by omega),k0Q (by omega)];rfl
theorem q2I(hx:Lim xs)(hj:j<xs.length)(hj':j<ys.length)(e:val (xs.drop (j+1))=val (ys.drop (j+1)))(h:nth xs j<nth ys j):val xs<val ys:=by
 rw[q0z xs j (by omega),q0z ys j (by omega),q0s xs,q0s ys,e];have a:=q0Z (q0F hx j);rw[k0s,k12 (by omega)] at a;have b:4294967296^j*(nth xs j+1+4294967296*val (ys.drop (j+1)))<=4294967296^j*(nth ys j+4294967296*val (ys.drop (j+1))):=k0g _ (by omega);have c:nth xs j+1+4294967296*val (ys.drop (j+1))=(nth xs j+4294967296*val (ys.drop (j+1)))+1:=by omega
 rw[c,Nat.mul_succ] at b;omega
theorem q1W(h:words a<words b):a<b:=by
 rcases k0A a b with c|c
 ·exact c
 ·have:=q2f c;omega
theorem q3e(hU:k<U.length)(h:val (U.take k)+val (ys.take k)=val (xs.take k)+4294967296^k*y)(hd:d+nth ys k+y=nth xs k+4294967296*q):val ((U.set k d).take (k+1))+val (ys.take (k+1))=val (xs.take (k+1))+4294967296^(k+1)*q:=by
 rw[q0i U k _ hU,q08,q08,k0a,k0h];have e:4294967296^k*(d+nth ys k+y)=4294967296^k*(nth xs k+4294967296*q):=by rw[hd]
 rw[k0m,k0m,k0m] at e;omega
theorem q8x(hU:U.length=n)(hx:xs.length<=n)(hy:ys.length<=n)(hl:Lim U)(hle:val ys<=val xs)(h:val (U.take n)+val (ys.take n)=val (xs.take n)+4294967296^n*y):val U=val xs-val ys:=by
 rw[k0p (by omega),k0p hy,k0p hx] at h;have b:=q0Z hl;rw[hU] at b;rcases k01 y with a|a
 ·subst a;omega
 ·have:4294967296^n*1<=4294967296^n*y:=k0g _ a;omega
theorem q1v(hx:x<4294967296)(hy:y<4294967296):x*y<=18446744065119617025:=k1S (show x<=4294967295 by omega) (show y<=4294967295 by omega)
theorem q0m(xs:List Nat){i:Nat}(x:Nat)(h:j≠i):nth (xs.set i x) j=nth xs j:=by unfold nth;rw[List.getD_eq_getElem?_getD,List.getD_eq_getElem?_getD,List.getElem?_set,k0t (fun e=>h e.symm)]
theorem q5V(hV:k+j<V.length)(hs:nth V (k+j)=nth U (k+j))
  (h:val (V.take (k+j))+4294967296^(k+j)*c=val (U.take (k+j))+4294967296^k*(x*val (ys.take j))) :
  val ((V.set (k+j) ((x*nth ys j+nth V (k+j)+c)%4294967296)).take (k+(j+1)))+4294967296^(k+(j+1))*((x*nth ys j+nth V (k+j)+c)/4294967296)
   = val (U.take (k+(j+1)))+4294967296^k*(x*val (ys.take (j+1))):=by
 rw[show k+(j+1)=(k+j)+1 from rfl,q0i V _ _ hV,q08,q08,hs,k0a,k0h,k1x,<- k0m,k26];have e:4294967296^k*(x*(val (ys.take j)+4294967296^j*nth ys j))=4294967296^k*(x*val (ys.take j))+4294967296^(k+j)*(x*nth ys j):=by rw[k0m,k0m,k0i,k0h,k0P x]
 rw[e,k0m,k0m];omega
theorem q7s{m:Nat}(hm:ys.length=m)(hV:k+m<V.length)
  (hU:val (U.take (k+m))=val (xs.take k)*val ys) (h:val (V.take (k+m))+4294967296^(k+m)*c=val (U.take (k+m))+4294967296^k*(nth xs k*val (ys.take m))) :
  val ((V.set (k+m) c).take (k+1+m))=val (xs.take (k+1))*val ys:=by
 have e:ys.take m=ys:=k0p (by omega);rw[show k+1+m=(k+m)+1 by omega,q0i V _ _ hV,h,hU,e,q08,k0Z,k0h]
theorem q0j(h:xs.length<=n):xs.take n=xs:=k0p h
theorem q3B(hl:xs.length=ys.length)(h:∀i,i<xs.length->nth xs i=nth ys i):xs=ys:=by
 apply List.ext_getElem hl;intro i a b;have:=h i a;unfold nth at this;rw[List.getD_eq_getElem?_getD,List.getD_eq_getElem?_getD,List.getElem?_eq_getElem a,List.getElem?_eq_getElem b] at this
 simpa using this
theorem q9Y(hl:V.length=U.length)(h:∀p,q<=p->nth V p=nth U p):val V+val (U.take q)=val U+val (V.take q):=by
 by_cases hq:q<=U.length
 ·have e:V.drop q=U.drop q:=q3B (by rw[k0k,k0k,hl]) fun i _=>by rw[q0E,q0E];exact h _ (by omega)
  have a:=q0z V q (by omega);have b:=q0z U q hq;rw[e] at a;omega
 ·rw[q0j (xs:=U) (by omega),q0j (xs:=V) (by omega)];omega
theorem q9C(h:4294967296^a<4294967296^n):a<n:=(k1J (by omega)).1 h
theorem q2p(xs:List Nat)(q:Nat):val (xs.take q)<=val xs:=by
 by_cases hq:q<=xs.length
 ·rw[q0z xs q hq];omega
 ·rw[q0j (by omega)];omega
theorem q6C{at_:Nat}(hf:val U+4294967296^at_*N<4294967296^n)(h:val (V.take (at_+k))+4294967296^(at_+k)*y=val (U.take (at_+k))+4294967296^at_*val ((toL N).take k))
  (hc:k<(toL N).length\/0<y):at_+k<n:=by
 apply q9C;by_cases hk:k<(toL N).length
 ·have a:0<N:=by
   rcases k01 N with a|a
   ·subst a;rw[q2A] at hk;simp at hk
   ·exact a
  have b:=q3A a;have c:4294967296^k<=4294967296^(words N-1):=k04 (by omega) (by unfold words;omega);have e:4294967296^at_*4294967296^k<=4294967296^at_*N:=k0g _ (by omega);rw[k0i];omega
 ·have d:0<y:=hc.resolve_left hk;rw[q0j (xs:=toL N) (by omega),q04] at h;have b:=q2p U (at_+k);have c:4294967296^(at_+k)*1<=4294967296^(at_+k)*y:=k0g _ d;omega
theorem q45(hV:a+k<V.length)(hs:nth V (a+k)=nth U (a+k))
  (h:val (V.take (a+k))+4294967296^(a+k)*y=val (U.take (a+k))+4294967296^a*val (ys.take k)) (hd:d+4294967296*q=nth V (a+k)+y+nth ys k) :
  val ((V.set (a+k) d).take (a+(k+1)))+4294967296^(a+(k+1))*q=val (U.take (a+(k+1)))+4294967296^a*val (ys.take (k+1)):=by
 rw[show a+(k+1)=(a+k)+1 from rfl,q0i V _ _ hV,q08,q08,k0a,k0h,k1x,<- k0m,hd,hs,k0m,k0m,k0m,<- k0h,<- k0i];omega
theorem q6D(hl:V.length=U.length)(hs:∀p,a+k<=p->nth V p=nth U p)(hk:(toL N).length<=k)
  (h:val (V.take (a+k))+4294967296^(a+k)*0=val (U.take (a+k))+4294967296^a*val ((toL N).take k)):val V=val U+4294967296^a*N:=by
 have b:=q9Y hl hs;rw[q0j (xs:=toL N) hk,q04] at h;omega
theorem q2X(xs:List Nat)(p m:Nat):val (xs.take (p+m))=val (xs.take p)+4294967296^p*val ((xs.drop p).take m):=by
 by_cases h:p<=xs.length
 ·rw[List.take_add,q15,k0s,k12 h]
 ·rw[q0j (by omega),q0j (by omega),k0Q (by omega)];simp [val]
theorem qd6(a b c d p:Nat):a*c+p*((a+b)*(c+d)-a*c-b*d)+p*p*(b*d)=(a+p*b)*(c+p*d):=by
 have e:(a+b)*(c+d)=a*c+b*d+(a*d+b*c):=by rw[k0Z,k0m,k0m];omega
 rw[e,show a*c+b*d+(a*d+b*c)-a*c-b*d=a*d+b*c by omega,k0Z,k0m,k0m,k0m];have f:a*(p*d)=p*(a*d):=k0P a p d;have g:p*b*c=p*(b*c):=k0h p b c;have h:p*b*(p*d)=p*p*(b*d):=by rw[k0h,k0P b p d,<- k0h]
 omega
theorem q5Z(a b c d:Nat):a*c<=(a+b)*(c+d):=k1S (by omega) (by omega)
theorem q5Y(a b c d:Nat):b*d<=(a+b)*(c+d)-a*c:=by
 have e:(a+b)*(c+d)=a*c+b*d+(a*d+b*c):=by rw[k0Z,k0m,k0m];omega
 omega
theorem q4h(hx:Lim xs)(hy:Lim ys):val xs*val ys<4294967296^(xs.length+ys.length):=by have a:=q0Z hx;have b:=q0Z hy;rw[k0i];exact Nat.mul_lt_mul'' a b
end
end Go.Proofs.YtabcgemembkkcaaGreatDoor
