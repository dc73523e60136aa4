/- Lemmas. -/
set_option linter.all false
def k00:=@Nat.pow_le_pow_right
def k01:=@Nat.eq_zero_or_pos
def k02:=@decide_eq_false
def k03:=@Nat.lt_of_lt_of_le
def k04:=@decide_eq_true
def k05:=@beq_eq_false_iff_ne
def k06:=@List.getElem?_cons_zero
def k07:=@Nat.le_trans
def k08:=@Int.natAbs_natCast
def k09:=@List.mem_singleton
def k0a:=@Nat.two_pow_pos
def k0b:=@List.getD_eq_getElem?_getD
def k0c:=@List.length_set
def k0d:=@Nat.pow_succ
def k0e:=@Nat.pow_add
def k0f:=@Int.natCast_mul
def k0g:=@Nat.mul_comm
def k0h:=@Nat.div_div_eq_div_mul
def k0i:=@Nat.mod_lt
def k0j:=@Nat.mul_assoc
def k0k:=@Int.natCast_nonneg
def k0l:=@List.getElem?_cons_succ
def k0m:=@Nat.mul_le_mul_left
def k0n:=@List.getElem?_eq_getElem
def k0o:=@List.drop_succ_cons
def k0p:=@if_pos
def k0q:=@Nat.div_le_self
def k0r:=@if_neg
def k0s:=@Nat.div_lt_of_lt_mul
def k0t:=@List.length_drop
def k0u:=@Nat.mul_add
def k0v:=@List.length_take
def k0w:=@List.drop_zero
def k0x:=@Nat.zero_le
def k0y:=@Nat.mul_le_mul_right
def k0z:=@congrArg
def k0A:=@Nat.lt_or_ge
def k0B:=@Nat.pow_zero
def k0C:=@Int.natCast_pow
def k0D:=@List.take_of_length_le
def k0E:=@Nat.mod_eq_of_lt
def k0F:=@Nat.div_add_mod
def k0G:=@Nat.mul_one
def k0H:=@List.length_replicate
def k0I:=@Nat.lt_of_le_of_lt
def k0J:=@Rat.intCast_natCast
def k0K:=@Nat.div_eq_of_lt
def k0L:=@Nat.mul_lt_mul_of_pos_right
def k0M:=@Int.sign_eq_one_of_pos
def k0N:=@Nat.mul_pos
def k0O:=@Nat.pos_of_ne_zero
def k0P:=@Array.getElem?_eq_some_iff
def k0Q:=@Int.tmod_eq_emod_of_nonneg
def k0R:=@List.mem_cons
def k0S:=@Nat.one_mul
def k0T:=@Nat.add_sub_cancel
def k0U:=@Nat.mod_two_eq_zero_or_one
def k0V:=@List.drop_of_length_le
def k0W:=@Nat.mul_left_comm
def k0X:=@List.not_mem_nil
def k0Y:=@Nat.min_eq_left
def k0Z:=@Nat.add_comm
def k10:=@Nat.zero_add
def k11:=@Int.lt_trichotomy
def k12:=@decide_eq_true_eq
def k13:=@Bool.and_eq_true
def k14:=@Nat.mul_div_cancel_left
def k15:=@List.getElem?_eq_none
def k16:=@List.length_append
def k17:=@Nat.gcd_dvd_right
def k18:=@Int.mul_nonneg
def k19:=@Int.toNat_of_nonneg
def k1a:=@Int.sign_eq_neg_one_of_neg
def k1b:=@Nat.div_one
def k1c:=@Int.natAbs_mul
def k1d:=@List.getElem?_take
def k1e:=@Int.neg_mul
def k1f:=@Nat.add_mul
def k1g:=@Nat.pow_pos
def k1h:=@of_decide_eq_true
def k1i:=@decide_eq_false_iff_not
def k1j:=@Nat.pow_le_pow_left
def k1k:=@Nat.gcd_comm
def k1l:=@Nat.le_of_lt
def k1m:=@Nat.mul_zero
def k1n:=@Int.natCast_ediv
def k1o:=@Int.natCast_add
def k1p:=@Nat.two_pow_add_eq_or_of_lt
def k1q:=@Rat.mul_le_mul_of_nonneg_right
def k1r:=@Nat.pow_mul
def k1s:=@Rat.mul_le_mul_of_nonneg_left
def k1t:=@Nat.lt_of_mul_lt_mul_left
def k1u:=@Nat.add_zero
def k1v:=@Nat.le_div_iff_mul_le
def k1w:=@Rat.le_of_lt
def k1x:=@Int.natCast_emod
def k1y:=@decide_eq_decide
def k1z:=@Nat.le_succ
def k1A:=@Nat.pow_one
def k1B:=@Bool.false_eq_true
def k1C:=@Int.mul_le_mul_of_nonneg_right
def k1D:=@beq_iff_eq
def k1E:=@Nat.add_mul_mod_self_left
def k1F:=@Int.mul_le_mul_of_nonneg_left
def k1G:=@List.eq_nil_of_length_eq_zero
def k1H:=@Nat.gcd_dvd_left
def k1I:=@Nat.div_eq_of_lt_le
def k1J:=@List.getElem?_toArray
def k1K:=@Nat.lt_trichotomy
def k1L:=@List.length_eq_zero_iff
def k1M:=@Nat.add_assoc
def k1N:=@Rat.mul_lt_mul_of_pos_right
def k1O:=@List.mem_of_getElem?
def k1P:=@List.take_succ_eq_append_getElem
def k1Q:=@Nat.mod_mul_right_div_self
def k1R:=@Nat.le_mul_of_pos_left
def k1S:=@List.getElem?_map
def k1T:=@Rat.mul_assoc
def k1U:=@List.length_map
def k1V:=@List.getElem?_drop
def k1W:=@Nat.eq_or_lt_of_le
def k1X:=@Nat.pow_lt_pow_iff_right
def k1Y:=@Int.dvd_mul_left
def k1Z:=@Rat.mul_one
def k20:=@Int.ofNat_eq_natCast
def k21:=@Nat.add_mul_div_left
def k22:=@Nat.Coprime.coprime_dvd_left
def k23:=@Int.lt_or_le
def k24:=@Nat.zero_mul
def k25:=@List.nil_append
def k26:=@Nat.coprime_div_gcd_div_gcd
def k27:=@Option.some.inj
def k28:=@Int.tdiv_eq_ediv_of_nonneg
def k29:=@List.all_eq_true
def k2a:=@Int.ofNat_le
def k2b:=@Nat.gcd_zero_right
def k2c:=@or_false
def k2d:=@Nat.div_pos
def k2e:=@Bool.or_eq_true
def k2f:=@Int.toNat_natCast
def k2g:=@Nat.mod_add_div
def k2h:=@Nat.and_two_pow_sub_one_eq_mod
def k2i:=@Int.dvd_trans
def k2j:=@Int.natCast_dvd_natCast
def k2k:=@List.take_replicate
def k2l:=@Nat.le_of_dvd
def k2m:=@Nat.lt_two_pow_self
def k2n:=@Rat.mkRat_one
def k2o:=@List.length_cons
def k2p:=@Rat.zpow_natCast
def k2q:=@Nat.mul_le_mul
def k2r:=@Nat.div_dvd_of_dvd
def k2s:=@decide_eq_true_iff
def k2t:=@Array.getElem?_modify
def k2u:=@Bool.eq_iff_iff
def k2v:=@Nat.Coprime.mul_right
def k2w:=@Rat.natCast_pow
def k2x:=@Rat.one_mul
def k2y:=@Int.ofNat.inj
def k2z:=@Nat.gcd_one_right
def k2A:=@Nat.lt_irrefl
def k2B:=@Bool.not_false
def k2C:=@Int.mul_neg_of_neg_of_pos
def k2D:=@Nat.le_of_mul_le_mul_left
def k2E:=@Rat.mkRat_self
def k2F:=@List.getElem_mem
def k2G:=@Nat.lt_of_not_le
def k2H:=@Nat.gcd_rec
def k2I:=@Nat.testBit_two_pow
def k2J:=@Int.mul_comm
def k2K:=@BitVec.toNat_ofInt
def k2L:=@Bool.and_true
def k2M:=@Bool.not_true
def k2N:=@Int.eq_ofNat_of_zero_le
def k2O:=@List.map_append
def k2P:=@List.mem_append
def k2Q:=@Nat.le_mul_of_pos_right
def k2R:=@Nat.mod_mod_of_dvd
def k2S:=@Nat.mul_div_cancel
def k2T:=@Rat.intCast_mul
def k2U:=@Rat.natCast_add
def k2V:=@Rat.natCast_mul
def k2W:=@of_decide_eq_false
def k2X:=@Array.getElem?_eq_none
def k2Y:=@Int.mul_add
def k2Z:=@List.take_zero
def k30:=@List.take_append_drop
def k31:=@Rat.mul_comm
def k32:=@Nat.dvd_mul_left
def k33:=@Nat.lt_succ_self
def k34:=@Rat.le_floor_iff
def k35:=@Rat.mkRat_eq_div
def k36:=@beq_self_eq_true
def k37:=@Bool.true_and
def k38:=@Nat.dvd_trans
def k39:=@if_false
def k3a:=@Rat.lt_iff
def k3b:=@Int.mul_neg
def k3c:=@Int.mul_one
def k3d:=@Nat.mod_mul
def k3e:=@if_true
def k3f:=@Int.le_total
def k3g:=@List.mem_map
def k3h:=@Nat.lt_trans
namespace Go.Proofs.YtabcgemembkkcaaGreatDoor
variable{n x k a b q j y d c N:Nat}{xs ys U V:List Nat}
section
def val:List Nat->Nat
 | []=>0
 | x::xs=>x+4294967296*val xs
def Lim(xs:List Nat):Prop:=∀x∈xs,x<4294967296
def q8U:Nat->Nat->List Nat
 | 0,_=>[]
 | f+1,n=>if n=0 then[] else(n%4294967296)::q8U f (n/4294967296)
def toL(n:Nat):List Nat:=q8U n n
theorem q7j:∀(f g n:Nat),n<=f->n<=g->q8U f n=q8U g n
 | 0,0,_,_,_=>rfl
 | 0,g+1,n,h,_=>by
  have:n=0:=by omega
  subst this;simp [q8U]
 | f+1,0,n,_,h=>by
  have:n=0:=by omega
  subst this;simp [q8U]
 | f+1,g+1,n,hf,hg=>by
  by_cases h:n=0
  ·subst h;simp [q8U]
  ·simp only[q8U,k0r h];rw[q7j f g _ (by omega) (by omega)]
theorem q2t:toL 0=[]:=rfl
theorem q25(h:0<n):toL n=(n%4294967296)::toL (n/4294967296):=by unfold toL;obtain⟨m,rfl⟩:∃m,n=m+1:=⟨n-1,by omega⟩;simp only[q8U];rw[k0r (by omega)];rw[q7j m ((m+1)/4294967296) _ (by omega) (by omega)]
theorem q0L:Lim []:=fun _ h=>by cases h
theorem q0y:Lim (x::xs)↔x<4294967296/\Lim xs:=by simp [Lim]
theorem q0R:Lim (xs++ys)↔Lim xs/\Lim ys:=by simp only[Lim,k2P];exact⟨fun h=>⟨fun x hx=>h x (.inl hx),fun x hx=>h x (.inr hx)⟩,fun h x hx=>hx.elim (h.1 x) (h.2 x)⟩
theorem q0C(h:Lim xs)(n:Nat):Lim (xs.take n):=fun x hx=>h x (List.mem_of_mem_take hx)
theorem q13(h:Lim xs)(n:Nat):Lim (xs.drop n):=fun x hx=>h x (List.mem_of_mem_drop hx)
theorem q12(n:Nat):Lim (List.replicate n 0):=fun x hx=>by rw[(List.mem_replicate.1 hx).2];omega
theorem q8E(h:Lim xs)(i:Nat)(hx:x<4294967296):Lim (xs.set i x):=fun y hy=>by
 rcases List.mem_or_eq_of_mem_set hy with h'|rfl
 ·exact h _ h'
 ·exact hx
theorem q2h(h:Lim xs)(i:Nat):xs.getD i 0<4294967296:=by
 rw[k0b];by_cases hi:i<xs.length
 ·rw[k0n hi];exact h _ (k2F hi)
 ·rw[k15 (by omega)];simp
theorem q1H(n:Nat):Lim (toL n):=by
 induction n using Nat.strongRecOn with
 | ind n ih =>
  by_cases h:n=0
  ·subst h;exact q0L
  ·rw[q25 (by omega),q0y];exact⟨k0i _ (by omega),ih _ (by omega)⟩
theorem q5c:val []=0:=rfl
theorem q34(x:Nat)(xs:List Nat):val (x::xs)=x+4294967296*val xs:=rfl
theorem q1c(xs ys:List Nat):val (xs++ys)=val xs+4294967296^xs.length*val ys:=by
 induction xs with
 | nil=>simp [val]
 | cons x xs ih =>simp only[List.cons_append,val,ih,k2o,k0d,k0u];rw[<- k0j,k0g 4294967296 (4294967296^xs.length)];omega
theorem q3O(x:Nat):val [x]=x:=by simp [val]
theorem q1t(xs:List Nat)(x:Nat):val (xs++[x])=val xs+4294967296^xs.length*x:=by rw[q1c,q3O]
theorem q0d(n:Nat):val (List.replicate n 0)=0:=by
 induction n with
 | zero=>rfl
 | succ n ih=>simp [List.replicate_succ,val,ih]
theorem q0Y(h:Lim xs):val xs<4294967296^xs.length:=by
 induction xs with
 | nil=>simp [val]
 | cons x xs ih =>obtain⟨b,a⟩:=q0y.1 h;have:=ih a;simp only[val,k2o,k0d];omega
theorem q04(n:Nat):val (toL n)=n:=by
 induction n using Nat.strongRecOn with
 | ind n ih =>
  by_cases h:n=0
  ·subst h;rfl
  ·rw[q25 (by omega),val,ih _ (by omega)];omega
theorem q4J(hx:x<4294967296)(h:0<x+4294967296*val xs):toL (val (x::xs))=x::toL (val xs):=by
 rw[val,q25 h];congr 1
 ·omega
 ·congr 1;omega
def Top(xs:List Nat):Prop:=∀h:xs≠[],xs.getLast h≠0
theorem q3H(ht:Top xs)(hne:xs≠[]):0<val xs:=by
 induction xs with
 | nil=>exact absurd rfl hne
 | cons x xs ih =>
  by_cases h:xs=[]
  ·subst h;have:=ht (by simp);simp [val] at this ⊢;omega
  ·have a:Top xs:=fun h'=>by
    have:=ht (by simp)
    rwa [List.getLast_cons h'] at this
   have:=ih a h;simp only[val];omega
theorem qau(hl:Lim xs)(ht:Top xs):toL (val xs)=xs:=by
 induction xs with
 | nil=>rfl
 | cons x xs ih =>
  obtain⟨a,b⟩:=q0y.1 hl;have c:=q3H ht (by simp);rw[q4J a c];congr 1;by_cases h:xs=[]
  ·subst h;rfl
  ·exact ih b fun h'=>by
    have:=ht (by simp)
    rwa [List.getLast_cons h'] at this
theorem q2c:toL n=[]↔n=0:=⟨fun h=>by rw[<- q04 n,h];rfl,fun h=>by subst h;rfl⟩
theorem q1C(hl:Lim xs)(h0:∀i,n<=i->xs.getD i 0=0)(hn:n=0\/(n<=xs.length/\xs.getD (n-1) 0≠0)):xs.take n=toL (val xs):=by
 have e:val xs=val (xs.take n):=by
  conv=>lhs;rw[<- k30 n xs,q1c]
  have f:val (xs.drop n)=0:=by
   have:∀a:List Nat,(∀i,a.getD i 0=0)->val a=0:=by
    intro a
    induction a with
    | nil=>intro _;rfl
    | cons y a ih =>intro h;have c:=h 0;simp at c;rw[val,c,ih (fun i=>by simpa using h (i+1))]
   refine this _ fun i=>?_
   have:=h0 (n+i) (by omega)
   simpa [k1V] using this
  rw[f];simp
 rw[e,qau (q0C hl n)];intro b;rcases hn with rfl|⟨hn,hx⟩
 ·simp at b
 ·rw[List.getLast_eq_getElem];have d:(xs.take n).length=n:=by simp;omega
  have g:0<n:=by
   rcases k01 n with h|h
   ·subst h;simp at b
   ·exact h
  simp only[d,List.getElem_take];rw[k0b,k0n (by omega)] at hx
  simpa using hx
theorem q47(xs:List Nat)(i:Nat)(h:i<xs.length):val (xs.take (i+1))=val (xs.take i)+4294967296^i*xs.getD i 0:=by rw[k1P h,q1t,k0v,k0Y (by omega),k0b,k0n h];rfl
theorem q5P(xs:List Nat)(i:Nat)(h:i<xs.length):val (xs.drop i)=xs.getD i 0+4294967296*val (xs.drop (i+1)):=by rw[List.drop_eq_getElem_cons h,val,k0b,k0n h];rfl
theorem q0G(xs:List Nat)(i:Nat)(h:i<=xs.length):val xs=val (xs.take i)+4294967296^i*val (xs.drop i):=by
 conv=>lhs;rw[<- k30 i xs,q1c]
 rw[k0v,k0Y h]
theorem q17(hl:Lim xs)(i:Nat):val xs/4294967296^i=val (xs.drop i):=by
 by_cases h:i<=xs.length
 ·have b:0<4294967296^i:=k1g (by omega);have a:=q0Y (q0C hl i);rw[k0v,k0Y h] at a;rw[q0G xs i h,k21 _ _ b,k0K a,k10]
 ·rw[k0V (by omega)];have a:=q0Y hl;have:4294967296^xs.length<=4294967296^i:=k00 (by omega) (by omega);exact k0K (by omega)
theorem q3c(hl:Lim xs)(i:Nat):val xs%4294967296^i=val (xs.take i):=by
 by_cases h:i<=xs.length
 ·have a:=q0Y (q0C hl i);rw[k0v,k0Y h] at a;rw[q0G xs i h,k1E,k0E a]
 ·rw[k0D (by omega)];have a:=q0Y hl;have:4294967296^xs.length<=4294967296^i:=k00 (by omega) (by omega);exact k0E (by omega)
theorem q9s(hl:Lim xs)(i:Nat):xs.getD i 0=val xs/4294967296^i%4294967296:=by
 rw[q17 hl];by_cases h:i<xs.length
 ·rw[q5P xs i h];have:=q2h hl i;omega
 ·rw[k0V (by omega),q5c,k0b,k15 (by omega)];rfl
theorem q4b(xs:List Nat)(i x:Nat)(h:i<xs.length):(xs.set i x).take (i+1)=xs.take i++[x]:=by rw[k1P (by simpa using h),List.take_set_of_le (Nat.le_refl i)];simp
theorem q3g(xs:List Nat)(i j x:Nat)(h:j<=i):(xs.set i x).take j=xs.take j:=List.take_set_of_le h
def words(n:Nat):Nat:=(toL n).length
theorem q0p(n:Nat):n<4294967296^words n:=by
 have:=q0Y (q1H n)
 rwa [q04] at this
theorem q15(h:n<4294967296^k):words n<=k:=by
 induction k generalizing n with
 | zero =>
  have:n=0:=by simp at h;omega
  subst this;simp [words,q2t]
 | succ k ih =>
  by_cases h0:n=0
  ·subst h0;simp [words,q2t]
  ·unfold words;rw[q25 (by omega),k2o];have:=ih (n:=n/4294967296) (by rw[k0d] at h;exact k0s (by rw[k0g];exact h));unfold words at this;omega
theorem q1V(h:0<n):4294967296^(words n-1)<=n:=by
 rcases k0A n (4294967296^(words n-1)) with a|a
 ·have:=q15 a;have b:0<words n:=by unfold words;rw[q25 h];simp
  omega
 ·exact a
theorem q0h:words 0=0:=rfl
theorem q06:words n=0↔n=0:=by unfold words;rw[k1L,q2c]
theorem q29(h:a<=b):words a<=words b:=q15 (k0I h (q0p b))
def nth(xs:List Nat)(i:Nat):Nat:=xs.getD i 0
theorem nth_lt(h:Lim xs)(i:Nat):nth xs i<4294967296:=q2h h i
theorem q3l(h:Lim xs)(i:Nat):nth xs i=val xs/4294967296^i%4294967296:=q9s h i
theorem q0U(xs:List Nat)(i:Nat)(h:xs.length<=i):nth xs i=0:=by unfold nth;rw[k0b,k15 h];rfl
theorem q0H(xs:List Nat)(i x j:Nat)(h:i<xs.length):nth (xs.set i x) j=if j=i then x else nth xs j:=by
 unfold nth;rw[k0b,k0b,List.getElem?_set];by_cases hj:i=j
 ·subst hj;simp [h]
 ·rw[k0r hj,k0r (fun e=>hj e.symm)]
theorem q4k(xs:List Nat)(n i:Nat)(h:i<n):nth (xs.take n) i=nth xs i:=by unfold nth;rw[k0b,k0b,k1d,k0p h]
theorem q0I(xs:List Nat)(n i:Nat):nth (xs.drop n) i=nth xs (n+i):=by unfold nth;rw[k0b,k0b,k1V]
theorem q10(n i:Nat):nth (List.replicate n 0) i=0:=by unfold nth;rw[k0b,List.getElem?_replicate];split<;>rfl
theorem q19(n i:Nat):nth (toL n) i=n/4294967296^i%4294967296:=by rw[q3l (q1H n),q04]
theorem q07(xs:List Nat)(i:Nat):val (xs.take (i+1))=val (xs.take i)+4294967296^i*nth xs i:=by
 by_cases h:i<xs.length
 ·exact q47 xs i h
 ·rw[q0U xs i (by omega),k0D (by omega),k0D (by omega)];simp
theorem q0j(xs:List Nat)(i x:Nat)(h:i<xs.length):val ((xs.set i x).take (i+1))=val (xs.take i)+4294967296^i*x:=by rw[q4b xs i x h,q1t,k0v,k0Y (by omega)]
theorem q1Z(hU:k<U.length)(h:val (U.take k)+4294967296^k*q=val (xs.take k)+val (ys.take k)):val ((U.set k ((nth xs k+q+nth ys k)%4294967296)).take (k+1))+4294967296^(k+1)*((nth xs k+q+nth ys k)/4294967296)=val (xs.take (k+1))+val (ys.take (k+1)):=by rw[q0j U k _ hU,q07,q07,k0d,k0j,k1M,<- k0u,k2g,k0u,k0u];omega
def q14(a b:Nat):Int:=if a<b then -1 else if b<a then 1 else 0
theorem q1G(h:a<b):q14 a b = -1:=k0p h
theorem q2p(h:b<a):q14 a b=1:=by unfold q14;rw[k0r (by omega),k0p h]
theorem q4u(h:a=b):q14 a b=0:=by unfold q14;rw[k0r (by omega),k0r (by omega)]
theorem q1F:0<=q14 a b↔b<=a:=by unfold q14;split<;>(try split)<;>omega
theorem q4Y:0<q14 a b↔b<a:=by unfold q14;split<;>(try split)<;>omega
theorem q8n(a b:Nat):-1<=q14 a b/\q14 a b<=1:=by unfold q14;split<;>(try split)<;>omega
theorem q0t(xs:List Nat)(i:Nat):val (xs.drop i)=nth xs i+4294967296*val (xs.drop (i+1)):=by
 by_cases h:i<xs.length
 ·exact q5P xs i h
 ·rw[q0U xs i (by omega),k0V (by omega),k0V (by omega)];rfl
theorem q2C(hx:Lim xs)(hj:j<xs.length)(hj':j<ys.length)(e:val (xs.drop (j+1))=val (ys.drop (j+1)))(h:nth xs j<nth ys j):val xs<val ys:=by
 rw[q0G xs j (by omega),q0G ys j (by omega),q0t xs,q0t ys,e];have a:=q0Y (q0C hx j);rw[k0v,k0Y (by omega)] at a;have b:4294967296^j*(nth xs j+1+4294967296*val (ys.drop (j+1)))<=4294967296^j*(nth ys j+4294967296*val (ys.drop (j+1))):=k0m _ (by omega);have c:nth xs j+1+4294967296*val (ys.drop (j+1))=(nth xs j+4294967296*val (ys.drop (j+1)))+1:=by omega
 rw[c,Nat.mul_succ] at b;omega
theorem q1U(h:words a<words b):a<b:=by
 rcases k0A a b with c|c
 ·exact c
 ·have:=q29 c;omega
theorem q35(hU:k<U.length)(h:val (U.take k)+val (ys.take k)=val (xs.take k)+4294967296^k*y)(hd:d+nth ys k+y=nth xs k+4294967296*q):val ((U.set k d).take (k+1))+val (ys.take (k+1))=val (xs.take (k+1))+4294967296^(k+1)*q:=by
 rw[q0j U k _ hU,q07,q07,k0d,k0j];have e:4294967296^k*(d+nth ys k+y)=4294967296^k*(nth xs k+4294967296*q):=by rw[hd]
 rw[k0u,k0u,k0u] at e;omega
theorem q91(hU:U.length=n)(hx:xs.length<=n)(hy:ys.length<=n)(hl:Lim U)(hle:val ys<=val xs)(h:val (U.take n)+val (ys.take n)=val (xs.take n)+4294967296^n*y):val U=val xs-val ys:=by
 rw[k0D (by omega),k0D hy,k0D hx] at h;have b:=q0Y hl;rw[hU] at b;rcases k01 y with a|a
 ·subst a;omega
 ·have:4294967296^n*1<=4294967296^n*y:=k0m _ a;omega
theorem q1i(hx:x<4294967296)(hy:y<4294967296):x*y<=18446744065119617025:=k2q (show x<=4294967295 by omega) (show y<=4294967295 by omega)
theorem q0i(xs:List Nat){i:Nat}(x:Nat)(h:j≠i):nth (xs.set i x) j=nth xs j:=by unfold nth;rw[k0b,k0b,List.getElem?_set,k0r (fun e=>h e.symm)]
theorem q4m(hV:k+j<V.length)(hs:nth V (k+j)=nth U (k+j))
  (h:val (V.take (k+j))+4294967296^(k+j)*c=val (U.take (k+j))+4294967296^k*(x*val (ys.take j))) :
  val ((V.set (k+j) ((x*nth ys j+nth V (k+j)+c)%4294967296)).take (k+(j+1)))+4294967296^(k+(j+1))*((x*nth ys j+nth V (k+j)+c)/4294967296)
   = val (U.take (k+(j+1)))+4294967296^k*(x*val (ys.take (j+1))):=by
 rw[show k+(j+1)=(k+j)+1 from rfl,q0j V _ _ hV,q07,q07,hs,k0d,k0j,k1M,<- k0u,k2g];have e:4294967296^k*(x*(val (ys.take j)+4294967296^j*nth ys j))=4294967296^k*(x*val (ys.take j))+4294967296^(k+j)*(x*nth ys j):=by rw[k0u,k0u,k0e,k0j,k0W x]
 rw[e,k0u,k0u];omega
theorem q5r{m:Nat}(hm:ys.length=m)(hV:k+m<V.length)
  (hU:val (U.take (k+m))=val (xs.take k)*val ys) (h:val (V.take (k+m))+4294967296^(k+m)*c=val (U.take (k+m))+4294967296^k*(nth xs k*val (ys.take m))) :
  val ((V.set (k+m) c).take (k+1+m))=val (xs.take (k+1))*val ys:=by
 have e:ys.take m=ys:=k0D (by omega);rw[show k+1+m=(k+m)+1 by omega,q0j V _ _ hV,h,hU,e,q07,k1f,k0j]
theorem q0f(h:xs.length<=n):xs.take n=xs:=k0D h
theorem q3u(hl:xs.length=ys.length)(h:∀i,i<xs.length->nth xs i=nth ys i):xs=ys:=by
 apply List.ext_getElem hl;intro i a b;have:=h i a;unfold nth at this;rw[k0b,k0b,k0n a,k0n b] at this
 simpa using this
theorem qaz(hl:V.length=U.length)(h:∀p,q<=p->nth V p=nth U p):val V+val (U.take q)=val U+val (V.take q):=by
 by_cases hq:q<=U.length
 ·have e:V.drop q=U.drop q:=q3u (by rw[k0t,k0t,hl]) fun i _=>by rw[q0I,q0I];exact h _ (by omega)
  have a:=q0G V q (by omega);have b:=q0G U q hq;rw[e] at a;omega
 ·rw[q0f (xs:=U) (by omega),q0f (xs:=V) (by omega)];omega
theorem qab(h:4294967296^a<4294967296^n):a<n:=(k1X (by omega)).1 h
theorem q1x(xs:List Nat)(q:Nat):val (xs.take q)<=val xs:=by
 by_cases hq:q<=xs.length
 ·rw[q0G xs q hq];omega
 ·rw[q0f (by omega)];omega
theorem q6Y{at_:Nat}(hf:val U+4294967296^at_*N<4294967296^n)(h:val (V.take (at_+k))+4294967296^(at_+k)*y=val (U.take (at_+k))+4294967296^at_*val ((toL N).take k))
  (hc:k<(toL N).length\/0<y):at_+k<n:=by
 apply qab;by_cases hk:k<(toL N).length
 ·have a:0<N:=by
   rcases k01 N with a|a
   ·subst a;rw[q2t] at hk;simp at hk
   ·exact a
  have b:=q1V a;have c:4294967296^k<=4294967296^(words N-1):=k00 (by omega) (by unfold words;omega);have e:4294967296^at_*4294967296^k<=4294967296^at_*N:=k0m _ (by omega);rw[k0e];omega
 ·have d:0<y:=hc.resolve_left hk;rw[q0f (xs:=toL N) (by omega),q04] at h;have b:=q1x U (at_+k);have c:4294967296^(at_+k)*1<=4294967296^(at_+k)*y:=k0m _ d;omega
theorem q42(hV:a+k<V.length)(hs:nth V (a+k)=nth U (a+k))
  (h:val (V.take (a+k))+4294967296^(a+k)*y=val (U.take (a+k))+4294967296^a*val (ys.take k)) (hd:d+4294967296*q=nth V (a+k)+y+nth ys k) :
  val ((V.set (a+k) d).take (a+(k+1)))+4294967296^(a+(k+1))*q=val (U.take (a+(k+1)))+4294967296^a*val (ys.take (k+1)):=by
 rw[show a+(k+1)=(a+k)+1 from rfl,q0j V _ _ hV,q07,q07,k0d,k0j,k1M,<- k0u,hd,hs,k0u,k0u,k0u,<- k0j,<- k0e];omega
theorem q6Z(hl:V.length=U.length)(hs:∀p,a+k<=p->nth V p=nth U p)(hk:(toL N).length<=k)
  (h:val (V.take (a+k))+4294967296^(a+k)*0=val (U.take (a+k))+4294967296^a*val ((toL N).take k)):val V=val U+4294967296^a*N:=by
 have b:=qaz hl hs;rw[q0f (xs:=toL N) hk,q04] at h;omega
theorem q2R(xs:List Nat)(p m:Nat):val (xs.take (p+m))=val (xs.take p)+4294967296^p*val ((xs.drop p).take m):=by
 by_cases h:p<=xs.length
 ·rw[List.take_add,q1c,k0v,k0Y h]
 ·rw[q0f (by omega),q0f (by omega),k0V (by omega)];simp [val]
theorem qe2(a b c d p:Nat):a*c+p*((a+b)*(c+d)-a*c-b*d)+p*p*(b*d)=(a+p*b)*(c+p*d):=by
 have e:(a+b)*(c+d)=a*c+b*d+(a*d+b*c):=by rw[k1f,k0u,k0u];omega
 rw[e,show a*c+b*d+(a*d+b*c)-a*c-b*d=a*d+b*c by omega,k1f,k0u,k0u,k0u];have f:a*(p*d)=p*(a*d):=k0W a p d;have g:p*b*c=p*(b*c):=k0j p b c;have h:p*b*(p*d)=p*p*(b*d):=by rw[k0j,k0W b p d,<- k0j]
 omega
theorem q6c(a b c d:Nat):a*c<=(a+b)*(c+d):=k2q (by omega) (by omega)
theorem q6b(a b c d:Nat):b*d<=(a+b)*(c+d)-a*c:=by
 have e:(a+b)*(c+d)=a*c+b*d+(a*d+b*c):=by rw[k1f,k0u,k0u];omega
 omega
theorem q4i(hx:Lim xs)(hy:Lim ys):val xs*val ys<4294967296^(xs.length+ys.length):=by have a:=q0Y hx;have b:=q0Y hy;rw[k0e];exact Nat.mul_lt_mul'' a b
end
end Go.Proofs.YtabcgemembkkcaaGreatDoor
