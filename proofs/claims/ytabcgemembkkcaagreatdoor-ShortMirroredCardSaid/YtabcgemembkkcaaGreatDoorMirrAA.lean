/- Lemmas. -/
set_option linter.all false
def k00:=@decide_eq_false
def k01:=@Nat.eq_zero_or_pos
def k02:=@Nat.lt_of_lt_of_le
def k03:=@decide_eq_true
def k04:=@Nat.pow_le_pow_right
def k05:=@Int.natAbs_natCast
def k06:=@Nat.le_trans
def k07:=@List.length_set
def k08:=@Int.natCast_mul
def k09:=@beq_eq_false_iff_ne
def k0a:=@Nat.pow_succ
def k0b:=@Nat.mul_comm
def k0c:=@Nat.two_pow_pos
def k0d:=@Int.natCast_nonneg
def k0e:=@Nat.div_le_self
def k0f:=@Nat.mul_assoc
def k0g:=@Nat.mul_le_mul_left
def k0h:=@Nat.pow_add
def k0i:=@List.mem_singleton
def k0j:=@Nat.mod_lt
def k0k:=@Nat.mul_add
def k0l:=@Nat.mul_pos
def k0m:=@List.length_drop
def k0n:=@if_pos
def k0o:=@if_neg
def k0p:=@Nat.div_div_eq_div_mul
def k0q:=@Nat.mul_le_mul_right
def k0r:=@Int.sign_eq_one_of_pos
def k0s:=@Nat.div_lt_of_lt_mul
def k0t:=@List.length_take
def k0u:=@Nat.mod_eq_of_lt
def k0v:=@congrArg
def k0w:=@List.take_of_length_le
def k0x:=@Nat.zero_le
def k0y:=@Nat.lt_or_ge
def k0z:=@Nat.gcd_dvd_right
def k0A:=@Nat.mul_one
def k0B:=@Int.natAbs_mul
def k0C:=@decide_eq_true_eq
def k0D:=@Int.natCast_pow
def k0E:=@Nat.mul_lt_mul_of_pos_right
def k0F:=@Nat.lt_of_le_of_lt
def k0G:=@Nat.pos_of_ne_zero
def k0H:=@List.drop_succ_cons
def k0I:=@List.length_replicate
def k0J:=@Nat.pow_zero
def k0K:=@Int.lt_trichotomy
def k0L:=@Int.sign_eq_neg_one_of_neg
def k0M:=@List.drop_zero
def k0N:=@Nat.div_eq_of_lt
def k0O:=@Nat.div_add_mod
def k0P:=@Int.neg_mul
def k0Q:=@Nat.one_mul
def k0R:=@List.drop_of_length_le
def k0S:=@Nat.mul_left_comm
def k0T:=@Bool.and_eq_true
def k0U:=@Nat.zero_add
def k0V:=@Rat.mul_le_mul_of_nonneg_right
def k0W:=@Int.mul_nonneg
def k0X:=@Int.toNat_of_nonneg
def k0Y:=@Rat.intCast_natCast
def k0Z:=@Nat.mod_two_eq_zero_or_one
def k10:=@Nat.mul_div_cancel_left
def k11:=@Nat.add_comm
def k12:=@Nat.min_eq_left
def k13:=@Nat.le_of_dvd
def k14:=@Nat.add_zero
def k15:=@Nat.gcd_dvd_left
def k16:=@Nat.le_of_lt
def k17:=@decide_eq_false_iff_not
def k18:=@Nat.add_mul
def k19:=@Nat.gcd_comm
def k1a:=@Rat.le_of_lt
def k1b:=@List.mem_cons
def k1c:=@Nat.two_pow_add_eq_or_of_lt
def k1d:=@Nat.add_sub_cancel
def k1e:=@Nat.div_pos
def k1f:=@Rat.mul_assoc
def k1g:=@Int.natCast_add
def k1h:=@List.not_mem_nil
def k1i:=@Nat.lt_of_mul_lt_mul_left
def k1j:=@of_decide_eq_true
def k1k:=@Nat.pow_mul
def k1l:=@Int.lt_or_le
def k1m:=@Nat.div_one
def k1n:=@Nat.mul_zero
def k1o:=@Bool.false_eq_true
def k1p:=@Int.mul_le_mul_of_nonneg_right
def k1q:=@List.length_append
def k1r:=@Bool.or_eq_true
def k1s:=@Nat.add_mul_mod_self_left
def k1t:=@Int.mul_le_mul_of_nonneg_left
def k1u:=@List.eq_nil_of_length_eq_zero
def k1v:=@Rat.mul_le_mul_of_nonneg_left
def k1w:=@Nat.lt_trichotomy
def k1x:=@Nat.pow_pos
def k1y:=@List.take_succ_eq_append_getElem
def k1z:=@Nat.le_mul_of_pos_left
def k1A:=@Nat.div_eq_of_lt_le
def k1B:=@Nat.le_succ
def k1C:=@Nat.pow_le_pow_left
def k1D:=@Rat.mul_one
def k1E:=@Rat.one_mul
def k1F:=@Nat.add_assoc
def k1G:=@Nat.le_div_iff_mul_le
def k1H:=@Nat.zero_mul
def k1I:=@Nat.eq_or_lt_of_le
def k1J:=@Nat.pow_lt_pow_iff_right
def k1K:=@Int.dvd_mul_left
def k1L:=@Int.natCast_ediv
def k1M:=@List.all_eq_true
def k1N:=@Int.ofNat_eq_natCast
def k1O:=@Nat.add_mul_div_left
def k1P:=@Nat.pow_lt_pow_right
def k1Q:=@Nat.Coprime.coprime_dvd_left
def k1R:=@Int.natAbs_neg
def k1S:=@beq_iff_eq
def k1T:=@List.length_map
def k1U:=@Nat.coprime_div_gcd_div_gcd
def k1V:=@Option.some.inj
def k1W:=@Rat.mul_lt_mul_of_pos_right
def k1X:=@Int.tmod_eq_emod_of_nonneg
def k1Y:=@Int.natCast_emod
def k1Z:=@BitVec.toNat_ofInt
def k20:=@Int.ofNat_le
def k21:=@Int.sub_eq_add_neg
def k22:=@Nat.gcd_zero_right
def k23:=@Nat.pow_one
def k24:=@List.nil_append
def k25:=@Nat.gcd_zero_left
def k26:=@Nat.mod_add_div
def k27:=@Nat.and_two_pow_sub_one_eq_mod
def k28:=@Int.dvd_trans
def k29:=@Int.eq_ofNat_of_zero_le
def k2a:=@Int.natCast_dvd_natCast
def k2b:=@Nat.testBit_two_pow
def k2c:=@Rat.mkRat_one
def k2d:=@Rat.zpow_natCast
def k2e:=@Nat.mul_le_mul
def k2f:=@Nat.div_dvd_of_dvd
def k2g:=@Int.natAbs_zero
def k2h:=@Nat.Coprime.mul_right
def k2i:=@Rat.mul_comm
def k2j:=@Rat.natCast_mul
def k2k:=@Rat.natCast_pow
def k2l:=@Int.toNat_natCast
def k2m:=@Nat.dvd_trans
def k2n:=@Nat.gcd_one_right
def k2o:=@Nat.mod_mul_right_div_self
def k2p:=@Bool.not_false
def k2q:=@Int.mul_neg_of_neg_of_pos
def k2r:=@Nat.le_of_mul_le_mul_left
def k2s:=@List.getElem_mem
def k2t:=@List.length_cons
def k2u:=@Nat.lt_of_not_le
def k2v:=@Rat.le_floor_iff
def k2w:=@decide_eq_decide
def k2x:=@Array.length_toList
def k2y:=@List.take_replicate
def k2z:=@Nat.gcd_rec
def k2A:=@Int.mul_comm
def k2B:=@Bool.eq_iff_iff
def k2C:=@Bool.not_true
def k2D:=@List.mem_append
def k2E:=@Nat.le_mul_of_pos_right
def k2F:=@decide_eq_true_iff
def k2G:=@or_false
def k2H:=@Int.mul_add
def k2I:=@List.take_zero
def k2J:=@Int.le_total
def k2K:=@List.take_append_drop
def k2L:=@Nat.dvd_mul_left
def k2M:=@Bool.true_and
def k2N:=@Int.ofNat.inj
def k2O:=@if_false
def k2P:=@Int.mul_neg
def k2Q:=@Int.mul_one
def k2R:=@Rat.natCast_add
def k2S:=@if_true
def k2T:=@Int.add_comm
def k2U:=@Nat.lt_trans
namespace Go.Proofs.YtabcgemembkkcaaGreatDoor
variable{n x k a b q j y d c N:Nat}{xs ys U V:List Nat}
section
def val:List Nat->Nat
 | []=>0
 | x::xs=>x+4294967296*val xs
def Lim(xs:List Nat):Prop:=∀x∈xs,x<4294967296
def q8n:Nat->Nat->List Nat
 | 0,_=>[]
 | f+1,n=>if n=0 then[] else(n%4294967296)::q8n f (n/4294967296)
def toL(n:Nat):List Nat:=q8n n n
theorem q6H:∀(f g n:Nat),n<=f->n<=g->q8n f n=q8n g n
 | 0,0,_,_,_=>rfl
 | 0,g+1,n,h,_=>by
  have:n=0:=by omega
  subst this;simp [q8n]
 | f+1,0,n,_,h=>by
  have:n=0:=by omega
  subst this;simp [q8n]
 | f+1,g+1,n,hf,hg=>by
  by_cases h:n=0
  ·subst h;simp [q8n]
  ·simp only[q8n,k0o h];rw[q6H f g _ (by omega) (by omega)]
theorem q2r:toL 0=[]:=rfl
theorem q36(h:0<n):toL n=(n%4294967296)::toL (n/4294967296):=by unfold toL;obtain⟨m,rfl⟩:∃m,n=m+1:=⟨n-1,by omega⟩;simp only[q8n];rw[k0o (by omega)];rw[q6H m ((m+1)/4294967296) _ (by omega) (by omega)]
theorem q0N:Lim []:=fun _ h=>by cases h
theorem q0y:Lim (x::xs)↔x<4294967296/\Lim xs:=by simp [Lim]
theorem q1L:Lim (xs++ys)↔Lim xs/\Lim ys:=by simp only[Lim,k2D];exact⟨fun h=>⟨fun x hx=>h x (.inl hx),fun x hx=>h x (.inr hx)⟩,fun h x hx=>hx.elim (h.1 x) (h.2 x)⟩
theorem q0x(h:Lim xs)(n:Nat):Lim (xs.take n):=fun x hx=>h x (List.mem_of_mem_take hx)
theorem q0P(h:Lim xs)(n:Nat):Lim (xs.drop n):=fun x hx=>h x (List.mem_of_mem_drop hx)
theorem q16(n:Nat):Lim (List.replicate n 0):=fun x hx=>by rw[(List.mem_replicate.1 hx).2];omega
theorem q85(h:Lim xs)(i:Nat)(hx:x<4294967296):Lim (xs.set i x):=fun y hy=>by
 rcases List.mem_or_eq_of_mem_set hy with h'|rfl
 ·exact h _ h'
 ·exact hx
theorem q2e(h:Lim xs)(i:Nat):xs.getD i 0<4294967296:=by
 rw[List.getD_eq_getElem?_getD];by_cases hi:i<xs.length
 ·rw[List.getElem?_eq_getElem hi];exact h _ (k2s hi)
 ·rw[List.getElem?_eq_none (by omega)];simp
theorem q1U(n:Nat):Lim (toL n):=by
 induction n using Nat.strongRecOn with
 | ind n ih =>
  by_cases h:n=0
  ·subst h;exact q0N
  ·rw[q36 (by omega),q0y];exact⟨k0j _ (by omega),ih _ (by omega)⟩
theorem q4P:val []=0:=rfl
theorem q2W(x:Nat)(xs:List Nat):val (x::xs)=x+4294967296*val xs:=rfl
theorem q11(xs ys:List Nat):val (xs++ys)=val xs+4294967296^xs.length*val ys:=by
 induction xs with
 | nil=>simp [val]
 | cons x xs ih =>simp only[List.cons_append,val,ih,k2t,k0a,k0k];rw[<- k0f,k0b 4294967296 (4294967296^xs.length)];omega
theorem q3B(x:Nat):val [x]=x:=by simp [val]
theorem q3P(xs:List Nat)(x:Nat):val (xs++[x])=val xs+4294967296^xs.length*x:=by rw[q11,q3B]
theorem q0b(n:Nat):val (List.replicate n 0)=0:=by
 induction n with
 | zero=>rfl
 | succ n ih=>simp [List.replicate_succ,val,ih]
theorem q0Q(h:Lim xs):val xs<4294967296^xs.length:=by
 induction xs with
 | nil=>simp [val]
 | cons x xs ih =>obtain⟨b,a⟩:=q0y.1 h;have:=ih a;simp only[val,k2t,k0a];omega
theorem q04(n:Nat):val (toL n)=n:=by
 induction n using Nat.strongRecOn with
 | ind n ih =>
  by_cases h:n=0
  ·subst h;rfl
  ·rw[q36 (by omega),val,ih _ (by omega)];omega
theorem q4l(hx:x<4294967296)(h:0<x+4294967296*val xs):toL (val (x::xs))=x::toL (val xs):=by
 rw[val,q36 h];congr 1
 ·omega
 ·congr 1;omega
def Top(xs:List Nat):Prop:=∀h:xs≠[],xs.getLast h≠0
theorem q3w(ht:Top xs)(hne:xs≠[]):0<val xs:=by
 induction xs with
 | nil=>exact absurd rfl hne
 | cons x xs ih =>
  by_cases h:xs=[]
  ·subst h;have:=ht (by simp);simp [val] at this ⊢;omega
  ·have a:Top xs:=fun h'=>by
    have:=ht (by simp)
    rwa [List.getLast_cons h'] at this
   have:=ih a h;simp only[val];omega
theorem q9I(hl:Lim xs)(ht:Top xs):toL (val xs)=xs:=by
 induction xs with
 | nil=>rfl
 | cons x xs ih =>
  obtain⟨a,b⟩:=q0y.1 hl;have c:=q3w ht (by simp);rw[q4l a c];congr 1;by_cases h:xs=[]
  ·subst h;rfl
  ·exact ih b fun h'=>by
    have:=ht (by simp)
    rwa [List.getLast_cons h'] at this
theorem q5W:toL n=[]↔n=0:=⟨fun h=>by rw[<- q04 n,h];rfl,fun h=>by subst h;rfl⟩
theorem q23(hl:Lim xs)(h0:∀i,n<=i->xs.getD i 0=0)(hn:n=0\/(n<=xs.length/\xs.getD (n-1) 0≠0)):xs.take n=toL (val xs):=by
 have e:val xs=val (xs.take n):=by
  conv=>lhs;rw[<- k2K n xs,q11]
  have f:val (xs.drop n)=0:=by
   have:∀a:List Nat,(∀i,a.getD i 0=0)->val a=0:=by
    intro a
    induction a with
    | nil=>intro _;rfl
    | cons y a ih =>intro h;have c:=h 0;simp at c;rw[val,c,ih (fun i=>by simpa using h (i+1))]
   refine this _ fun i=>?_
   have:=h0 (n+i) (by omega)
   simpa [List.getElem?_drop] using this
  rw[f];simp
 rw[e,q9I (q0x hl n)];intro b;rcases hn with rfl|⟨hn,hx⟩
 ·simp at b
 ·rw[List.getLast_eq_getElem];have d:(xs.take n).length=n:=by simp;omega
  have g:0<n:=by
   rcases k01 n with h|h
   ·subst h;simp at b
   ·exact h
  simp only[d,List.getElem_take];rw[List.getD_eq_getElem?_getD,List.getElem?_eq_getElem (by omega)] at hx
  simpa using hx
theorem q3O(xs:List Nat)(i:Nat)(h:i<xs.length):val (xs.take (i+1))=val (xs.take i)+4294967296^i*xs.getD i 0:=by rw[k1y h,q3P,k0t,k12 (by omega),List.getD_eq_getElem?_getD,List.getElem?_eq_getElem h];rfl
theorem q5h(xs:List Nat)(i:Nat)(h:i<xs.length):val (xs.drop i)=xs.getD i 0+4294967296*val (xs.drop (i+1)):=by rw[List.drop_eq_getElem_cons h,val,List.getD_eq_getElem?_getD,List.getElem?_eq_getElem h];rfl
theorem q0v(xs:List Nat)(i:Nat)(h:i<=xs.length):val xs=val (xs.take i)+4294967296^i*val (xs.drop i):=by
 conv=>lhs;rw[<- k2K i xs,q11]
 rw[k0t,k12 h]
theorem q0Y(hl:Lim xs)(i:Nat):val xs/4294967296^i=val (xs.drop i):=by
 by_cases h:i<=xs.length
 ·have b:0<4294967296^i:=k1x (by omega);have a:=q0Q (q0x hl i);rw[k0t,k12 h] at a;rw[q0v xs i h,k1O _ _ b,k0N a,k0U]
 ·rw[k0R (by omega)];have a:=q0Q hl;have:4294967296^xs.length<=4294967296^i:=k04 (by omega) (by omega);exact k0N (by omega)
theorem q35(hl:Lim xs)(i:Nat):val xs%4294967296^i=val (xs.take i):=by
 by_cases h:i<=xs.length
 ·have a:=q0Q (q0x hl i);rw[k0t,k12 h] at a;rw[q0v xs i h,k1s,k0u a]
 ·rw[k0w (by omega)];have a:=q0Q hl;have:4294967296^xs.length<=4294967296^i:=k04 (by omega) (by omega);exact k0u (by omega)
theorem q8R(hl:Lim xs)(i:Nat):xs.getD i 0=val xs/4294967296^i%4294967296:=by
 rw[q0Y hl];by_cases h:i<xs.length
 ·rw[q5h xs i h];have:=q2e hl i;omega
 ·rw[k0R (by omega),q4P,List.getD_eq_getElem?_getD,List.getElem?_eq_none (by omega)];rfl
theorem q3T(xs:List Nat)(i x:Nat)(h:i<xs.length):(xs.set i x).take (i+1)=xs.take i++[x]:=by rw[k1y (by simpa using h),List.take_set_of_le (Nat.le_refl i)];simp
theorem q38(xs:List Nat)(i j x:Nat)(h:j<=i):(xs.set i x).take j=xs.take j:=List.take_set_of_le h
def words(n:Nat):Nat:=(toL n).length
theorem q0f(n:Nat):n<4294967296^words n:=by
 have:=q0Q (q1U n)
 rwa [q04] at this
theorem q0X(h:n<4294967296^k):words n<=k:=by
 induction k generalizing n with
 | zero =>
  have:n=0:=by simp at h;omega
  subst this;simp [words,q2r]
 | succ k ih =>
  by_cases h0:n=0
  ·subst h0;simp [words,q2r]
  ·unfold words;rw[q36 (by omega),k2t];have:=ih (n:=n/4294967296) (by rw[k0a] at h;exact k0s (by rw[k0b];exact h));unfold words at this;omega
theorem q3i(h:0<n):4294967296^(words n-1)<=n:=by
 rcases k0y n (4294967296^(words n-1)) with a|a
 ·have:=q0X a;have b:0<words n:=by unfold words;rw[q36 h];simp
  omega
 ·exact a
theorem q0s:words 0=0:=rfl
theorem q06:words n=0↔n=0:=by unfold words;rw[List.length_eq_zero_iff,q5W]
theorem q27(h:a<=b):words a<=words b:=q0X (k0F h (q0f b))
def nth(xs:List Nat)(i:Nat):Nat:=xs.getD i 0
theorem nth_lt(h:Lim xs)(i:Nat):nth xs i<4294967296:=q2e h i
theorem q3d(h:Lim xs)(i:Nat):nth xs i=val xs/4294967296^i%4294967296:=q8R h i
theorem q1b(xs:List Nat)(i:Nat)(h:xs.length<=i):nth xs i=0:=by unfold nth;rw[List.getD_eq_getElem?_getD,List.getElem?_eq_none h];rfl
theorem q0D(xs:List Nat)(i x j:Nat)(h:i<xs.length):nth (xs.set i x) j=if j=i then x else nth xs j:=by
 unfold nth;rw[List.getD_eq_getElem?_getD,List.getD_eq_getElem?_getD,List.getElem?_set];by_cases hj:i=j
 ·subst hj;simp [h]
 ·rw[k0o hj,k0o (fun e=>hj e.symm)]
theorem q3Z(xs:List Nat)(n i:Nat)(h:i<n):nth (xs.take n) i=nth xs i:=by unfold nth;rw[List.getD_eq_getElem?_getD,List.getD_eq_getElem?_getD,List.getElem?_take,k0n h]
theorem q0w(xs:List Nat)(n i:Nat):nth (xs.drop n) i=nth xs (n+i):=by unfold nth;rw[List.getD_eq_getElem?_getD,List.getD_eq_getElem?_getD,List.getElem?_drop]
theorem q0O(n i:Nat):nth (List.replicate n 0) i=0:=by unfold nth;rw[List.getD_eq_getElem?_getD,List.getElem?_replicate];split<;>rfl
theorem q0Z(n i:Nat):nth (toL n) i=n/4294967296^i%4294967296:=by rw[q3d (q1U n),q04]
theorem q08(xs:List Nat)(i:Nat):val (xs.take (i+1))=val (xs.take i)+4294967296^i*nth xs i:=by
 by_cases h:i<xs.length
 ·exact q3O xs i h
 ·rw[q1b xs i (by omega),k0w (by omega),k0w (by omega)];simp
theorem q0g(xs:List Nat)(i x:Nat)(h:i<xs.length):val ((xs.set i x).take (i+1))=val (xs.take i)+4294967296^i*x:=by rw[q3T xs i x h,q3P,k0t,k12 (by omega)]
theorem q1T(hU:k<U.length)(h:val (U.take k)+4294967296^k*q=val (xs.take k)+val (ys.take k)):val ((U.set k ((nth xs k+q+nth ys k)%4294967296)).take (k+1))+4294967296^(k+1)*((nth xs k+q+nth ys k)/4294967296)=val (xs.take (k+1))+val (ys.take (k+1)):=by rw[q0g U k _ hU,q08,q08,k0a,k0f,k1F,<- k0k,k26,k0k,k0k];omega
def q0F(a b:Nat):Int:=if a<b then -1 else if b<a then 1 else 0
theorem q1y(h:a<b):q0F a b = -1:=k0n h
theorem q2m(h:b<a):q0F a b=1:=by unfold q0F;rw[k0o (by omega),k0n h]
theorem q47(h:a=b):q0F a b=0:=by unfold q0F;rw[k0o (by omega),k0o (by omega)]
theorem q1v:0<=q0F a b↔b<=a:=by unfold q0F;split<;>(try split)<;>omega
theorem q4E:0<q0F a b↔b<a:=by unfold q0F;split<;>(try split)<;>omega
theorem q7M(a b:Nat):-1<=q0F a b/\q0F a b<=1:=by unfold q0F;split<;>(try split)<;>omega
theorem q0n(xs:List Nat)(i:Nat):val (xs.drop i)=nth xs i+4294967296*val (xs.drop (i+1)):=by
 by_cases h:i<xs.length
 ·exact q5h xs i h
 ·rw[q1b xs i (by omega),k0R (by omega),k0R (by omega)];rfl
theorem q2A(hx:Lim xs)(hj:j<xs.length)(hj':j<ys.length)(e:val (xs.drop (j+1))=val (ys.drop (j+1)))(h:nth xs j<nth ys j):val xs<val ys:=by
 rw[q0v xs j (by omega),q0v ys j (by omega),q0n xs,q0n ys,e];have a:=q0Q (q0x hx j);rw[k0t,k12 (by omega)] at a;have b:4294967296^j*(nth xs j+1+4294967296*val (ys.drop (j+1)))<=4294967296^j*(nth ys j+4294967296*val (ys.drop (j+1))):=k0g _ (by omega);have c:nth xs j+1+4294967296*val (ys.drop (j+1))=(nth xs j+4294967296*val (ys.drop (j+1)))+1:=by omega
 rw[c,Nat.mul_succ] at b;omega
theorem q1O(h:words a<words b):a<b:=by
 rcases k0y a b with c|c
 ·exact c
 ·have:=q27 c;omega
theorem q2Y(hU:k<U.length)(h:val (U.take k)+val (ys.take k)=val (xs.take k)+4294967296^k*y)(hd:d+nth ys k+y=nth xs k+4294967296*q):val ((U.set k d).take (k+1))+val (ys.take (k+1))=val (xs.take (k+1))+4294967296^(k+1)*q:=by
 rw[q0g U k _ hU,q08,q08,k0a,k0f];have e:4294967296^k*(d+nth ys k+y)=4294967296^k*(nth xs k+4294967296*q):=by rw[hd]
 rw[k0k,k0k,k0k] at e;omega
theorem q8s(hU:U.length=n)(hx:xs.length<=n)(hy:ys.length<=n)(hl:Lim U)(hle:val ys<=val xs)(h:val (U.take n)+val (ys.take n)=val (xs.take n)+4294967296^n*y):val U=val xs-val ys:=by
 rw[k0w (by omega),k0w hy,k0w hx] at h;have b:=q0Q hl;rw[hU] at b;rcases k01 y with a|a
 ·subst a;omega
 ·have:4294967296^n*1<=4294967296^n*y:=k0g _ a;omega
theorem q1n(hx:x<4294967296)(hy:y<4294967296):x*y<=18446744065119617025:=k2e (show x<=4294967295 by omega) (show y<=4294967295 by omega)
theorem q0m(xs:List Nat){i:Nat}(x:Nat)(h:j≠i):nth (xs.set i x) j=nth xs j:=by unfold nth;rw[List.getD_eq_getElem?_getD,List.getD_eq_getElem?_getD,List.getElem?_set,k0o (fun e=>h e.symm)]
theorem q5y(hV:k+j<V.length)(hs:nth V (k+j)=nth U (k+j))
  (h:val (V.take (k+j))+4294967296^(k+j)*c=val (U.take (k+j))+4294967296^k*(x*val (ys.take j))) :
  val ((V.set (k+j) ((x*nth ys j+nth V (k+j)+c)%4294967296)).take (k+(j+1)))+4294967296^(k+(j+1))*((x*nth ys j+nth V (k+j)+c)/4294967296)
   = val (U.take (k+(j+1)))+4294967296^k*(x*val (ys.take (j+1))):=by
 rw[show k+(j+1)=(k+j)+1 from rfl,q0g V _ _ hV,q08,q08,hs,k0a,k0f,k1F,<- k0k,k26];have e:4294967296^k*(x*(val (ys.take j)+4294967296^j*nth ys j))=4294967296^k*(x*val (ys.take j))+4294967296^(k+j)*(x*nth ys j):=by rw[k0k,k0k,k0h,k0f,k0S x]
 rw[e,k0k,k0k];omega
theorem q7c{m:Nat}(hm:ys.length=m)(hV:k+m<V.length)
  (hU:val (U.take (k+m))=val (xs.take k)*val ys) (h:val (V.take (k+m))+4294967296^(k+m)*c=val (U.take (k+m))+4294967296^k*(nth xs k*val (ys.take m))) :
  val ((V.set (k+m) c).take (k+1+m))=val (xs.take (k+1))*val ys:=by
 have e:ys.take m=ys:=k0w (by omega);rw[show k+1+m=(k+m)+1 by omega,q0g V _ _ hV,h,hU,e,q08,k18,k0f]
theorem q0j(h:xs.length<=n):xs.take n=xs:=k0w h
theorem q3j(hl:xs.length=ys.length)(h:∀i,i<xs.length->nth xs i=nth ys i):xs=ys:=by
 apply List.ext_getElem hl;intro i a b;have:=h i a;unfold nth at this;rw[List.getD_eq_getElem?_getD,List.getD_eq_getElem?_getD,List.getElem?_eq_getElem a,List.getElem?_eq_getElem b] at this
 simpa using this
theorem q9M(hl:V.length=U.length)(h:∀p,q<=p->nth V p=nth U p):val V+val (U.take q)=val U+val (V.take q):=by
 by_cases hq:q<=U.length
 ·have e:V.drop q=U.drop q:=q3j (by rw[k0m,k0m,hl]) fun i _=>by rw[q0w,q0w];exact h _ (by omega)
  have a:=q0v V q (by omega);have b:=q0v U q hq;rw[e] at a;omega
 ·rw[q0j (xs:=U) (by omega),q0j (xs:=V) (by omega)];omega
theorem q9q(h:4294967296^a<4294967296^n):a<n:=(k1J (by omega)).1 h
theorem q2h(xs:List Nat)(q:Nat):val (xs.take q)<=val xs:=by
 by_cases hq:q<=xs.length
 ·rw[q0v xs q hq];omega
 ·rw[q0j (by omega)];omega
theorem q6k{at_:Nat}(hf:val U+4294967296^at_*N<4294967296^n)(h:val (V.take (at_+k))+4294967296^(at_+k)*y=val (U.take (at_+k))+4294967296^at_*val ((toL N).take k))
  (hc:k<(toL N).length\/0<y):at_+k<n:=by
 apply q9q;by_cases hk:k<(toL N).length
 ·have a:0<N:=by
   rcases k01 N with a|a
   ·subst a;rw[q2r] at hk;simp at hk
   ·exact a
  have b:=q3i a;have c:4294967296^k<=4294967296^(words N-1):=k04 (by omega) (by unfold words;omega);have e:4294967296^at_*4294967296^k<=4294967296^at_*N:=k0g _ (by omega);rw[k0h];omega
 ·have d:0<y:=hc.resolve_left hk;rw[q0j (xs:=toL N) (by omega),q04] at h;have b:=q2h U (at_+k);have c:4294967296^(at_+k)*1<=4294967296^(at_+k)*y:=k0g _ d;omega
theorem q3M(hV:a+k<V.length)(hs:nth V (a+k)=nth U (a+k))
  (h:val (V.take (a+k))+4294967296^(a+k)*y=val (U.take (a+k))+4294967296^a*val (ys.take k)) (hd:d+4294967296*q=nth V (a+k)+y+nth ys k) :
  val ((V.set (a+k) d).take (a+(k+1)))+4294967296^(a+(k+1))*q=val (U.take (a+(k+1)))+4294967296^a*val (ys.take (k+1)):=by
 rw[show a+(k+1)=(a+k)+1 from rfl,q0g V _ _ hV,q08,q08,k0a,k0f,k1F,<- k0k,hd,hs,k0k,k0k,k0k,<- k0f,<- k0h];omega
theorem q6l(hl:V.length=U.length)(hs:∀p,a+k<=p->nth V p=nth U p)(hk:(toL N).length<=k)
  (h:val (V.take (a+k))+4294967296^(a+k)*0=val (U.take (a+k))+4294967296^a*val ((toL N).take k)):val V=val U+4294967296^a*N:=by
 have b:=q9M hl hs;rw[q0j (xs:=toL N) hk,q04] at h;omega
theorem q2L(xs:List Nat)(p m:Nat):val (xs.take (p+m))=val (xs.take p)+4294967296^p*val ((xs.drop p).take m):=by
 by_cases h:p<=xs.length
 ·rw[List.take_add,q11,k0t,k12 h]
 ·rw[q0j (by omega),q0j (by omega),k0R (by omega)];simp [val]
theorem qcS(a b c d p:Nat):a*c+p*((a+b)*(c+d)-a*c-b*d)+p*p*(b*d)=(a+p*b)*(c+p*d):=by
 have e:(a+b)*(c+d)=a*c+b*d+(a*d+b*c):=by rw[k18,k0k,k0k];omega
 rw[e,show a*c+b*d+(a*d+b*c)-a*c-b*d=a*d+b*c by omega,k18,k0k,k0k,k0k];have f:a*(p*d)=p*(a*d):=k0S a p d;have g:p*b*c=p*(b*c):=k0f p b c;have h:p*b*(p*d)=p*p*(b*d):=by rw[k0f,k0S b p d,<- k0f]
 omega
theorem q5G(a b c d:Nat):a*c<=(a+b)*(c+d):=k2e (by omega) (by omega)
theorem q5F(a b c d:Nat):b*d<=(a+b)*(c+d)-a*c:=by
 have e:(a+b)*(c+d)=a*c+b*d+(a*d+b*c):=by rw[k18,k0k,k0k];omega
 omega
theorem q3X(hx:Lim xs)(hy:Lim ys):val xs*val ys<4294967296^(xs.length+ys.length):=by have a:=q0Q hx;have b:=q0Q hy;rw[k0h];exact Nat.mul_lt_mul'' a b
end
end Go.Proofs.YtabcgemembkkcaaGreatDoor
