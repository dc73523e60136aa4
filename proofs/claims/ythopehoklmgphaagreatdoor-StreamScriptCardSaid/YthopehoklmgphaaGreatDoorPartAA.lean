/- Lemmas. -/
set_option linter.all false
def k00:=@decide_eq_false
def k01:=@Nat.lt_of_lt_of_le
def k02:=@beq_eq_false_iff_ne
def k03:=@decide_eq_true
def k04:=@Nat.eq_zero_or_pos
def k05:=@Nat.pow_le_pow_right
def k06:=@Nat.le_trans
def k07:=@List.getElem?_cons_zero
def k08:=@List.getD_eq_getElem?_getD
def k09:=@Array.getElem?_eq_some_iff
def k0a:=@Int.natCast_mul
def k0b:=@Int.natAbs_natCast
def k0c:=@List.getElem?_cons_succ
def k0d:=@Nat.zero_le
def k0e:=@List.length_set
def k0f:=@Nat.pow_succ
def k0g:=@congrArg
def k0h:=@Nat.mul_comm
def k0i:=@Int.natCast_nonneg
def k0j:=@List.mem_singleton
def k0k:=@Nat.mul_assoc
def k0l:=@List.length_take
def k0m:=@Nat.two_pow_pos
def k0n:=@List.getElem?_eq_getElem
def k0o:=@List.length_drop
def k0p:=@List.length_append
def k0q:=@Nat.pow_add
def k0r:=@Nat.mul_le_mul_right
def k0s:=@List.eq_nil_of_length_eq_zero
def k0t:=@Nat.mul_le_mul_left
def k0u:=@Nat.mul_add
def k0v:=@Int.natCast_pow
def k0w:=@Nat.mul_pos
def k0x:=@List.take_of_length_le
def k0y:=@Nat.div_le_self
def k0z:=@Nat.mod_lt
def k0A:=@decide_eq_false_iff_not
def k0B:=@Nat.mul_lt_mul_of_pos_right
def k0C:=@Bool.and_eq_true
def k0D:=@Nat.div_div_eq_div_mul
def k0E:=@List.take_succ_eq_append_getElem
def k0F:=@Nat.mod_eq_of_lt
def k0G:=@Int.sign_eq_one_of_pos
def k0H:=@Nat.mul_one
def k0I:=@decide_eq_true_eq
def k0J:=@Nat.div_lt_of_lt_mul
def k0K:=@Nat.min_eq_left
def k0L:=@List.drop_zero
def k0M:=@Nat.lt_or_ge
def k0N:=@Nat.one_mul
def k0O:=@Nat.div_add_mod
def k0P:=@List.drop_succ_cons
def k0Q:=@Nat.mul_left_comm
def k0R:=@Nat.pow_zero
def k0S:=@Nat.add_zero
def k0T:=@Nat.lt_of_le_of_lt
def k0U:=@Nat.add_mul
def k0V:=@Nat.gcd_dvd_right
def k0W:=@List.not_mem_nil
def k0X:=@Int.natCast_add
def k0Y:=@List.length_replicate
def k0Z:=@Nat.pos_of_ne_zero
def k10:=@Int.mul_nonneg
def k11:=@List.drop_of_length_le
def k12:=@Int.toNat_of_nonneg
def k13:=@Nat.zero_add
def k14:=@Nat.mul_div_cancel_left
def k15:=@List.getElem?_take
def k16:=@Int.neg_mul
def k17:=@Nat.two_pow_add_eq_or_of_lt
def k18:=@Nat.pow_mul
def k19:=@List.length_cons
def k1a:=@Nat.add_sub_cancel
def k1b:=@Int.natAbs_mul
def k1c:=@Nat.div_eq_of_lt
def k1d:=@Int.lt_trichotomy
def k1e:=@Array.eq_empty_of_size_eq_zero
def k1f:=@Int.lt_or_le
def k1g:=@Int.mul_le_mul_of_nonneg_right
def k1h:=@List.getElem?_eq_none
def k1i:=@Nat.gcd_comm
def k1j:=@Nat.le_of_lt
def k1k:=@Int.natCast_ediv
def k1l:=@List.length_map
def k1m:=@List.take_length
def k1n:=@Nat.lt_of_mul_lt_mul_left
def k1o:=@decide_eq_true_iff
def k1p:=@List.length_nil
def k1q:=@UInt8.toNat_lt
def k1r:=@bne_iff_ne
def k1s:=@Nat.le_succ
def k1t:=@Bool.false_eq_true
def k1u:=@List.getElem?_drop
def k1v:=@Nat.add_comm
def k1w:=@Nat.mul_zero
def k1x:=@ByteArray.data_extract
def k1y:=@Nat.le_mul_of_pos_left
def k1z:=@Bool.or_eq_true
def k1A:=@List.drop_eq_getElem_cons
def k1B:=@Nat.add_mul_mod_self_left
def k1C:=@Int.mul_le_mul_of_nonneg_left
def k1D:=@List.getElem_mem
def k1E:=@List.mem_cons
def k1F:=@Nat.add_assoc
def k1G:=@Nat.gcd_dvd_left
def k1H:=@Nat.div_one
def k1I:=@Nat.pow_pos
def k1J:=@List.getElem?_toArray
def k1K:=@Nat.zero_mul
def k1L:=@List.mem_append
def k1M:=@Option.some.inj
def k1N:=@Array.toList_extract
def k1O:=@Int.sign_eq_neg_one_of_neg
def k1P:=@Nat.mod_two_eq_zero_or_one
def k1Q:=@Array.getElem?_eq_none
def k1R:=@List.getElem?_eq_some_iff
def k1S:=@Array.getElem?_modify
def k1T:=@Nat.le_div_iff_mul_le
def k1U:=@Nat.pow_lt_pow_iff_right
def k1V:=@Int.dvd_mul_left
def k1W:=@List.all_eq_true
def k1X:=@Int.ofNat_eq_natCast
def k1Y:=@Nat.add_mul_div_left
def k1Z:=@Nat.Coprime.coprime_dvd_left
def k20:=@Int.toNat_natCast
def k21:=@List.size_toArray
def k22:=@of_decide_eq_true
def k23:=@List.append_nil
def k24:=@List.length_reverse
def k26:=@List.nil_append
def k28:=@Nat.coprime_div_gcd_div_gcd
def k29:=@Nat.pow_one
def k2a:=@List.dropWhile_sublist
def k2b:=@Int.tmod_eq_emod_of_nonneg
def k2c:=@Int.natCast_emod
def k2d:=@Nat.lt_of_not_le
def k2e:=@Bool.and_eq_false_iff
def k2f:=@Int.ofNat_le
def k2g:=@List.length_singleton
def k2h:=@List.take_append_drop
def k2i:=@Nat.gcd_zero_right
def k2j:=@Nat.le_of_dvd
def k2k:=@List.extract_eq_take_drop
def k2l:=@Nat.div_pos
def k2m:=@Nat.mul_le_mul
def k2n:=@List.foldl_append
def k2o:=@Nat.gcd_one_right
def k2p:=@Nat.lt_trichotomy
def k2q:=@Nat.mod_add_div
def k2r:=@beq_iff_eq
def k2s:=@Array.length_toList
def k2t:=@Int.dvd_trans
def k2u:=@Int.natCast_dvd_natCast
def k2v:=@List.length_eq_zero_iff
def k2w:=@Nat.pow_le_pow_left
def k2x:=@List.cons_append
def k2y:=@Nat.div_dvd_of_dvd
def k2z:=@Nat.eq_or_lt_of_le
def k2A:=@Nat.Coprime.mul_right
def k2B:=@Nat.sub_self
def k2C:=@List.getElem?_append_right
def k2D:=@List.mem_of_getElem?
def k2E:=@Int.mul_neg_of_neg_of_pos
def k2F:=@List.take_zero
def k2G:=@Nat.le_of_mul_le_mul_left
def k2H:=@List.getElem_of_mem
def k2I:=@Bool.eq_false_or_eq_true
def k2J:=@Int.mul_comm
def k2K:=@Nat.lt_trans
namespace Go.Proofs.YthopehoklmgphaaGreatDoor
variable{n x k a b q j y d c N:Nat}{xs ys U V:List Nat}
section
def val:List Nat->Nat
 | []=>0
 | x::xs=>x+4294967296*val xs
def Lim(xs:List Nat):Prop:=∀x∈xs,x<4294967296
def qae:Nat->Nat->List Nat
 | 0,_=>[]
 | f+1,n=>if n=0 then[] else(n%4294967296)::qae f (n/4294967296)
def toL(n:Nat):List Nat:=qae n n
theorem q8x:∀(f g n:Nat),n<=f->n<=g->qae f n=qae g n
 | 0,0,_,_,_=>rfl
 | 0,g+1,n,h,_=>by
  have:n=0:=by omega
  subst this;simp [qae]
 | f+1,0,n,_,h=>by
  have:n=0:=by omega
  subst this;simp [qae]
 | f+1,g+1,n,hf,hg=>by
  by_cases h:n=0
  ·subst h;simp [qae]
  ·simp only[qae,if_neg h];rw[q8x f g _ (by omega) (by omega)]
theorem q35:toL 0=[]:=rfl
theorem q3S(h:0<n):toL n=(n%4294967296)::toL (n/4294967296):=by unfold toL;obtain⟨m,rfl⟩:∃m,n=m+1:=⟨n-1,by omega⟩;simp only[qae];rw[if_neg (by omega)];rw[q8x m ((m+1)/4294967296) _ (by omega) (by omega)]
theorem q0Q:Lim []:=fun _ h=>by cases h
theorem q0B:Lim (x::xs)↔x<4294967296/\Lim xs:=by simp [Lim]
theorem q1A:Lim (xs++ys)↔Lim xs/\Lim ys:=by simp only[Lim,k1L];exact⟨fun h=>⟨fun x hx=>h x (.inl hx),fun x hx=>h x (.inr hx)⟩,fun h x hx=>hx.elim (h.1 x) (h.2 x)⟩
theorem q0M(h:Lim xs)(n:Nat):Lim (xs.take n):=fun x hx=>h x (List.mem_of_mem_take hx)
theorem q1d(h:Lim xs)(n:Nat):Lim (xs.drop n):=fun x hx=>h x (List.mem_of_mem_drop hx)
theorem q2o(n:Nat):Lim (List.replicate n 0):=fun x hx=>by rw[(List.mem_replicate.1 hx).2];omega
theorem q9W(h:Lim xs)(i:Nat)(hx:x<4294967296):Lim (xs.set i x):=fun y hy=>by
 rcases List.mem_or_eq_of_mem_set hy with h'|rfl
 ·exact h _ h'
 ·exact hx
theorem q2p(h:Lim xs)(i:Nat):xs.getD i 0<4294967296:=by
 rw[k08];by_cases hi:i<xs.length
 ·rw[k0n hi];exact h _ (k1D hi)
 ·rw[k1h (by omega)];simp
theorem q2n(n:Nat):Lim (toL n):=by
 induction n using Nat.strongRecOn with
 | ind n ih =>
  by_cases h:n=0
  ·subst h;exact q0Q
  ·rw[q3S (by omega),q0B];exact⟨k0z _ (by omega),ih _ (by omega)⟩
theorem q6g:val []=0:=rfl
theorem q3D(x:Nat)(xs:List Nat):val (x::xs)=x+4294967296*val xs:=rfl
theorem q1x(xs ys:List Nat):val (xs++ys)=val xs+4294967296^xs.length*val ys:=by
 induction xs with
 | nil=>simp [val]
 | cons x xs ih =>simp only[k2x,val,ih,k19,k0f,k0u];rw[<- k0k,k0h 4294967296 (4294967296^xs.length)];omega
theorem q1J(x:Nat):val [x]=x:=by simp [val]
theorem q2b(xs:List Nat)(x:Nat):val (xs++[x])=val xs+4294967296^xs.length*x:=by rw[q1x,q1J]
theorem q0m(n:Nat):val (List.replicate n 0)=0:=by
 induction n with
 | zero=>rfl
 | succ n ih=>simp [List.replicate_succ,val,ih]
theorem q17(h:Lim xs):val xs<4294967296^xs.length:=by
 induction xs with
 | nil=>simp [val]
 | cons x xs ih =>obtain⟨b,a⟩:=q0B.1 h;have:=ih a;simp only[val,k19,k0f];omega
theorem q06(n:Nat):val (toL n)=n:=by
 induction n using Nat.strongRecOn with
 | ind n ih =>
  by_cases h:n=0
  ·subst h;rfl
  ·rw[q3S (by omega),val,ih _ (by omega)];omega
theorem q5J(hx:x<4294967296)(h:0<x+4294967296*val xs):toL (val (x::xs))=x::toL (val xs):=by
 rw[val,q3S h];congr 1
 ·omega
 ·congr 1;omega
def Top(xs:List Nat):Prop:=∀h:xs≠[],xs.getLast h≠0
theorem q4z(ht:Top xs)(hne:xs≠[]):0<val xs:=by
 induction xs with
 | nil=>exact absurd rfl hne
 | cons x xs ih =>
  by_cases h:xs=[]
  ·subst h;have:=ht (by simp);simp [val] at this ⊢;omega
  ·have a:Top xs:=fun h'=>by
    have:=ht (by simp)
    rwa [List.getLast_cons h'] at this
   have:=ih a h;simp only[val];omega
theorem qbU(hl:Lim xs)(ht:Top xs):toL (val xs)=xs:=by
 induction xs with
 | nil=>rfl
 | cons x xs ih =>
  obtain⟨a,b⟩:=q0B.1 hl;have c:=q4z ht (by simp);rw[q5J a c];congr 1;by_cases h:xs=[]
  ·subst h;rfl
  ·exact ih b fun h'=>by
    have:=ht (by simp)
    rwa [List.getLast_cons h'] at this
theorem q7C:toL n=[]↔n=0:=⟨fun h=>by rw[<- q06 n,h];rfl,fun h=>by subst h;rfl⟩
theorem q1m(hl:Lim xs)(h0:∀i,n<=i->xs.getD i 0=0)(hn:n=0\/(n<=xs.length/\xs.getD (n-1) 0≠0)):xs.take n=toL (val xs):=by
 have e:val xs=val (xs.take n):=by
  conv=>lhs;rw[<- k2h n xs,q1x]
  have f:val (xs.drop n)=0:=by
   have:∀a:List Nat,(∀i,a.getD i 0=0)->val a=0:=by
    intro a
    induction a with
    | nil=>intro _;rfl
    | cons y a ih =>intro h;have c:=h 0;simp at c;rw[val,c,ih (fun i=>by simpa using h (i+1))]
   refine this _ fun i=>?_
   have:=h0 (n+i) (by omega)
   simpa [k1u] using this
  rw[f];simp
 rw[e,qbU (q0M hl n)];intro b;rcases hn with rfl|⟨hn,hx⟩
 ·simp at b
 ·rw[List.getLast_eq_getElem];have d:(xs.take n).length=n:=by simp;omega
  have g:0<n:=by
   rcases k04 n with h|h
   ·subst h;simp at b
   ·exact h
  simp only[d,List.getElem_take];rw[k08,k0n (by omega)] at hx
  simpa using hx
theorem q55(xs:List Nat)(i:Nat)(h:i<xs.length):val (xs.take (i+1))=val (xs.take i)+4294967296^i*xs.getD i 0:=by rw[k0E h,q2b,k0l,k0K (by omega),k08,k0n h];rfl
theorem q6R(xs:List Nat)(i:Nat)(h:i<xs.length):val (xs.drop i)=xs.getD i 0+4294967296*val (xs.drop (i+1)):=by rw[k1A h,val,k08,k0n h];rfl
theorem q0P(xs:List Nat)(i:Nat)(h:i<=xs.length):val xs=val (xs.take i)+4294967296^i*val (xs.drop i):=by
 conv=>lhs;rw[<- k2h i xs,q1x]
 rw[k0l,k0K h]
theorem q1w(hl:Lim xs)(i:Nat):val xs/4294967296^i=val (xs.drop i):=by
 by_cases h:i<=xs.length
 ·have b:0<4294967296^i:=k1I (by omega);have a:=q17 (q0M hl i);rw[k0l,k0K h] at a;rw[q0P xs i h,k1Y _ _ b,k1c a,k13]
 ·rw[k11 (by omega)];have a:=q17 hl;have:4294967296^xs.length<=4294967296^i:=k05 (by omega) (by omega);exact k1c (by omega)
theorem q3Q(hl:Lim xs)(i:Nat):val xs%4294967296^i=val (xs.take i):=by
 by_cases h:i<=xs.length
 ·have a:=q17 (q0M hl i);rw[k0l,k0K h] at a;rw[q0P xs i h,k1B,k0F a]
 ·rw[k0x (by omega)];have a:=q17 hl;have:4294967296^xs.length<=4294967296^i:=k05 (by omega) (by omega);exact k0F (by omega)
theorem qaV(hl:Lim xs)(i:Nat):xs.getD i 0=val xs/4294967296^i%4294967296:=by
 rw[q1w hl];by_cases h:i<xs.length
 ·rw[q6R xs i h];have:=q2p hl i;omega
 ·rw[k11 (by omega),q6g,k08,k1h (by omega)];rfl
theorem q5a(xs:List Nat)(i x:Nat)(h:i<xs.length):(xs.set i x).take (i+1)=xs.take i++[x]:=by rw[k0E (by simpa using h),List.take_set_of_le (Nat.le_refl i)];simp
def words(n:Nat):Nat:=(toL n).length
theorem q0l(n:Nat):n<4294967296^words n:=by
 have:=q17 (q2n n)
 rwa [q06] at this
theorem q1n(h:n<4294967296^k):words n<=k:=by
 induction k generalizing n with
 | zero =>
  have:n=0:=by simp at h;omega
  subst this;simp [words,q35]
 | succ k ih =>
  by_cases h0:n=0
  ·subst h0;simp [words,q35]
  ·unfold words;rw[q3S (by omega),k19];have:=ih (n:=n/4294967296) (by rw[k0f] at h;exact k0J (by rw[k0h];exact h));unfold words at this;omega
theorem q2g(h:0<n):4294967296^(words n-1)<=n:=by
 rcases k0M n (4294967296^(words n-1)) with a|a
 ·have:=q1n a;have b:0<words n:=by unfold words;rw[q3S h];simp
  omega
 ·exact a
theorem q1v:words 0=0:=rfl
theorem q0c:words n=0↔n=0:=by unfold words;rw[k2v,q7C]
theorem q22(h:a<=b):words a<=words b:=q1n (k0T h (q0l b))
def nth(xs:List Nat)(i:Nat):Nat:=xs.getD i 0
theorem nth_lt(h:Lim xs)(i:Nat):nth xs i<4294967296:=q2p h i
theorem q46(h:Lim xs)(i:Nat):nth xs i=val xs/4294967296^i%4294967296:=qaV h i
theorem q18(xs:List Nat)(i:Nat)(h:xs.length<=i):nth xs i=0:=by unfold nth;rw[k08,k1h h];rfl
theorem q1f(xs:List Nat)(i x j:Nat)(h:i<xs.length):nth (xs.set i x) j=if j=i then x else nth xs j:=by
 unfold nth;rw[k08,k08,List.getElem?_set];by_cases hj:i=j
 ·subst hj;simp [h]
 ·rw[if_neg hj,if_neg (fun e=>hj e.symm)]
theorem q5l(xs:List Nat)(n i:Nat)(h:i<n):nth (xs.take n) i=nth xs i:=by unfold nth;rw[k08,k08,k15,if_pos h]
theorem q0J(xs:List Nat)(n i:Nat):nth (xs.drop n) i=nth xs (n+i):=by unfold nth;rw[k08,k08,k1u]
theorem q1H(n i:Nat):nth (List.replicate n 0) i=0:=by unfold nth;rw[k08,List.getElem?_replicate];split<;>rfl
theorem q1p(n i:Nat):nth (toL n) i=n/4294967296^i%4294967296:=by rw[q46 (q2n n),q06]
theorem q0b(xs:List Nat)(i:Nat):val (xs.take (i+1))=val (xs.take i)+4294967296^i*nth xs i:=by
 by_cases h:i<xs.length
 ·exact q55 xs i h
 ·rw[q18 xs i (by omega),k0x (by omega),k0x (by omega)];simp
theorem q0q(xs:List Nat)(i x:Nat)(h:i<xs.length):val ((xs.set i x).take (i+1))=val (xs.take i)+4294967296^i*x:=by rw[q5a xs i x h,q2b,k0l,k0K (by omega)]
theorem q3L(hU:k<U.length)(h:val (U.take k)+4294967296^k*q=val (xs.take k)+val (ys.take k)):val ((U.set k ((nth xs k+q+nth ys k)%4294967296)).take (k+1))+4294967296^(k+1)*((nth xs k+q+nth ys k)/4294967296)=val (xs.take (k+1))+val (ys.take (k+1)):=by rw[q0q U k _ hU,q0b,q0b,k0f,k0k,k1F,<- k0u,k2q,k0u,k0u];omega
def q15(a b:Nat):Int:=if a<b then -1 else if b<a then 1 else 0
theorem q2D(h:a<b):q15 a b = -1:=if_pos h
theorem q4o(h:b<a):q15 a b=1:=by unfold q15;rw[if_neg (by omega),if_pos h]
theorem q6G(h:a=b):q15 a b=0:=by unfold q15;rw[if_neg (by omega),if_neg (by omega)]
theorem q3w:q15 a b<0↔a<b:=by unfold q15;split<;>(try split)<;>omega
theorem q1W:0<=q15 a b↔b<=a:=by unfold q15;split<;>(try split)<;>omega
theorem q3x:0<q15 a b↔b<a:=by unfold q15;split<;>(try split)<;>omega
theorem q6H(a b:Nat):-1<=q15 a b/\q15 a b<=1:=by unfold q15;split<;>(try split)<;>omega
theorem q0N(xs:List Nat)(i:Nat):val (xs.drop i)=nth xs i+4294967296*val (xs.drop (i+1)):=by
 by_cases h:i<xs.length
 ·exact q6R xs i h
 ·rw[q18 xs i (by omega),k11 (by omega),k11 (by omega)];rfl
theorem q5U(hx:Lim xs)(hj:j<xs.length)(hj':j<ys.length)(e:val (xs.drop (j+1))=val (ys.drop (j+1)))(h:nth xs j<nth ys j):val xs<val ys:=by
 rw[q0P xs j (by omega),q0P ys j (by omega),q0N xs,q0N ys,e];have a:=q17 (q0M hx j);rw[k0l,k0K (by omega)] at a;have b:4294967296^j*(nth xs j+1+4294967296*val (ys.drop (j+1)))<=4294967296^j*(nth ys j+4294967296*val (ys.drop (j+1))):=k0t _ (by omega);have c:nth xs j+1+4294967296*val (ys.drop (j+1))=(nth xs j+4294967296*val (ys.drop (j+1)))+1:=by omega
 rw[c,Nat.mul_succ] at b;omega
theorem q4a(h:words a<words b):a<b:=by
 rcases k0M a b with c|c
 ·exact c
 ·have:=q22 c;omega
theorem q3E(hU:k<U.length)(h:val (U.take k)+val (ys.take k)=val (xs.take k)+4294967296^k*y)(hd:d+nth ys k+y=nth xs k+4294967296*q):val ((U.set k d).take (k+1))+val (ys.take (k+1))=val (xs.take (k+1))+4294967296^(k+1)*q:=by
 rw[q0q U k _ hU,q0b,q0b,k0f,k0k];have e:4294967296^k*(d+nth ys k+y)=4294967296^k*(nth xs k+4294967296*q):=by rw[hd]
 rw[k0u,k0u,k0u] at e;omega
theorem qah(hU:U.length=n)(hx:xs.length<=n)(hy:ys.length<=n)(hl:Lim U)(hle:val ys<=val xs)(h:val (U.take n)+val (ys.take n)=val (xs.take n)+4294967296^n*y):val U=val xs-val ys:=by
 rw[k0x (by omega),k0x hy,k0x hx] at h;have b:=q17 hl;rw[hU] at b;rcases k04 y with a|a
 ·subst a;omega
 ·have:4294967296^n*1<=4294967296^n*y:=k0t _ a;omega
theorem q1M(hx:x<4294967296)(hy:y<4294967296):x*y<=18446744065119617025:=k2m (show x<=4294967295 by omega) (show y<=4294967295 by omega)
theorem q0z(xs:List Nat){i:Nat}(x:Nat)(h:j≠i):nth (xs.set i x) j=nth xs j:=by unfold nth;rw[k08,k08,List.getElem?_set,if_neg (fun e=>h e.symm)]
theorem q76(hV:k+j<V.length)(hs:nth V (k+j)=nth U (k+j))
  (h:val (V.take (k+j))+4294967296^(k+j)*c=val (U.take (k+j))+4294967296^k*(x*val (ys.take j))) :
  val ((V.set (k+j) ((x*nth ys j+nth V (k+j)+c)%4294967296)).take (k+(j+1)))+4294967296^(k+(j+1))*((x*nth ys j+nth V (k+j)+c)/4294967296)
   = val (U.take (k+(j+1)))+4294967296^k*(x*val (ys.take (j+1))):=by
 rw[show k+(j+1)=(k+j)+1 from rfl,q0q V _ _ hV,q0b,q0b,hs,k0f,k0k,k1F,<- k0u,k2q];have e:4294967296^k*(x*(val (ys.take j)+4294967296^j*nth ys j))=4294967296^k*(x*val (ys.take j))+4294967296^(k+j)*(x*nth ys j):=by rw[k0u,k0u,k0q,k0k,k0Q x]
 rw[e,k0u,k0u];omega
theorem q8Z{m:Nat}(hm:ys.length=m)(hV:k+m<V.length)
  (hU:val (U.take (k+m))=val (xs.take k)*val ys) (h:val (V.take (k+m))+4294967296^(k+m)*c=val (U.take (k+m))+4294967296^k*(nth xs k*val (ys.take m))) :
  val ((V.set (k+m) c).take (k+1+m))=val (xs.take (k+1))*val ys:=by
 have e:ys.take m=ys:=k0x (by omega);rw[show k+1+m=(k+m)+1 by omega,q0q V _ _ hV,h,hU,e,q0b,k0U,k0k]
theorem q0p(h:xs.length<=n):xs.take n=xs:=k0x h
theorem q4g(hl:xs.length=ys.length)(h:∀i,i<xs.length->nth xs i=nth ys i):xs=ys:=by
 apply List.ext_getElem hl;intro i a b;have:=h i a;unfold nth at this;rw[k08,k08,k0n a,k0n b] at this
 simpa using this
theorem qbX(hl:V.length=U.length)(h:∀p,q<=p->nth V p=nth U p):val V+val (U.take q)=val U+val (V.take q):=by
 by_cases hq:q<=U.length
 ·have e:V.drop q=U.drop q:=q4g (by rw[k0o,k0o,hl]) fun i _=>by rw[q0J,q0J];exact h _ (by omega)
  have a:=q0P V q (by omega);have b:=q0P U q hq;rw[e] at a;omega
 ·rw[q0p (xs:=U) (by omega),q0p (xs:=V) (by omega)];omega
theorem qby(h:4294967296^a<4294967296^n):a<n:=(k1U (by omega)).1 h
theorem q1K(xs:List Nat)(q:Nat):val (xs.take q)<=val xs:=by
 by_cases hq:q<=xs.length
 ·rw[q0P xs q hq];omega
 ·rw[q0p (by omega)];omega
theorem q8d{at_:Nat}(hf:val U+4294967296^at_*N<4294967296^n)(h:val (V.take (at_+k))+4294967296^(at_+k)*y=val (U.take (at_+k))+4294967296^at_*val ((toL N).take k))
  (hc:k<(toL N).length\/0<y):at_+k<n:=by
 apply qby;by_cases hk:k<(toL N).length
 ·have a:0<N:=by
   rcases k04 N with a|a
   ·subst a;rw[q35] at hk;simp at hk
   ·exact a
  have b:=q2g a;have c:4294967296^k<=4294967296^(words N-1):=k05 (by omega) (by unfold words;omega);have e:4294967296^at_*4294967296^k<=4294967296^at_*N:=k0t _ (by omega);rw[k0q];omega
 ·have d:0<y:=hc.resolve_left hk;rw[q0p (xs:=toL N) (by omega),q06] at h;have b:=q1K U (at_+k);have c:4294967296^(at_+k)*1<=4294967296^(at_+k)*y:=k0t _ d;omega
theorem q52(hV:a+k<V.length)(hs:nth V (a+k)=nth U (a+k))
  (h:val (V.take (a+k))+4294967296^(a+k)*y=val (U.take (a+k))+4294967296^a*val (ys.take k)) (hd:d+4294967296*q=nth V (a+k)+y+nth ys k) :
  val ((V.set (a+k) d).take (a+(k+1)))+4294967296^(a+(k+1))*q=val (U.take (a+(k+1)))+4294967296^a*val (ys.take (k+1)):=by
 rw[show a+(k+1)=(a+k)+1 from rfl,q0q V _ _ hV,q0b,q0b,k0f,k0k,k1F,<- k0u,hd,hs,k0u,k0u,k0u,<- k0k,<- k0q];omega
theorem q8e(hl:V.length=U.length)(hs:∀p,a+k<=p->nth V p=nth U p)(hk:(toL N).length<=k)
  (h:val (V.take (a+k))+4294967296^(a+k)*0=val (U.take (a+k))+4294967296^a*val ((toL N).take k)):val V=val U+4294967296^a*N:=by
 have b:=qbX hl hs;rw[q0p (xs:=toL N) hk,q06] at h;omega
theorem q3o(xs:List Nat)(p m:Nat):val (xs.take (p+m))=val (xs.take p)+4294967296^p*val ((xs.drop p).take m):=by
 by_cases h:p<=xs.length
 ·rw[List.take_add,q1x,k0l,k0K h]
 ·rw[q0p (by omega),q0p (by omega),k11 (by omega)];simp [val]
theorem qeE(a b c d p:Nat):a*c+p*((a+b)*(c+d)-a*c-b*d)+p*p*(b*d)=(a+p*b)*(c+p*d):=by
 have e:(a+b)*(c+d)=a*c+b*d+(a*d+b*c):=by rw[k0U,k0u,k0u];omega
 rw[e,show a*c+b*d+(a*d+b*c)-a*c-b*d=a*d+b*c by omega,k0U,k0u,k0u,k0u];have f:a*(p*d)=p*(a*d):=k0Q a p d;have g:p*b*c=p*(b*c):=k0k p b c;have h:p*b*(p*d)=p*p*(b*d):=by rw[k0k,k0Q b p d,<- k0k]
 omega
theorem q7c(a b c d:Nat):a*c<=(a+b)*(c+d):=k2m (by omega) (by omega)
theorem q7b(a b c d:Nat):b*d<=(a+b)*(c+d)-a*c:=by
 have e:(a+b)*(c+d)=a*c+b*d+(a*d+b*c):=by rw[k0U,k0u,k0u];omega
 omega
theorem q5h(hx:Lim xs)(hy:Lim ys):val xs*val ys<4294967296^(xs.length+ys.length):=by have a:=q17 hx;have b:=q17 hy;rw[k0q];exact Nat.mul_lt_mul'' a b
end
end Go.Proofs.YthopehoklmgphaaGreatDoor
