/- Lemmas. -/
set_option linter.all false
def k00:=@decide_eq_false
def k01:=@beq_eq_false_iff_ne
def k02:=@decide_eq_true
def k03:=@Nat.lt_of_lt_of_le
def k04:=@List.getElem?_cons_zero
def k05:=@Nat.eq_zero_or_pos
def k06:=@Nat.pow_le_pow_right
def k07:=@Nat.le_trans
def k08:=@List.getElem?_cons_succ
def k09:=@List.getD_eq_getElem?_getD
def k0a:=@Array.getElem?_eq_some_iff
def k0b:=@Int.natCast_mul
def k0c:=@Int.natAbs_natCast
def k0d:=@List.length_set
def k0e:=@Nat.pow_succ
def k0f:=@Nat.zero_le
def k0g:=@congrArg
def k0h:=@Nat.mul_comm
def k0i:=@List.mem_singleton
def k0j:=@Int.natCast_nonneg
def k0k:=@Nat.mul_assoc
def k0l:=@List.length_take
def k0m:=@Nat.two_pow_pos
def k0n:=@List.length_append
def k0o:=@List.length_drop
def k0p:=@List.getElem?_eq_getElem
def k0q:=@Nat.pow_add
def k0r:=@List.eq_nil_of_length_eq_zero
def k0s:=@Nat.mul_le_mul_right
def k0t:=@Nat.mul_le_mul_left
def k0u:=@Nat.mul_add
def k0v:=@Int.natCast_pow
def k0w:=@Nat.mul_pos
def k0x:=@List.take_of_length_le
def k0y:=@Nat.div_le_self
def k0z:=@Nat.mod_lt
def k0A:=@decide_eq_false_iff_not
def k0B:=@Bool.and_eq_true
def k0C:=@Nat.mul_lt_mul_of_pos_right
def k0D:=@Nat.div_div_eq_div_mul
def k0E:=@List.take_succ_eq_append_getElem
def k0F:=@Nat.mod_eq_of_lt
def k0G:=@Nat.mul_one
def k0H:=@Int.sign_eq_one_of_pos
def k0I:=@decide_eq_true_eq
def k0J:=@Nat.div_lt_of_lt_mul
def k0K:=@Nat.lt_or_ge
def k0L:=@Nat.min_eq_left
def k0M:=@Nat.one_mul
def k0N:=@List.drop_zero
def k0O:=@Nat.div_add_mod
def k0P:=@Nat.mul_left_comm
def k0Q:=@Nat.pow_zero
def k0R:=@Nat.lt_of_le_of_lt
def k0S:=@Nat.gcd_dvd_right
def k0T:=@List.not_mem_nil
def k0U:=@List.length_cons
def k0V:=@List.length_replicate
def k0W:=@Nat.add_zero
def k0X:=@Int.natCast_add
def k0Y:=@Nat.pos_of_ne_zero
def k0Z:=@List.drop_of_length_le
def k10:=@Int.mul_nonneg
def k11:=@Nat.add_mul
def k12:=@Int.toNat_of_nonneg
def k13:=@List.drop_succ_cons
def k14:=@Nat.le_of_lt
def k15:=@List.length_nil
def k16:=@Nat.mul_div_cancel_left
def k17:=@Nat.zero_add
def k18:=@List.getElem?_take
def k19:=@Nat.two_pow_add_eq_or_of_lt
def k1a:=@Int.neg_mul
def k1b:=@Nat.pow_mul
def k1c:=@Nat.add_sub_cancel
def k1d:=@Int.natAbs_mul
def k1e:=@Nat.div_eq_of_lt
def k1f:=@Int.lt_trichotomy
def k1g:=@Int.mul_le_mul_of_nonneg_right
def k1h:=@Array.eq_empty_of_size_eq_zero
def k1i:=@Int.lt_or_le
def k1j:=@Nat.gcd_comm
def k1k:=@List.getElem?_eq_none
def k1l:=@List.length_map
def k1m:=@List.take_length
def k1n:=@Int.natCast_ediv
def k1o:=@Nat.lt_of_mul_lt_mul_left
def k1p:=@decide_eq_true_iff
def k1q:=@UInt8.toNat_lt
def k1r:=@Nat.le_succ
def k1s:=@Bool.false_eq_true
def k1t:=@Nat.add_comm
def k1u:=@List.getElem?_drop
def k1v:=@Nat.mul_zero
def k1w:=@Nat.le_mul_of_pos_left
def k1x:=@ByteArray.data_extract
def k1y:=@Bool.or_eq_true
def k1z:=@List.drop_eq_getElem_cons
def k1A:=@Nat.add_mul_mod_self_left
def k1B:=@List.getElem_mem
def k1C:=@List.all_eq_true
def k1D:=@Int.mul_le_mul_of_nonneg_left
def k1E:=@Nat.add_assoc
def k1F:=@List.mem_cons
def k1G:=@Nat.gcd_dvd_left
def k1H:=@Nat.div_one
def k1I:=@Nat.pow_pos
def k1J:=@List.getElem?_toArray
def k1K:=@List.size_toArray
def k1L:=@Nat.zero_mul
def k1M:=@List.length_singleton
def k1N:=@bne_iff_ne
def k1O:=@Option.some.inj
def k1P:=@List.mem_append
def k1Q:=@List.nil_append
def k1R:=@Array.toList_extract
def k1S:=@Nat.mod_two_eq_zero_or_one
def k1T:=@Int.sign_eq_neg_one_of_neg
def k1U:=@Array.getElem?_eq_none
def k1V:=@of_decide_eq_true
def k1W:=@Nat.le_div_iff_mul_le
def k1X:=@Nat.pow_lt_pow_iff_right
def k1Y:=@List.cons_append
def k1Z:=@Int.dvd_mul_left
def k20:=@Nat.add_mul_div_left
def k21:=@Int.ofNat_eq_natCast
def k22:=@Nat.Coprime.coprime_dvd_left
def k23:=@Int.toNat_natCast
def k24:=@List.length_reverse
def k26:=@List.append_nil
def k28:=@Nat.coprime_div_gcd_div_gcd
def k29:=@Nat.pow_one
def k2a:=@List.dropWhile_sublist
def k2b:=@Int.tmod_eq_emod_of_nonneg
def k2c:=@Int.natCast_emod
def k2d:=@Nat.lt_of_not_le
def k2e:=@Bool.and_eq_false_iff
def k2f:=@Int.ofNat_le
def k2g:=@List.take_append_drop
def k2h:=@Nat.gcd_zero_right
def k2i:=@Nat.le_of_dvd
def k2j:=@Array.getElem?_modify
def k2k:=@Nat.div_pos
def k2l:=@List.getElem?_eq_some_iff
def k2m:=@Nat.mul_le_mul
def k2n:=@List.extract_eq_take_drop
def k2o:=@beq_iff_eq
def k2p:=@Nat.mod_add_div
def k2q:=@Nat.lt_trichotomy
def k2r:=@List.foldl_append
def k2s:=@Nat.gcd_one_right
def k2t:=@Int.natCast_dvd_natCast
def k2u:=@Array.length_toList
def k2v:=@List.length_eq_zero_iff
def k2w:=@Nat.pow_le_pow_left
def k2x:=@Int.dvd_trans
def k2y:=@List.set_cons_zero
def k2z:=@Nat.eq_or_lt_of_le
def k2A:=@Nat.div_dvd_of_dvd
def k2B:=@Nat.Coprime.mul_right
def k2C:=@List.getElem?_append_right
def k2D:=@Array.replicate_zero
def k2E:=@Array.replicate_succ
def k2F:=@List.mem_of_getElem?
def k2G:=@List.take_zero
def k2H:=@Nat.le_of_mul_le_mul_left
def k2I:=@Int.mul_neg_of_neg_of_pos
def k2J:=@List.append_toArray
def k2K:=@List.getElem_of_mem
def k2L:=@Nat.lt_trans
def k2M:=@Nat.sub_self
def k2N:=@Bool.eq_false_or_eq_true
def k2O:=@Int.mul_comm
namespace Go.Proofs.YtokgagenofjmgaaGreatDoor
variable{n x k a b q j y d c N:Nat}{xs ys U V:List Nat}
section
def val:List Nat->Nat
 | []=>0
 | x::xs=>x+4294967296*val xs
def Lim(xs:List Nat):Prop:=∀x∈xs,x<4294967296
def qal:Nat->Nat->List Nat
 | 0,_=>[]
 | f+1,n=>if n=0 then[] else(n%4294967296)::qal f (n/4294967296)
def toL(n:Nat):List Nat:=qal n n
theorem q8A:∀(f g n:Nat),n<=f->n<=g->qal f n=qal g n
 | 0,0,_,_,_=>rfl
 | 0,g+1,n,h,_=>by
  have:n=0:=by omega
  subst this;simp [qal]
 | f+1,0,n,_,h=>by
  have:n=0:=by omega
  subst this;simp [qal]
 | f+1,g+1,n,hf,hg=>by
  by_cases h:n=0
  ·subst h;simp [qal]
  ·simp only[qal,if_neg h];rw[q8A f g _ (by omega) (by omega)]
theorem q3i:toL 0=[]:=rfl
theorem q47(h:0<n):toL n=(n%4294967296)::toL (n/4294967296):=by unfold toL;obtain⟨m,rfl⟩:∃m,n=m+1:=⟨n-1,by omega⟩;simp only[qal];rw[if_neg (by omega)];rw[q8A m ((m+1)/4294967296) _ (by omega) (by omega)]
theorem q0Q:Lim []:=fun _ h=>by cases h
theorem q0A:Lim (x::xs)↔x<4294967296/\Lim xs:=by simp [Lim]
theorem q1F:Lim (xs++ys)↔Lim xs/\Lim ys:=by simp only[Lim,k1P];exact⟨fun h=>⟨fun x hx=>h x (.inl hx),fun x hx=>h x (.inr hx)⟩,fun h x hx=>hx.elim (h.1 x) (h.2 x)⟩
theorem q0L(h:Lim xs)(n:Nat):Lim (xs.take n):=fun x hx=>h x (List.mem_of_mem_take hx)
theorem q1d(h:Lim xs)(n:Nat):Lim (xs.drop n):=fun x hx=>h x (List.mem_of_mem_drop hx)
theorem q2z(n:Nat):Lim (List.replicate n 0):=fun x hx=>by rw[(List.mem_replicate.1 hx).2];omega
theorem qa3(h:Lim xs)(i:Nat)(hx:x<4294967296):Lim (xs.set i x):=fun y hy=>by
 rcases List.mem_or_eq_of_mem_set hy with h'|rfl
 ·exact h _ h'
 ·exact hx
theorem q2A(h:Lim xs)(i:Nat):xs.getD i 0<4294967296:=by
 rw[k09];by_cases hi:i<xs.length
 ·rw[k0p hi];exact h _ (k1B hi)
 ·rw[k1k (by omega)];simp
theorem q2y(n:Nat):Lim (toL n):=by
 induction n using Nat.strongRecOn with
 | ind n ih =>
  by_cases h:n=0
  ·subst h;exact q0Q
  ·rw[q47 (by omega),q0A];exact⟨k0z _ (by omega),ih _ (by omega)⟩
theorem q6n:val []=0:=rfl
theorem q3U(x:Nat)(xs:List Nat):val (x::xs)=x+4294967296*val xs:=rfl
theorem q1C(xs ys:List Nat):val (xs++ys)=val xs+4294967296^xs.length*val ys:=by
 induction xs with
 | nil=>simp [val]
 | cons x xs ih =>simp only[k1Y,val,ih,k0U,k0e,k0u];rw[<- k0k,k0h 4294967296 (4294967296^xs.length)];omega
theorem q1Q(x:Nat):val [x]=x:=by simp [val]
theorem q2n(xs:List Nat)(x:Nat):val (xs++[x])=val xs+4294967296^xs.length*x:=by rw[q1C,q1Q]
theorem q0m(n:Nat):val (List.replicate n 0)=0:=by
 induction n with
 | zero=>rfl
 | succ n ih=>simp [List.replicate_succ,val,ih]
theorem q16(h:Lim xs):val xs<4294967296^xs.length:=by
 induction xs with
 | nil=>simp [val]
 | cons x xs ih =>obtain⟨b,a⟩:=q0A.1 h;have:=ih a;simp only[val,k0U,k0e];omega
theorem q06(n:Nat):val (toL n)=n:=by
 induction n using Nat.strongRecOn with
 | ind n ih =>
  by_cases h:n=0
  ·subst h;rfl
  ·rw[q47 (by omega),val,ih _ (by omega)];omega
theorem q5P(hx:x<4294967296)(h:0<x+4294967296*val xs):toL (val (x::xs))=x::toL (val xs):=by
 rw[val,q47 h];congr 1
 ·omega
 ·congr 1;omega
def Top(xs:List Nat):Prop:=∀h:xs≠[],xs.getLast h≠0
theorem q4J(ht:Top xs)(hne:xs≠[]):0<val xs:=by
 induction xs with
 | nil=>exact absurd rfl hne
 | cons x xs ih =>
  by_cases h:xs=[]
  ·subst h;have:=ht (by simp);simp [val] at this ⊢;omega
  ·have a:Top xs:=fun h'=>by
    have:=ht (by simp)
    rwa [List.getLast_cons h'] at this
   have:=ih a h;simp only[val];omega
theorem qc2(hl:Lim xs)(ht:Top xs):toL (val xs)=xs:=by
 induction xs with
 | nil=>rfl
 | cons x xs ih =>
  obtain⟨a,b⟩:=q0A.1 hl;have c:=q4J ht (by simp);rw[q5P a c];congr 1;by_cases h:xs=[]
  ·subst h;rfl
  ·exact ih b fun h'=>by
    have:=ht (by simp)
    rwa [List.getLast_cons h'] at this
theorem q7I:toL n=[]↔n=0:=⟨fun h=>by rw[<- q06 n,h];rfl,fun h=>by subst h;rfl⟩
theorem q1p(hl:Lim xs)(h0:∀i,n<=i->xs.getD i 0=0)(hn:n=0\/(n<=xs.length/\xs.getD (n-1) 0≠0)):xs.take n=toL (val xs):=by
 have e:val xs=val (xs.take n):=by
  conv=>lhs;rw[<- k2g n xs,q1C]
  have f:val (xs.drop n)=0:=by
   have:∀a:List Nat,(∀i,a.getD i 0=0)->val a=0:=by
    intro a
    induction a with
    | nil=>intro _;rfl
    | cons y a ih =>intro h;have c:=h 0;simp at c;rw[val,c,ih (fun i=>by simpa using h (i+1))]
   refine this _ fun i=>?_
   have:=h0 (n+i) (by omega)
   simpa [k1u] using this
  rw[f];simp
 rw[e,qc2 (q0L hl n)];intro b;rcases hn with rfl|⟨hn,hx⟩
 ·simp at b
 ·rw[List.getLast_eq_getElem];have d:(xs.take n).length=n:=by simp;omega
  have g:0<n:=by
   rcases k05 n with h|h
   ·subst h;simp at b
   ·exact h
  simp only[d,List.getElem_take];rw[k09,k0p (by omega)] at hx
  simpa using hx
theorem q5d(xs:List Nat)(i:Nat)(h:i<xs.length):val (xs.take (i+1))=val (xs.take i)+4294967296^i*xs.getD i 0:=by rw[k0E h,q2n,k0l,k0L (by omega),k09,k0p h];rfl
theorem q6W(xs:List Nat)(i:Nat)(h:i<xs.length):val (xs.drop i)=xs.getD i 0+4294967296*val (xs.drop (i+1)):=by rw[k1z h,val,k09,k0p h];rfl
theorem q0P(xs:List Nat)(i:Nat)(h:i<=xs.length):val xs=val (xs.take i)+4294967296^i*val (xs.drop i):=by
 conv=>lhs;rw[<- k2g i xs,q1C]
 rw[k0l,k0L h]
theorem q1B(hl:Lim xs)(i:Nat):val xs/4294967296^i=val (xs.drop i):=by
 by_cases h:i<=xs.length
 ·have b:0<4294967296^i:=k1I (by omega);have a:=q16 (q0L hl i);rw[k0l,k0L h] at a;rw[q0P xs i h,k20 _ _ b,k1e a,k17]
 ·rw[k0Z (by omega)];have a:=q16 hl;have:4294967296^xs.length<=4294967296^i:=k06 (by omega) (by omega);exact k1e (by omega)
theorem q45(hl:Lim xs)(i:Nat):val xs%4294967296^i=val (xs.take i):=by
 by_cases h:i<=xs.length
 ·have a:=q16 (q0L hl i);rw[k0l,k0L h] at a;rw[q0P xs i h,k1A,k0F a]
 ·rw[k0x (by omega)];have a:=q16 hl;have:4294967296^xs.length<=4294967296^i:=k06 (by omega) (by omega);exact k0F (by omega)
theorem qb0(hl:Lim xs)(i:Nat):xs.getD i 0=val xs/4294967296^i%4294967296:=by
 rw[q1B hl];by_cases h:i<xs.length
 ·rw[q6W xs i h];have:=q2A hl i;omega
 ·rw[k0Z (by omega),q6n,k09,k1k (by omega)];rfl
theorem q5i(xs:List Nat)(i x:Nat)(h:i<xs.length):(xs.set i x).take (i+1)=xs.take i++[x]:=by rw[k0E (by simpa using h),List.take_set_of_le (Nat.le_refl i)];simp
def words(n:Nat):Nat:=(toL n).length
theorem q0l(n:Nat):n<4294967296^words n:=by
 have:=q16 (q2y n)
 rwa [q06] at this
theorem q1s(h:n<4294967296^k):words n<=k:=by
 induction k generalizing n with
 | zero =>
  have:n=0:=by simp at h;omega
  subst this;simp [words,q3i]
 | succ k ih =>
  by_cases h0:n=0
  ·subst h0;simp [words,q3i]
  ·unfold words;rw[q47 (by omega),k0U];have:=ih (n:=n/4294967296) (by rw[k0e] at h;exact k0J (by rw[k0h];exact h));unfold words at this;omega
theorem q2q(h:0<n):4294967296^(words n-1)<=n:=by
 rcases k0K n (4294967296^(words n-1)) with a|a
 ·have:=q1s a;have b:0<words n:=by unfold words;rw[q47 h];simp
  omega
 ·exact a
theorem q1A:words 0=0:=rfl
theorem q0c:words n=0↔n=0:=by unfold words;rw[k2v,q7I]
theorem q2e(h:a<=b):words a<=words b:=q1s (k0R h (q0l b))
def nth(xs:List Nat)(i:Nat):Nat:=xs.getD i 0
theorem nth_lt(h:Lim xs)(i:Nat):nth xs i<4294967296:=q2A h i
theorem q4h(h:Lim xs)(i:Nat):nth xs i=val xs/4294967296^i%4294967296:=qb0 h i
theorem q17(xs:List Nat)(i:Nat)(h:xs.length<=i):nth xs i=0:=by unfold nth;rw[k09,k1k h];rfl
theorem q1g(xs:List Nat)(i x j:Nat)(h:i<xs.length):nth (xs.set i x) j=if j=i then x else nth xs j:=by
 unfold nth;rw[k09,k09,List.getElem?_set];by_cases hj:i=j
 ·subst hj;simp [h]
 ·rw[if_neg hj,if_neg (fun e=>hj e.symm)]
theorem q5q(xs:List Nat)(n i:Nat)(h:i<n):nth (xs.take n) i=nth xs i:=by unfold nth;rw[k09,k09,k18,if_pos h]
theorem q0I(xs:List Nat)(n i:Nat):nth (xs.drop n) i=nth xs (n+i):=by unfold nth;rw[k09,k09,k1u]
theorem q1M(n i:Nat):nth (List.replicate n 0) i=0:=by unfold nth;rw[k09,List.getElem?_replicate];split<;>rfl
theorem q1v(n i:Nat):nth (toL n) i=n/4294967296^i%4294967296:=by rw[q4h (q2y n),q06]
theorem q0a(xs:List Nat)(i:Nat):val (xs.take (i+1))=val (xs.take i)+4294967296^i*nth xs i:=by
 by_cases h:i<xs.length
 ·exact q5d xs i h
 ·rw[q17 xs i (by omega),k0x (by omega),k0x (by omega)];simp
theorem q0q(xs:List Nat)(i x:Nat)(h:i<xs.length):val ((xs.set i x).take (i+1))=val (xs.take i)+4294967296^i*x:=by rw[q5i xs i x h,q2n,k0l,k0L (by omega)]
theorem q42(hU:k<U.length)(h:val (U.take k)+4294967296^k*q=val (xs.take k)+val (ys.take k)):val ((U.set k ((nth xs k+q+nth ys k)%4294967296)).take (k+1))+4294967296^(k+1)*((nth xs k+q+nth ys k)/4294967296)=val (xs.take (k+1))+val (ys.take (k+1)):=by rw[q0q U k _ hU,q0a,q0a,k0e,k0k,k1E,<- k0u,k2p,k0u,k0u];omega
def q15(a b:Nat):Int:=if a<b then -1 else if b<a then 1 else 0
theorem q2O(h:a<b):q15 a b = -1:=if_pos h
theorem q4y(h:b<a):q15 a b=1:=by unfold q15;rw[if_neg (by omega),if_pos h]
theorem q6L(h:a=b):q15 a b=0:=by unfold q15;rw[if_neg (by omega),if_neg (by omega)]
theorem q3K:q15 a b<0↔a<b:=by unfold q15;split<;>(try split)<;>omega
theorem q26:0<=q15 a b↔b<=a:=by unfold q15;split<;>(try split)<;>omega
theorem q3L:0<q15 a b↔b<a:=by unfold q15;split<;>(try split)<;>omega
theorem q6M(a b:Nat):-1<=q15 a b/\q15 a b<=1:=by unfold q15;split<;>(try split)<;>omega
theorem q0M(xs:List Nat)(i:Nat):val (xs.drop i)=nth xs i+4294967296*val (xs.drop (i+1)):=by
 by_cases h:i<xs.length
 ·exact q6W xs i h
 ·rw[q17 xs i (by omega),k0Z (by omega),k0Z (by omega)];rfl
theorem q62(hx:Lim xs)(hj:j<xs.length)(hj':j<ys.length)(e:val (xs.drop (j+1))=val (ys.drop (j+1)))(h:nth xs j<nth ys j):val xs<val ys:=by
 rw[q0P xs j (by omega),q0P ys j (by omega),q0M xs,q0M ys,e];have a:=q16 (q0L hx j);rw[k0l,k0L (by omega)] at a;have b:4294967296^j*(nth xs j+1+4294967296*val (ys.drop (j+1)))<=4294967296^j*(nth ys j+4294967296*val (ys.drop (j+1))):=k0t _ (by omega);have c:nth xs j+1+4294967296*val (ys.drop (j+1))=(nth xs j+4294967296*val (ys.drop (j+1)))+1:=by omega
 rw[c,Nat.mul_succ] at b;omega
theorem q4l(h:words a<words b):a<b:=by
 rcases k0K a b with c|c
 ·exact c
 ·have:=q2e c;omega
theorem q3V(hU:k<U.length)(h:val (U.take k)+val (ys.take k)=val (xs.take k)+4294967296^k*y)(hd:d+nth ys k+y=nth xs k+4294967296*q):val ((U.set k d).take (k+1))+val (ys.take (k+1))=val (xs.take (k+1))+4294967296^(k+1)*q:=by
 rw[q0q U k _ hU,q0a,q0a,k0e,k0k];have e:4294967296^k*(d+nth ys k+y)=4294967296^k*(nth xs k+4294967296*q):=by rw[hd]
 rw[k0u,k0u,k0u] at e;omega
theorem qap(hU:U.length=n)(hx:xs.length<=n)(hy:ys.length<=n)(hl:Lim U)(hle:val ys<=val xs)(h:val (U.take n)+val (ys.take n)=val (xs.take n)+4294967296^n*y):val U=val xs-val ys:=by
 rw[k0x (by omega),k0x hy,k0x hx] at h;have b:=q16 hl;rw[hU] at b;rcases k05 y with a|a
 ·subst a;omega
 ·have:4294967296^n*1<=4294967296^n*y:=k0t _ a;omega
theorem q1U(hx:x<4294967296)(hy:y<4294967296):x*y<=18446744065119617025:=k2m (show x<=4294967295 by omega) (show y<=4294967295 by omega)
theorem q0y(xs:List Nat){i:Nat}(x:Nat)(h:j≠i):nth (xs.set i x) j=nth xs j:=by unfold nth;rw[k09,k09,List.getElem?_set,if_neg (fun e=>h e.symm)]
theorem q7e(hV:k+j<V.length)(hs:nth V (k+j)=nth U (k+j))
  (h:val (V.take (k+j))+4294967296^(k+j)*c=val (U.take (k+j))+4294967296^k*(x*val (ys.take j))) :
  val ((V.set (k+j) ((x*nth ys j+nth V (k+j)+c)%4294967296)).take (k+(j+1)))+4294967296^(k+(j+1))*((x*nth ys j+nth V (k+j)+c)/4294967296)
   = val (U.take (k+(j+1)))+4294967296^k*(x*val (ys.take (j+1))):=by
 rw[show k+(j+1)=(k+j)+1 from rfl,q0q V _ _ hV,q0a,q0a,hs,k0e,k0k,k1E,<- k0u,k2p];have e:4294967296^k*(x*(val (ys.take j)+4294967296^j*nth ys j))=4294967296^k*(x*val (ys.take j))+4294967296^(k+j)*(x*nth ys j):=by rw[k0u,k0u,k0q,k0k,k0P x]
 rw[e,k0u,k0u];omega
theorem q95{m:Nat}(hm:ys.length=m)(hV:k+m<V.length)
  (hU:val (U.take (k+m))=val (xs.take k)*val ys) (h:val (V.take (k+m))+4294967296^(k+m)*c=val (U.take (k+m))+4294967296^k*(nth xs k*val (ys.take m))) :
  val ((V.set (k+m) c).take (k+1+m))=val (xs.take (k+1))*val ys:=by
 have e:ys.take m=ys:=k0x (by omega);rw[show k+1+m=(k+m)+1 by omega,q0q V _ _ hV,h,hU,e,q0a,k11,k0k]
theorem q0p(h:xs.length<=n):xs.take n=xs:=k0x h
theorem q4q(hl:xs.length=ys.length)(h:∀i,i<xs.length->nth xs i=nth ys i):xs=ys:=by
 apply List.ext_getElem hl;intro i a b;have:=h i a;unfold nth at this;rw[k09,k09,k0p a,k0p b] at this
 simpa using this
theorem qc5(hl:V.length=U.length)(h:∀p,q<=p->nth V p=nth U p):val V+val (U.take q)=val U+val (V.take q):=by
 by_cases hq:q<=U.length
 ·have e:V.drop q=U.drop q:=q4q (by rw[k0o,k0o,hl]) fun i _=>by rw[q0I,q0I];exact h _ (by omega)
  have a:=q0P V q (by omega);have b:=q0P U q hq;rw[e] at a;omega
 ·rw[q0p (xs:=U) (by omega),q0p (xs:=V) (by omega)];omega
theorem qbI(h:4294967296^a<4294967296^n):a<n:=(k1X (by omega)).1 h
theorem q1S(xs:List Nat)(q:Nat):val (xs.take q)<=val xs:=by
 by_cases hq:q<=xs.length
 ·rw[q0P xs q hq];omega
 ·rw[q0p (by omega)];omega
theorem q8g{at_:Nat}(hf:val U+4294967296^at_*N<4294967296^n)(h:val (V.take (at_+k))+4294967296^(at_+k)*y=val (U.take (at_+k))+4294967296^at_*val ((toL N).take k))
  (hc:k<(toL N).length\/0<y):at_+k<n:=by
 apply qbI;by_cases hk:k<(toL N).length
 ·have a:0<N:=by
   rcases k05 N with a|a
   ·subst a;rw[q3i] at hk;simp at hk
   ·exact a
  have b:=q2q a;have c:4294967296^k<=4294967296^(words N-1):=k06 (by omega) (by unfold words;omega);have e:4294967296^at_*4294967296^k<=4294967296^at_*N:=k0t _ (by omega);rw[k0q];omega
 ·have d:0<y:=hc.resolve_left hk;rw[q0p (xs:=toL N) (by omega),q06] at h;have b:=q1S U (at_+k);have c:4294967296^(at_+k)*1<=4294967296^(at_+k)*y:=k0t _ d;omega
theorem q5a(hV:a+k<V.length)(hs:nth V (a+k)=nth U (a+k))
  (h:val (V.take (a+k))+4294967296^(a+k)*y=val (U.take (a+k))+4294967296^a*val (ys.take k)) (hd:d+4294967296*q=nth V (a+k)+y+nth ys k) :
  val ((V.set (a+k) d).take (a+(k+1)))+4294967296^(a+(k+1))*q=val (U.take (a+(k+1)))+4294967296^a*val (ys.take (k+1)):=by
 rw[show a+(k+1)=(a+k)+1 from rfl,q0q V _ _ hV,q0a,q0a,k0e,k0k,k1E,<- k0u,hd,hs,k0u,k0u,k0u,<- k0k,<- k0q];omega
theorem q8h(hl:V.length=U.length)(hs:∀p,a+k<=p->nth V p=nth U p)(hk:(toL N).length<=k)
  (h:val (V.take (a+k))+4294967296^(a+k)*0=val (U.take (a+k))+4294967296^a*val ((toL N).take k)):val V=val U+4294967296^a*N:=by
 have b:=qc5 hl hs;rw[q0p (xs:=toL N) hk,q06] at h;omega
theorem q3D(xs:List Nat)(p m:Nat):val (xs.take (p+m))=val (xs.take p)+4294967296^p*val ((xs.drop p).take m):=by
 by_cases h:p<=xs.length
 ·rw[List.take_add,q1C,k0l,k0L h]
 ·rw[q0p (by omega),q0p (by omega),k0Z (by omega)];simp [val]
theorem qeU(a b c d p:Nat):a*c+p*((a+b)*(c+d)-a*c-b*d)+p*p*(b*d)=(a+p*b)*(c+p*d):=by
 have e:(a+b)*(c+d)=a*c+b*d+(a*d+b*c):=by rw[k11,k0u,k0u];omega
 rw[e,show a*c+b*d+(a*d+b*c)-a*c-b*d=a*d+b*c by omega,k11,k0u,k0u,k0u];have f:a*(p*d)=p*(a*d):=k0P a p d;have g:p*b*c=p*(b*c):=k0k p b c;have h:p*b*(p*d)=p*p*(b*d):=by rw[k0k,k0P b p d,<- k0k]
 omega
theorem q7k(a b c d:Nat):a*c<=(a+b)*(c+d):=k2m (by omega) (by omega)
theorem q7j(a b c d:Nat):b*d<=(a+b)*(c+d)-a*c:=by
 have e:(a+b)*(c+d)=a*c+b*d+(a*d+b*c):=by rw[k11,k0u,k0u];omega
 omega
theorem q5m(hx:Lim xs)(hy:Lim ys):val xs*val ys<4294967296^(xs.length+ys.length):=by have a:=q16 hx;have b:=q16 hy;rw[k0q];exact Nat.mul_lt_mul'' a b
end
end Go.Proofs.YtokgagenofjmgaaGreatDoor
