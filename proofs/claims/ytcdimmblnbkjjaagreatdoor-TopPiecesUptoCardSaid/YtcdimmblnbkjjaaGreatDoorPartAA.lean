/- Lemmas. -/
set_option linter.all false
namespace Go.Proofs.YtcdimmblnbkjjaaGreatDoor
def val:List Nat->Nat
 | []=>0
 | x::xs=>x+4294967296*val xs
def Lim(xs:List Nat):Prop:=∀x∈xs,x<4294967296
def q7R:Nat->Nat->List Nat
 | 0,_=>[]
 | f+1,n=>if n=0 then[] else(n%4294967296)::q7R f (n/4294967296)
def toL(n:Nat):List Nat:=q7R n n
theorem q6x:∀(f g n:Nat),n<=f->n<=g->q7R f n=q7R g n
 | 0,0,_,_,_=>rfl
 | 0,g+1,n,h,_=>by
  have:n=0:=by omega
  subst this;simp [q7R]
 | f+1,0,n,_,h=>by
  have:n=0:=by omega
  subst this;simp [q7R]
 | f+1,g+1,n,hf,hg=>by
  by_cases h:n=0
  ·subst h;simp [q7R]
  ·simp only[q7R,if_neg h];rw[q6x f g _ (by omega) (by omega)]
theorem q2Q:toL 0=[]:=rfl
theorem q32{n:Nat}(h:0<n):toL n=(n%4294967296)::toL (n/4294967296):=by
 unfold toL;obtain⟨m,rfl⟩:∃m,n=m+1:=⟨n-1,by omega⟩;simp only[q7R];rw[if_neg (by omega)];rw[q6x m ((m+1)/4294967296) _ (by omega) (by omega)]
theorem q11:Lim []:=fun _ h=>by cases h
theorem q0B{x:Nat}{xs:List Nat}:Lim (x::xs)↔x<4294967296/\Lim xs:=by
 simp [Lim]
theorem q1Z{xs ys:List Nat}:Lim (xs++ys)↔Lim xs/\Lim ys:=by
 simp only[Lim,List.mem_append];exact⟨fun h=>⟨fun x hx=>h x (.inl hx),fun x hx=>h x (.inr hx)⟩,fun h x hx=>hx.elim (h.1 x) (h.2 x)⟩
theorem q0t{xs:List Nat}(h:Lim xs)(n:Nat):Lim (xs.take n):=fun x hx=>h x (List.mem_of_mem_take hx)
theorem q0F{xs:List Nat}(h:Lim xs)(n:Nat):Lim (xs.drop n):=fun x hx=>h x (List.mem_of_mem_drop hx)
theorem q1C(n:Nat):Lim (List.replicate n 0):=fun x hx=>by
 rw[(List.mem_replicate.1 hx).2];omega
theorem q7G{xs:List Nat}(h:Lim xs)(i:Nat){x:Nat}(hx:x<4294967296):Lim (xs.set i x):=fun y hy=>by
 rcases List.mem_or_eq_of_mem_set hy with h'|rfl
 ·exact h _ h'
 ·exact hx
theorem q1D{xs:List Nat}(h:Lim xs)(i:Nat):xs.getD i 0<4294967296:=by
 rw[List.getD_eq_getElem?_getD];by_cases hi:i<xs.length
 ·rw[List.getElem?_eq_getElem hi];exact h _ (List.getElem_mem hi)
 ·rw[List.getElem?_eq_none (by omega)];simp
theorem q1B(n:Nat):Lim (toL n):=by
 induction n using Nat.strongRecOn with
 | ind n ih =>
  by_cases h:n=0
  ·subst h;exact q11
  ·rw[q32 (by omega),q0B];exact⟨Nat.mod_lt _ (by omega),ih _ (by omega)⟩
theorem q4M:val []=0:=rfl
theorem q2P(x:Nat)(xs:List Nat):val (x::xs)=x+4294967296*val xs:=rfl
theorem q10(xs ys:List Nat):val (xs++ys)=val xs+4294967296^xs.length*val ys:=by
 induction xs with
 | nil=>simp [val]
 | cons x xs ih =>
  simp only[List.cons_append,val,ih,List.length_cons,Nat.pow_succ,Nat.mul_add];rw[<- Nat.mul_assoc,Nat.mul_comm 4294967296 (4294967296^xs.length)];omega
theorem q3G(x:Nat):val [x]=x:=by simp [val]
theorem q2O(xs:List Nat)(x:Nat):val (xs++[x])=val xs+4294967296^xs.length*x:=by
 rw[q10,q3G]
theorem q0h(n:Nat):val (List.replicate n 0)=0:=by
 induction n with
 | zero=>rfl
 | succ n ih=>simp [List.replicate_succ,val,ih]
theorem q0G{xs:List Nat}(h:Lim xs):val xs<4294967296^xs.length:=by
 induction xs with
 | nil=>simp [val]
 | cons x xs ih =>
  obtain⟨h1,h2⟩:=q0B.1 h;have:=ih h2;simp only[val,List.length_cons,Nat.pow_succ];omega
theorem q03(n:Nat):val (toL n)=n:=by
 induction n using Nat.strongRecOn with
 | ind n ih =>
  by_cases h:n=0
  ·subst h;rfl
  ·rw[q32 (by omega),val,ih _ (by omega)];omega
theorem q4h{x:Nat}{xs:List Nat}(hx:x<4294967296)(h:0<x+4294967296*val xs):toL (val (x::xs))=x::toL (val xs):=by
 rw[val,q32 h];congr 1
 ·omega
 ·congr 1;omega
def Top(xs:List Nat):Prop:=∀h:xs≠[],xs.getLast h≠0
theorem q3v{xs:List Nat}(ht:Top xs)(hne:xs≠[]):0<val xs:=by
 induction xs with
 | nil=>exact absurd rfl hne
 | cons x xs ih =>
  by_cases h:xs=[]
  ·subst h;have:=ht (by simp);simp [val] at this ⊢;omega
  ·have a0:Top xs:=fun h'=>by
    have:=ht (by simp)
    rwa [List.getLast_cons h'] at this
   have:=ih a0 h;simp only[val];omega
theorem q9q{xs:List Nat}(hl:Lim xs)(ht:Top xs):toL (val xs)=xs:=by
 induction xs with
 | nil=>rfl
 | cons x xs ih =>
  obtain⟨h1,h2⟩:=q0B.1 hl;have hp:=q3v ht (by simp);rw[q4h h1 hp];congr 1
  by_cases h:xs=[]
  ·subst h;rfl
  ·exact ih h2 fun h'=>by
    have:=ht (by simp)
    rwa [List.getLast_cons h'] at this
theorem q5O{n:Nat}:toL n=[]↔n=0:=⟨fun h=>by rw[<- q03 n,h];rfl,fun h=>by subst h;rfl⟩
theorem q1J{xs:List Nat}(hl:Lim xs){n:Nat}(h0:∀i,n<=i->xs.getD i 0=0)(hn:n=0\/(n<=xs.length/\xs.getD (n-1) 0≠0)):xs.take n=toL (val xs):=by
 have e:val xs=val (xs.take n):=by
  conv=>lhs;rw[<- List.take_append_drop n xs,q10]
  have hz:val (xs.drop n)=0:=by
   have:∀ys:List Nat,(∀i,ys.getD i 0=0)->val ys=0:=by
    intro ys
    induction ys with
    | nil=>intro _;rfl
    | cons y ys ih =>
     intro h;have hy:=h 0;simp at hy
     rw[val,hy,ih (fun i=>by simpa using h (i+1))]
   refine this _ fun i=>?_
   have:=h0 (n+i) (by omega)
   simpa [List.getElem?_drop] using this
  rw[hz];simp
 rw[e,q9q (q0t hl n)];intro a0;rcases hn with rfl|⟨hn,hx⟩
 ·simp at a0
 ·rw[List.getLast_eq_getElem];have a1:(xs.take n).length=n:=by simp;omega
  have h1:0<n:=by
   rcases Nat.eq_zero_or_pos n with h|h
   ·subst h;simp at a0
   ·exact h
  simp only[a1,List.getElem_take];rw[List.getD_eq_getElem?_getD,List.getElem?_eq_getElem (by omega)] at hx
  simpa using hx
theorem q3R(xs:List Nat)(i:Nat)(h:i<xs.length):val (xs.take (i+1))=val (xs.take i)+4294967296^i*xs.getD i 0:=by
 rw[List.take_succ_eq_append_getElem h,q2O,List.length_take,Nat.min_eq_left (by omega),List.getD_eq_getElem?_getD,List.getElem?_eq_getElem h]
 rfl
theorem q5k(xs:List Nat)(i:Nat)(h:i<xs.length):val (xs.drop i)=xs.getD i 0+4294967296*val (xs.drop (i+1)):=by
 rw[List.drop_eq_getElem_cons h,val,List.getD_eq_getElem?_getD,List.getElem?_eq_getElem h]
 rfl
theorem q0r(xs:List Nat)(i:Nat)(h:i<=xs.length):val xs=val (xs.take i)+4294967296^i*val (xs.drop i):=by
 conv=>lhs;rw[<- List.take_append_drop i xs,q10]
 rw[List.length_take,Nat.min_eq_left h]
theorem q0Z{xs:List Nat}(hl:Lim xs)(i:Nat):val xs/4294967296^i=val (xs.drop i):=by
 by_cases h:i<=xs.length
 ·have hp:0<4294967296^i:=Nat.pow_pos (by omega);have a0:=q0G (q0t hl i);rw[List.length_take,Nat.min_eq_left h] at a0;rw[q0r xs i h,Nat.add_mul_div_left _ _ hp,Nat.div_eq_of_lt a0,Nat.zero_add]
 ·rw[List.drop_of_length_le (by omega)];have a0:=q0G hl;have:4294967296^xs.length<=4294967296^i:=Nat.pow_le_pow_right (by omega) (by omega);exact Nat.div_eq_of_lt (by omega)
theorem q30{xs:List Nat}(hl:Lim xs)(i:Nat):val xs%4294967296^i=val (xs.take i):=by
 by_cases h:i<=xs.length
 ·have a0:=q0G (q0t hl i);rw[List.length_take,Nat.min_eq_left h] at a0;rw[q0r xs i h,Nat.add_mul_mod_self_left,Nat.mod_eq_of_lt a0]
 ·rw[List.take_of_length_le (by omega)];have a0:=q0G hl;have:4294967296^xs.length<=4294967296^i:=Nat.pow_le_pow_right (by omega) (by omega);exact Nat.mod_eq_of_lt (by omega)
theorem q8s{xs:List Nat}(hl:Lim xs)(i:Nat):xs.getD i 0=val xs/4294967296^i%4294967296:=by
 rw[q0Z hl];by_cases h:i<xs.length
 ·rw[q5k xs i h];have:=q1D hl i;omega
 ·rw[List.drop_of_length_le (by omega),q4M,List.getD_eq_getElem?_getD,List.getElem?_eq_none (by omega)]
  rfl
theorem q3T(xs:List Nat)(i x:Nat)(h:i<xs.length):(xs.set i x).take (i+1)=xs.take i++[x]:=by
 rw[List.take_succ_eq_append_getElem (by simpa using h),List.take_set_of_le (Nat.le_refl i)];simp
def words(n:Nat):Nat:=(toL n).length
theorem q0o(n:Nat):n<4294967296^words n:=by
 have:=q0G (q1B n)
 rwa [q03] at this
theorem q17{n k:Nat}(h:n<4294967296^k):words n<=k:=by
 induction k generalizing n with
 | zero =>
  have:n=0:=by simp at h;omega
  subst this;simp [words,q2Q]
 | succ k ih =>
  by_cases h0:n=0
  ·subst h0;simp [words,q2Q]
  ·unfold words;rw[q32 (by omega),List.length_cons];have:=ih (n:=n/4294967296) (by rw[Nat.pow_succ] at h;exact Nat.div_lt_of_lt_mul (by rw[Nat.mul_comm];exact h));unfold words at this;omega
theorem q3f{n:Nat}(h:0<n):4294967296^(words n-1)<=n:=by
 rcases Nat.lt_or_ge n (4294967296^(words n-1)) with h1|h1
 ·have:=q17 h1;have hw:0<words n:=by
   unfold words;rw[q32 h];simp
  omega
 ·exact h1
theorem q1r:words 0=0:=rfl
theorem q0c{n:Nat}:words n=0↔n=0:=by
 unfold words;rw[List.length_eq_zero_iff,q5O]
theorem q2u{a b:Nat}(h:a<=b):words a<=words b:=q17 (Nat.lt_of_le_of_lt h (q0o b))
def nth(xs:List Nat)(i:Nat):Nat:=xs.getD i 0
theorem nth_lt{xs:List Nat}(h:Lim xs)(i:Nat):nth xs i<4294967296:=q1D h i
theorem q3b{xs:List Nat}(h:Lim xs)(i:Nat):nth xs i=val xs/4294967296^i%4294967296:=q8s h i
theorem q1i(xs:List Nat)(i:Nat)(h:xs.length<=i):nth xs i=0:=by
 unfold nth;rw[List.getD_eq_getElem?_getD,List.getElem?_eq_none h];rfl
theorem q0M(xs:List Nat)(i x j:Nat)(h:i<xs.length):nth (xs.set i x) j=if j=i then x else nth xs j:=by
 unfold nth;rw[List.getD_eq_getElem?_getD,List.getD_eq_getElem?_getD,List.getElem?_set];by_cases hj:i=j
 ·subst hj;simp [h]
 ·rw[if_neg hj,if_neg (fun e=>hj e.symm)]
theorem q3X(xs:List Nat)(n i:Nat)(h:i<n):nth (xs.take n) i=nth xs i:=by
 unfold nth;rw[List.getD_eq_getElem?_getD,List.getD_eq_getElem?_getD,List.getElem?_take,if_pos h]
theorem q0s(xs:List Nat)(n i:Nat):nth (xs.drop n) i=nth xs (n+i):=by
 unfold nth;rw[List.getD_eq_getElem?_getD,List.getD_eq_getElem?_getD,List.getElem?_drop]
theorem q19(n i:Nat):nth (List.replicate n 0) i=0:=by
 unfold nth;rw[List.getD_eq_getElem?_getD,List.getElem?_replicate];split<;>rfl
theorem q0V(n i:Nat):nth (toL n) i=n/4294967296^i%4294967296:=by rw[q3b (q1B n),q03]
theorem q09(xs:List Nat)(i:Nat):val (xs.take (i+1))=val (xs.take i)+4294967296^i*nth xs i:=by
 by_cases h:i<xs.length
 ·exact q3R xs i h
 ·rw[q1i xs i (by omega),List.take_of_length_le (by omega),List.take_of_length_le (by omega)];simp
theorem q0g(xs:List Nat)(i x:Nat)(h:i<xs.length):val ((xs.set i x).take (i+1))=val (xs.take i)+4294967296^i*x:=by
 rw[q3T xs i x h,q2O,List.length_take,Nat.min_eq_left (by omega)]
theorem q2W{xs ys U:List Nat}{k q:Nat}(hU:k<U.length)(h:val (U.take k)+4294967296^k*q=val (xs.take k)+val (ys.take k)):
  val ((U.set k ((nth xs k+q+nth ys k)%4294967296)).take (k+1))+4294967296^(k+1)*((nth xs k+q+nth ys k)/4294967296)=val (xs.take (k+1))+val (ys.take (k+1)):=by
 rw[q0g U k _ hU,q09,q09,Nat.pow_succ,Nat.mul_assoc,Nat.add_assoc,<- Nat.mul_add,Nat.mod_add_div,Nat.mul_add,Nat.mul_add];omega
def q1G(a b:Nat):Int:=if a<b then -1 else if b<a then 1 else 0
theorem q2c{a b:Nat}(h:a<b):q1G a b = -1:=if_pos h
theorem q48{a b:Nat}(h:b<a):q1G a b=1:=by unfold q1G;rw[if_neg (by omega),if_pos h]
theorem q5b{a b:Nat}(h:a=b):q1G a b=0:=by unfold q1G;rw[if_neg (by omega),if_neg (by omega)]
theorem q1Q{a b:Nat}:0<=q1G a b↔b<=a:=by unfold q1G;split<;>(try split)<;>omega
theorem qa9(a b:Nat):-1<=q1G a b/\q1G a b<=1:=by unfold q1G;split<;>(try split)<;>omega
theorem q0p(xs:List Nat)(i:Nat):val (xs.drop i)=nth xs i+4294967296*val (xs.drop (i+1)):=by
 by_cases h:i<xs.length
 ·exact q5k xs i h
 ·rw[q1i xs i (by omega),List.drop_of_length_le (by omega),List.drop_of_length_le (by omega)];rfl
theorem q4t{xs ys:List Nat}(hx:Lim xs){j:Nat}(hj:j<xs.length)(hj':j<ys.length)(e:val (xs.drop (j+1))=val (ys.drop (j+1)))(h:nth xs j<nth ys j):val xs<val ys:=by
 rw[q0r xs j (by omega),q0r ys j (by omega),q0p xs,q0p ys,e];have h1:=q0G (q0t hx j);rw[List.length_take,Nat.min_eq_left (by omega)] at h1;have h2:4294967296^j*(nth xs j+1+4294967296*val (ys.drop (j+1)))<=4294967296^j*(nth ys j+4294967296*val (ys.drop (j+1))):=Nat.mul_le_mul_left _ (by omega);have e3:nth xs j+1+4294967296*val (ys.drop (j+1))=(nth xs j+4294967296*val (ys.drop (j+1)))+1:=by omega
 rw[e3,Nat.mul_succ] at h2;omega
theorem q3e{a b:Nat}(h:words a<words b):a<b:=by
 rcases Nat.lt_or_ge a b with h1|h1
 ·exact h1
 ·have:=q2u h1;omega
theorem q2R{xs ys U:List Nat}{k y d q:Nat}(hU:k<U.length)(h:val (U.take k)+val (ys.take k)=val (xs.take k)+4294967296^k*y)(hd:d+nth ys k+y=nth xs k+4294967296*q):
  val ((U.set k d).take (k+1))+val (ys.take (k+1))=val (xs.take (k+1))+4294967296^(k+1)*q:=by
 rw[q0g U k _ hU,q09,q09,Nat.pow_succ,Nat.mul_assoc];have e:4294967296^k*(d+nth ys k+y)=4294967296^k*(nth xs k+4294967296*q):=by rw[hd]
 rw[Nat.mul_add,Nat.mul_add,Nat.mul_add] at e;omega
theorem q7W{xs ys U:List Nat}{n y:Nat}(hU:U.length=n)(hx:xs.length<=n)(hy:ys.length<=n)(hl:Lim U)(hle:val ys<=val xs)(h:val (U.take n)+val (ys.take n)=val (xs.take n)+4294967296^n*y):val U=val xs-val ys:=by
 rw[List.take_of_length_le (by omega),List.take_of_length_le hy,List.take_of_length_le hx] at h;have h1:=q0G hl;rw[hU] at h1;rcases Nat.eq_zero_or_pos y with h0|h0
 ·subst h0;omega
 ·have:4294967296^n*1<=4294967296^n*y:=Nat.mul_le_mul_left _ h0;omega
theorem q1L{x y:Nat}(hx:x<4294967296)(hy:y<4294967296):x*y<=18446744065119617025:=Nat.mul_le_mul (show x<=4294967295 by omega) (show y<=4294967295 by omega)
theorem q0q(xs:List Nat){i j:Nat}(x:Nat)(h:j≠i):nth (xs.set i x) j=nth xs j:=by
 unfold nth;rw[List.getD_eq_getElem?_getD,List.getD_eq_getElem?_getD,List.getElem?_set,if_neg (fun e=>h e.symm)]
theorem q8d{ys U V:List Nat}{k j x c:Nat}(hV:k+j<V.length)(hs:nth V (k+j)=nth U (k+j))
  (h:val (V.take (k+j))+4294967296^(k+j)*c=val (U.take (k+j))+4294967296^k*(x*val (ys.take j))) :
  val ((V.set (k+j) ((x*nth ys j+nth V (k+j)+c)%4294967296)).take (k+(j+1)))+4294967296^(k+(j+1))*((x*nth ys j+nth V (k+j)+c)/4294967296)
   = val (U.take (k+(j+1)))+4294967296^k*(x*val (ys.take (j+1))):=by
 rw[show k+(j+1)=(k+j)+1 from rfl,q0g V _ _ hV,q09,q09,hs,Nat.pow_succ,Nat.mul_assoc,Nat.add_assoc,<- Nat.mul_add,Nat.mod_add_div];have e:4294967296^k*(x*(val (ys.take j)+4294967296^j*nth ys j))=4294967296^k*(x*val (ys.take j))+4294967296^(k+j)*(x*nth ys j):=by
  rw[Nat.mul_add,Nat.mul_add,Nat.pow_add,Nat.mul_assoc,Nat.mul_left_comm x]
 rw[e,Nat.mul_add,Nat.mul_add];omega
theorem q9J{xs ys U V:List Nat}{k m c:Nat}(hm:ys.length=m)(hV:k+m<V.length)
  (hU:val (U.take (k+m))=val (xs.take k)*val ys) (h:val (V.take (k+m))+4294967296^(k+m)*c=val (U.take (k+m))+4294967296^k*(nth xs k*val (ys.take m))) :
  val ((V.set (k+m) c).take (k+1+m))=val (xs.take (k+1))*val ys:=by
 have e:ys.take m=ys:=List.take_of_length_le (by omega);rw[show k+1+m=(k+m)+1 by omega,q0g V _ _ hV,h,hU,e,q09,Nat.add_mul,Nat.mul_assoc]
theorem q0l{xs:List Nat}{n:Nat}(h:xs.length<=n):xs.take n=xs:=List.take_of_length_le h
theorem q3j{xs ys:List Nat}(hl:xs.length=ys.length)(h:∀i,i<xs.length->nth xs i=nth ys i):xs=ys:=by
 apply List.ext_getElem hl
 intro i h1 h2;have:=h i h1;unfold nth at this;rw[List.getD_eq_getElem?_getD,List.getD_eq_getElem?_getD,List.getElem?_eq_getElem h1,List.getElem?_eq_getElem h2] at this
 simpa using this
theorem q9v{U V:List Nat}{q:Nat}(hl:V.length=U.length)(h:∀p,q<=p->nth V p=nth U p):val V+val (U.take q)=val U+val (V.take q):=by
 by_cases hq:q<=U.length
 ·have e:V.drop q=U.drop q:=q3j (by rw[List.length_drop,List.length_drop,hl]) fun i _=>by rw[q0s,q0s];exact h _ (by omega)
  have h1:=q0r V q (by omega);have h2:=q0r U q hq;rw[e] at h1;omega
 ·rw[q0l (xs:=U) (by omega),q0l (xs:=V) (by omega)];omega
theorem q96{a n:Nat}(h:4294967296^a<4294967296^n):a<n:=(Nat.pow_lt_pow_iff_right (by omega)).1 h
theorem q27(xs:List Nat)(q:Nat):val (xs.take q)<=val xs:=by
 by_cases hq:q<=xs.length
 ·rw[q0r xs q hq];omega
 ·rw[q0l (by omega)];omega
theorem q6g{U V:List Nat}{at_ k y N n:Nat}(hf:val U+4294967296^at_*N<4294967296^n)(h:val (V.take (at_+k))+4294967296^(at_+k)*y=val (U.take (at_+k))+4294967296^at_*val ((toL N).take k))
  (hc:k<(toL N).length\/0<y):at_+k<n:=by
 apply q96
 by_cases hk:k<(toL N).length
 ·have h0:0<N:=by
   rcases Nat.eq_zero_or_pos N with h0|h0
   ·subst h0;rw[q2Q] at hk;simp at hk
   ·exact h0
  have h1:=q3f h0;have h2:4294967296^k<=4294967296^(words N-1):=Nat.pow_le_pow_right (by omega) (by unfold words;omega);have h3:4294967296^at_*4294967296^k<=4294967296^at_*N:=Nat.mul_le_mul_left _ (by omega);rw[Nat.pow_add];omega
 ·have hy:0<y:=hc.resolve_left hk;rw[q0l (xs:=toL N) (by omega),q03] at h;have h1:=q27 U (at_+k);have h2:4294967296^(at_+k)*1<=4294967296^(at_+k)*y:=Nat.mul_le_mul_left _ hy;omega
theorem q3Q{ys U V:List Nat}{a k y d q:Nat}(hV:a+k<V.length)(hs:nth V (a+k)=nth U (a+k))
  (h:val (V.take (a+k))+4294967296^(a+k)*y=val (U.take (a+k))+4294967296^a*val (ys.take k)) (hd:d+4294967296*q=nth V (a+k)+y+nth ys k) :
  val ((V.set (a+k) d).take (a+(k+1)))+4294967296^(a+(k+1))*q=val (U.take (a+(k+1)))+4294967296^a*val (ys.take (k+1)):=by
 rw[show a+(k+1)=(a+k)+1 from rfl,q0g V _ _ hV,q09,q09,Nat.pow_succ,Nat.mul_assoc,Nat.add_assoc,<- Nat.mul_add,hd,hs,Nat.mul_add,Nat.mul_add,Nat.mul_add,<- Nat.mul_assoc,<- Nat.pow_add];omega
theorem q6h{U V:List Nat}{a k N:Nat}(hl:V.length=U.length)(hs:∀p,a+k<=p->nth V p=nth U p)(hk:(toL N).length<=k)
  (h:val (V.take (a+k))+4294967296^(a+k)*0=val (U.take (a+k))+4294967296^a*val ((toL N).take k)):val V=val U+4294967296^a*N:=by
 have h1:=q9v hl hs;rw[q0l (xs:=toL N) hk,q03] at h;omega
theorem q2C(xs:List Nat)(p m:Nat):val (xs.take (p+m))=val (xs.take p)+4294967296^p*val ((xs.drop p).take m):=by
 by_cases h:p<=xs.length
 ·rw[List.take_add,q10,List.length_take,Nat.min_eq_left h]
 ·rw[q0l (by omega),q0l (by omega),List.drop_of_length_le (by omega)];simp [val]
theorem qbU(a b c d p:Nat):a*c+p*((a+b)*(c+d)-a*c-b*d)+p*p*(b*d)=(a+p*b)*(c+p*d):=by
 have e:(a+b)*(c+d)=a*c+b*d+(a*d+b*c):=by
  rw[Nat.add_mul,Nat.mul_add,Nat.mul_add];omega
 rw[e,show a*c+b*d+(a*d+b*c)-a*c-b*d=a*d+b*c by omega,Nat.add_mul,Nat.mul_add,Nat.mul_add,Nat.mul_add];have e1:a*(p*d)=p*(a*d):=Nat.mul_left_comm a p d;have e2:p*b*c=p*(b*c):=Nat.mul_assoc p b c;have e3:p*b*(p*d)=p*p*(b*d):=by rw[Nat.mul_assoc,Nat.mul_left_comm b p d,<- Nat.mul_assoc]
 omega
theorem q5x(a b c d:Nat):a*c<=(a+b)*(c+d):=Nat.mul_le_mul (by omega) (by omega)
theorem q5w(a b c d:Nat):b*d<=(a+b)*(c+d)-a*c:=by
 have e:(a+b)*(c+d)=a*c+b*d+(a*d+b*c):=by
  rw[Nat.add_mul,Nat.mul_add,Nat.mul_add];omega
 omega
theorem q3W{xs ys:List Nat}(hx:Lim xs)(hy:Lim ys):val xs*val ys<4294967296^(xs.length+ys.length):=by
 have h1:=q0G hx;have h2:=q0G hy;rw[Nat.pow_add];exact Nat.mul_lt_mul'' h1 h2
end Go.Proofs.YtcdimmblnbkjjaaGreatDoor
