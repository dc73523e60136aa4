/- Lemmas. -/
import Derived.Test.YtcdimmblnbkjjaaGreatDoorPartAQ
import Derived.Shelf.Lay
import Derived.Shelf.Spec.TrailingZeros
set_option linter.all false
namespace Go.Proofs.YtcdimmblnbkjjaaGreatDoor.B
open Go Go.RowKit
def q9g(N:Nat)(A:Option Addr)(w:World)(e:Ending)(w':World):Prop:=
 ∃A' m c,e=.returned (.slice A' m c)/\Rd w' A' m c (toL N)/\(Fr w.heap.size A'\/A'=A)/\Below w.heap.size w w'
end Go.Proofs.YtcdimmblnbkjjaaGreatDoor.B
namespace Go.Proofs.YtcdimmblnbkjjaaGreatDoor.A
open Go Go.RowKit
theorem q2U(A B:Option Addr)(n m c d a b:Nat)(w:World)(ha:Rd w A n c (toL a))(hb:Rd w B m d (toL b))(h0:0<b)(hs:n<17592186044416):
  Calls Tryz.prog 247 #[.slice A n c,.slice B m d] w (q3t (a/b) (a%b) w):=by
 rcases Nat.lt_or_ge a b with h|h
 ·exact q8C A B n m c d a b w ha hb h
 ·rcases Nat.lt_or_ge m 2 with h2|h2
  ·have:m≠0:=by
    intro e;have:=hb.words;rw[e] at this;have:=q0c.1 this;omega
   obtain rfl:m=1:=by omega
   exact div_one A B n c d a b w ha hb h
  ·exact q8B A B n m c d a b w ha hb h h2 hs
theorem one(A:Option Addr)(n c a:Nat)(w:World)(ha:Rd w A n c (toL a)):
  Calls Tryz.prog 299 #[.slice A n c] w fun e w'=>e=.returned (.bool (decide (a=1)))/\w=w':=by
 have hw:=ha.words;have a0:=ha.sm;by_cases h1:n=1
 ·subst h1;obtain⟨b,off,rfl,hb,hc⟩:=ha.cell (by omega);have hx:=hc 0 (by omega);have hv:nth (toL a) 0=a:=by
   rw[q0V,Nat.pow_zero,Nat.div_one,Nat.mod_eq_of_lt];have:=q0o a;rw[hw] at this;omega
  rw[hv,Nat.add_zero] at hx;have hd:((a:Int)==1)=decide (a=1):=by
   rcases Nat.decEq a 1 with h|h
   ·rw[decide_eq_false h];simp;omega
   ·rw[h];rfl
  have HD:=vv hd;clear hc hv hd hw;go_enter Tryz.func299,Tryz.ntmps299
  go_wp2;go_ret
  exact⟨q3y HD.o,rfl⟩
 ·have hd:decide (a=1)=false:=by
   rw[decide_eq_false_iff_not];intro e;subst e;exact h1 (by rw[<- hw];rfl)
  have ht:((n:Int)==1)=false:=by simp;omega
  have HD:=vv hd;clear hd hw;go_enter Tryz.func299,Tryz.ntmps299
  go_wp2;go_ret
  exact⟨q3y HD.o.symm,rfl⟩
def q9g(N:Nat)(A:Option Addr)(w:World)(e:Ending)(w':World):Prop:=
 ∃A' m c,e=.returned (.slice A' m c)/\Rd w' A' m c (toL N)/\(Fr w.heap.size A'\/A'=A)/\Below w.heap.size w w'
theorem by_(A B:Option Addr)(n m c d a b:Nat)(w:World)(ha:Rd w A n c (toL a))(hb:Rd w B m d (toL b))(h0:0<b)(hs:n<17592186044416):
  Calls Tryz.prog 280 #[.slice A n c,.slice B m d] w (q9g (a/b) A w):=by
 have H1:=vv (one B m d b w hb);have HD:=vv (q2U A B n m c d a b w ha hb h0 hs);rcases Nat.decEq b 1 with h|h
 ·have hd:=decide_eq_false h;go_enter Tryz.func280,Tryz.ntmps280
  go_wp2_with fail
  refine H1.o.mono ?_;rintro e w' ⟨rfl,rfl⟩;go_wp2_with fail
  refine HD.o.mono ?_;rintro e w' ⟨A1,m1,c1,A2,m2,c2,rfl,h1,h2,f1,f2,hB⟩;have HR:=vv h1;go_wp2;go_ret
  exact⟨A1,m1,c1,rfl,HR.o,.inl f1,hB⟩
 ·have hd:=decide_eq_true h;have HA:=vv ha;have HE:Hid (a/b=a):=vv (by rw[h,Nat.div_one]);clear ha h;go_enter Tryz.func280,Tryz.ntmps280
  go_wp2_with fail
  refine H1.o.mono ?_;rintro e w' ⟨rfl,rfl⟩;go_wp2;go_ret
  exact⟨A,n,c,rfl,by rw[HE.o];exact HA.o,.inr rfl,Below.refl _ _⟩
end Go.Proofs.YtcdimmblnbkjjaaGreatDoor.A
