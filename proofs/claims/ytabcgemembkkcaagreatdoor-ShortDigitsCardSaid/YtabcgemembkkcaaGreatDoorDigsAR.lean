/- Lemmas. -/
import Derived.Test.YtabcgemembkkcaaGreatDoorDigsAQ
import Derived.Shelf.Spec.TrailingZeros
set_option linter.all false
set_option maxHeartbeats 1000000
open Go.Proofs.Tryz
namespace Go.Proofs.YtabcgemembkkcaaGreatDoor
namespace AB
open Go Go.RowKit
theorem divWords{fq:FuncId}(A B:Option Addr)(n m c d a b:Nat)(w:World)(ha:Rd w A n c (toL a))(hb:Rd w B m d (toL b))(h0:0<b)(hs:n<17592186044416)(hq:fq=332\/fq=283:=by decide):Calls Tryz.prog fq #[.slice A n c,.slice B m d] w (q4z (a/b) (a%b) w):=by
 rcases k0A a b with h|h
 ·exact div_less (hq:=hq) A B n m c d a b w ha hb h
 ·rcases k0A m 2 with f|f
  ·have:m≠0:=by intro e;have:=hb.words;rw[e] at this;have:=q06.1 this;omega
   obtain rfl:m=1:=by omega
   exact div_one (hq:=hq) A B n c d a b w ha hb h
  ·exact div_main (hq:=hq) A B n m c d a b w ha hb h f hs
theorem one{fq:FuncId}(A:Option Addr)(n c a:Nat)(w:World)(ha:Rd w A n c (toL a))(hq:fq=334\/fq=316:=by decide):Calls Tryz.prog fq #[.slice A n c] w fun e w'=>e=.returned (.bool (decide (a=1)))/\w=w':=by
 have f:=ha.words;have k:=ha.sm;by_cases h1:n=1
 ·subst h1;obtain⟨b,off,rfl,l,i⟩:=ha.cell (by omega);have hx:=i 0 (by omega);have j:nth (toL a) 0=a:=by rw[q19,k0B,k1b,k0E];have:=q0p a;rw[f] at this;omega
  rw[j,k1u] at hx;have d:((a:Int)==1)=decide (a=1):=by
   rcases Nat.decEq a 1 with h|h
   ·rw[k02 h];simp;omega
   ·rw[h];rfl
  have g:=vv d;clear i j d f;rcases hq with rfl|rfl;go_enter func334,ntmps334;rotate_left;go_enter func316,ntmps316;rotate_left;all_goals
   go_wp2;go_ret;exact⟨q56 g.o,rfl⟩
 ·have d:decide (a=1)=false:=by rw[k1i];intro e;subst e;exact h1 (by rw[<- f];rfl)
  have m:((n:Int)==1)=false:=by simp;omega
  have g:=vv d;clear d f;rcases hq with rfl|rfl;go_enter func334,ntmps334;rotate_left;go_enter func316,ntmps316;rotate_left;all_goals
   go_wp2;go_ret;exact⟨q56 g.o.symm,rfl⟩
def qd6(N:Nat)(A:Option Addr)(w:World)(e:Ending)(w':World):Prop:=
 ∃A' m c,e=.returned (.slice A' m c)/\Rd w' A' m c (toL N)/\(Fr w.heap.size A'\/A'=A)/\Below w.heap.size w w'
theorem by_{fq:FuncId}(A B:Option Addr)(n m c d a b:Nat)(w:World)(ha:Rd w A n c (toL a))(hb:Rd w B m d (toL b))(h0:0<b)(hs:n<17592186044416)(hq:fq=289\/fq=252:=by decide):Calls Tryz.prog fq #[.slice A n c,.slice B m d] w (qd6 (a/b) A w):=by
 have f:=vv fun fq hq=>one (fq:=fq) (hq:=hq) B m d b w hb
 have i:=vv fun fq hq=>divWords (fq:=fq) (hq:=hq) A B n m c d a b w ha hb h0 hs
 rcases Nat.decEq b 1 with h|h
 ·have j:=k02 h;rcases hq with rfl|rfl;go_enter func289,ntmps289;rotate_left;go_enter func252,ntmps252;rotate_left;all_goals
   go_wp2_with fail;refine(f.o _ (by decide)).mono ?_;rintro e g ⟨rfl,rfl⟩;go_wp2_with fail;refine(i.o _ (by decide)).mono ?_;rintro e g ⟨k,l,c1,u,v,c2,rfl,p,x,f1,f2,q⟩;have r:=vv p;go_wp2;go_ret;exact⟨k,l,c1,rfl,r.o,.inl f1,q⟩
 ·have j:=k04 h;have s:=vv ha;have t:Hid (a/b=a):=vv (by rw[h,k1b]);clear ha h;rcases hq with rfl|rfl;go_enter func289,ntmps289;rotate_left;go_enter func252,ntmps252;rotate_left;all_goals
   go_wp2_with fail;refine(f.o _ (by decide)).mono ?_;rintro e g ⟨rfl,rfl⟩;go_wp2;go_ret;exact⟨A,n,c,rfl,by rw[t.o];exact s.o,.inr rfl,Below.refl _ _⟩
end AB
namespace A
open AB
open Go Go.RowKit
def divWords:=@AB.divWords 332
def one:=@AB.one 334
def by_:=@AB.by_ 289
end A
namespace B
open AB
open Go Go.RowKit
def divWords:=@AB.divWords 283
def one:=@AB.one 316
def by_:=@AB.by_ 252
end B
end Go.Proofs.YtabcgemembkkcaaGreatDoor
