/- Lemmas. -/
import Derived.Test.YtppgcnhlpnmieaaGreatDoorPartAV
import Derived.Laws.AppendOwn
import Derived.Maps.AppendAt
set_option linter.all false
set_option maxHeartbeats 4000000
set_option maxRecDepth 100000
namespace Go.Proofs.YtppgcnhlpnmieaaGreatDoor
open Go Go.RowKit
end Go.Proofs.YtppgcnhlpnmieaaGreatDoor
namespace Go.Proofs.YtppgcnhlpnmieaaGreatDoor.R1
open Go Go.RowKit
end Go.Proofs.YtppgcnhlpnmieaaGreatDoor.R1
namespace Go.Proofs.YtppgcnhlpnmieaaGreatDoor
open Go Go.RowKit
def dv(l:List UInt8):Nat:=l.foldl (fun a c=>10*a+(c.toNat-48)) 0
def qeg(s:ByteArray):Prop:=∀k (h:k<s.size),48<=s[k].toNat/\s[k].toNat<=57
def dvk(s:ByteArray)(k:Nat):Nat:=dv (s.data.toList.take k)
def dvm(s:ByteArray)(i j:Nat):Nat:=dv ((s.data.toList.drop i).take j)
theorem qd2(s:ByteArray)(i:Nat):dvm s i 0=0:=rfl
def tn(j:Nat):Nat:=10^j
structure NatCell(w:World)(g:Nat):Prop where
 c0:w.cell? ⟨g,0,none⟩=some (.slice none 0 0)
 fz:w.frozen? ⟨g,0,none⟩=false
 lt:g<w.heap.size
theorem NatCell.made(w:World)(t:TypeId):NatCell (w.alloc (.cells #[.slice none 0 0] t)) w.heap.size:=
 ⟨by simp only[World.cell?];rw[heap_alloc_new];rfl,by simp only[World.frozen?];rw[heap_alloc_new];simp,by simp⟩
theorem NatCell.below{w w':World}{g:Nat}(h:NatCell w g)(hb:Below w.heap.size w w'):NatCell w' g:=
 ⟨(hb.cell (p:=⟨g,0,none⟩) h.lt).trans h.c0,(hb.frozen (p:=⟨g,0,none⟩) h.lt).trans h.fz,Nat.lt_of_lt_of_le h.lt hb.size⟩
theorem Rd.other{w:World}{A:Option Addr}{n c:Nat}{xs:List Nat}(h:Rd w A n c xs)(g o:Nat)(v:Value)(hf:∀a,A=some a->a.block≠g):Rd (w.setCell ⟨g,o,none⟩ v) A n c xs:=
 h.fm (Fm.set0 (g:=g) (o:=o) w v (.inl rfl)) (fun _=>hf)
end Go.Proofs.YtppgcnhlpnmieaaGreatDoor
namespace Go.Proofs.YtppgcnhlpnmieaaGreatDoor.R1
open Go Go.RowKit
end Go.Proofs.YtppgcnhlpnmieaaGreatDoor.R1
namespace Go.Proofs.YtppgcnhlpnmieaaGreatDoor.R3
open Go Go.RowKit R5
def formOk(E F:Int):Bool:=decide (2<=E) && decide (E<=11) && decide (1<=F) && decide (F<=52)
def chk(E F:Int):Int:=if formOk E F then 0 else 5
theorem chk_ok{E F:Int}(h:formOk E F=true):chk E F=0:=if_pos h
theorem chk_no{E F:Int}(h:formOk E F=false):chk E F=5:=by unfold chk;rw[h];rfl
theorem formOk_nat{E F:Int}(h:formOk E F=true):∃e f:Nat,E=e/\F=f/\2<=e/\e<=11/\1<=f/\f<=52:=by
 unfold formOk at h;simp only[Bool.and_eq_true,decide_eq_true_eq] at h;exact⟨E.toNat,F.toNat,by omega,by omega,by omega,by omega,by omega,by omega⟩
theorem Check(E F:Int)(w:World):
  Calls Tryz.prog 26 #[fm E F] w fun e w'=>e=.returned (.int .i64 (chk E F))/\Below w.heap.size w w':=by
 by_cases h1:E<2
 ·have HV:Hid (formOk E F=false):=vv (by unfold formOk;rw[decide_eq_false (p:=2<=E) (by omega)];rfl);have d1:decide (E<2)=true:=decide_eq_true h1;clear h1;go_enter Tryz.func26,Tryz.ntmps26
  go_wp2;go_ret
  exact⟨q0T (chk_no HV.o).symm,(Below.refl _ _).alloc lr _⟩
 have d1:decide (E<2)=false:=decide_eq_false h1;by_cases h2:11<E
 ·have HV:Hid (formOk E F=false):=vv (by unfold formOk;rw[decide_eq_false (p:=E<=11) (by omega)];simp);have d2:decide (11<E)=true:=decide_eq_true h2;clear h1 h2;go_enter Tryz.func26,Tryz.ntmps26
  go_wp2;go_ret
  exact⟨q0T (chk_no HV.o).symm,(Below.refl _ _).alloc lr _⟩
 have d2:decide (11<E)=false:=decide_eq_false h2;by_cases h3:F<1
 ·have HV:Hid (formOk E F=false):=vv (by unfold formOk;rw[decide_eq_false (p:=1<=F) (by omega)];simp);have d3:decide (F<1)=true:=decide_eq_true h3;clear h1 h2 h3;go_enter Tryz.func26,Tryz.ntmps26
  go_wp2;go_ret
  exact⟨q0T (chk_no HV.o).symm,(Below.refl _ _).alloc lr _⟩
 have d3:decide (F<1)=false:=decide_eq_false h3;by_cases h4:52<F
 ·have HV:Hid (formOk E F=false):=vv (by unfold formOk;rw[decide_eq_false (p:=F<=52) (by omega)];simp);have d4:decide (52<F)=true:=decide_eq_true h4;clear h1 h2 h3 h4;go_enter Tryz.func26,Tryz.ntmps26
  go_wp2;go_ret
  exact⟨q0T (chk_no HV.o).symm,(Below.refl _ _).alloc lr _⟩
 have d4:decide (52<F)=false:=decide_eq_false h4;have HV:Hid (formOk E F=true):=vv (by unfold formOk;rw[decide_eq_true (p:=2<=E) (by omega),decide_eq_true (p:=E<=11) (by omega),decide_eq_true (p:=1<=F) (by omega),decide_eq_true (p:=F<=52) (by omega)];rfl);clear h1 h2 h3 h4;go_enter Tryz.func26,Tryz.ntmps26
 go_wp2;go_ret
 exact⟨q0T (chk_ok HV.o).symm,(Below.refl _ _).alloc lr _⟩
def tw(j:Nat):Nat:=2^j
theorem tw_succ(j:Nat):tw (j+1)=tw j*2:=by unfold tw;rw[Nat.pow_succ]
theorem tw_le{j k:Nat}(h:j<=k):tw j<=tw k:=Nat.pow_le_pow_right (by omega) h
theorem tw_pos(j:Nat):0<tw j:=Nat.two_pow_pos j
theorem Pow(n:Nat)(w:World)(hn:n<=63):
  Calls Tryz.prog 120 #[.int .i64 (n:Int)] w fun e w'=>e=.returned (.int .u64 (tw n:Nat))/\w=w':=by
 have a0:(n:Int)<=63:=by omega
 go_enter Tryz.func120,Tryz.ntmps120
 go_wp2;go_loop [3,4] (fun a t=>∃k:Nat,k<=n/\t=.int .i64 k/\a=.int .u64 (tw k:Nat)) (fun _ t=>n-(intOf t).toNat)
 case atStart=>exact⟨0,Nat.zero_le _,rfl,rfl⟩
 case round =>
  obtain⟨k,hk,rfl,rfl⟩:=hrel;by_cases hkn:k<n
  ·have hb:((tw k:Nat):Int)<=4611686018427387904:=by
    have:=tw_le (j:=k) (k:=62) (by omega);have h2:tw 62=4611686018427387904:=rfl;omega
   have HS:=vv (tw_succ k);go_wp2;go_round
   case rel=>exact⟨k+1,by omega,by go_num,congrArg _ (by rw[HS.o];omega)⟩
   case measure=>simp [intOf];omega
  ·obtain rfl:k=n:=by omega
   clear hkn;go_wp2;go_ret
   exact⟨rfl,rfl⟩
theorem Top(E:Nat)(F:Int)(w:World)(h1:2<=E)(h2:E<=11):
  Calls Tryz.prog 119 #[fm E F] w fun e w'=>e=.returned (.int .i64 ((tw E-1:Nat):Int))/\Below w.heap.size w w':=by
 have hb:((tw E:Nat):Int)<=2048:=by
  have:=tw_le h2;have h3:tw 11=2048:=rfl;omega
 have a0:(1:Int)<=((tw E:Nat):Int):=by have:=tw_pos E;omega
 have HP:=vv fun w=>Pow E w (by omega)
 clear h1 h2;go_enter Tryz.func119,Tryz.ntmps119
 go_wp2_with fail
 refine(HP.o _).mono ?_;rintro e w' ⟨rfl,rfl⟩;go_wp2;go_ret
 exact⟨q0T (by omega),(Below.refl _ _).alloc lr _⟩
structure PartsBox(w:World)(g:Nat)(neg:Bool)(x f:Nat):Prop where
 c0:w.cell? ⟨g,0,none⟩=some (.bool neg)
 c1:w.cell? ⟨g,1,none⟩=some (.int .i64 (x:Int))
 c2:w.cell? ⟨g,2,none⟩=some (.int .u64 (f:Int))
 lt:g<w.heap.size
end Go.Proofs.YtppgcnhlpnmieaaGreatDoor.R3
namespace Go.Proofs.YtppgcnhlpnmieaaGreatDoor
open Go Go.RowKit
def qdj(s:ByteArray):Bool:=s.data.toList.all fun c=>decide (48<=c.toNat) && decide (c.toNat<=57)
def qaG(s:ByteArray)(k:Nat):Nat:=if h:k<s.size then s[k].toNat else 0
def qaF(s:ByteArray)(x:Int):Bool:=
 decide (x<=1073741824) && decide (-1073741824<=x) && decide (s.size<=65536) &&
  (if s.size=0 then decide (x=0) else qdj s && !decide (qaG s 0=48) && !decide (qaG s (s.size-1)=48))
structure DecBox(w:World)(g:Nat)(neg:Bool)(s:ByteArray)(x:Int):Prop where
 c0:w.cell? ⟨g,0,none⟩=some (.bool neg)
 c1:w.cell? ⟨g,1,none⟩=some (.string s)
 c2:w.cell? ⟨g,2,none⟩=some (.int .i64 x)
 lt:g<w.heap.size
abbrev qef(neg:Bool)(s:ByteArray)(x:Int):Value:=.agg #[.bool neg,.string s,.int .i64 x]
end Go.Proofs.YtppgcnhlpnmieaaGreatDoor
namespace Go.Proofs.YtppgcnhlpnmieaaGreatDoor.R11
open Go Go.RowKit R5
def noTwoB(neg:Bool)(n:Nat)(x:Int):Bool:=decide (n=0) && decide (x=0) && !neg
end Go.Proofs.YtppgcnhlpnmieaaGreatDoor.R11
namespace Go.Proofs.YtppgcnhlpnmieaaGreatDoor
open Go Go.RowKit
theorem q3D{s:ByteArray}(h:0<s.size):s.toList.isEmpty=false:=by
 rw[ByteArray.toList_eq];have e:s.data.toList.length=s.size:=Array.length_toList;cases hl:s.data.toList with
 | nil=>rw[hl] at e;simp at e;omega
 | cons _ _=>rfl
end Go.Proofs.YtppgcnhlpnmieaaGreatDoor
namespace Go.Proofs.YtppgcnhlpnmieaaGreatDoor.R11
open Go Go.RowKit R5
end Go.Proofs.YtppgcnhlpnmieaaGreatDoor.R11
namespace Go.Proofs.YtppgcnhlpnmieaaGreatDoor
open Go Go.RowKit
abbrev numV(kind:Nat)(neg dneg:Bool)(s:ByteArray)(x:Int)(hneg:Bool)(A:Option Addr)(n c:Nat)(hx:Int)(p:Nat):Value:=
 .agg #[.int .u8 (kind:Int),.bool neg,.bool dneg,.string s,.int .i64 x,.bool hneg,.slice A n c,.int .i64 hx,.int .u64 (p:Int)]
structure NumBox(w:World)(g:Nat)(kind:Nat)(neg dneg:Bool)(s:ByteArray)(x:Int)(hneg:Bool)(A:Option Addr)(n c:Nat)(hx:Int)(p:Nat):Prop where
 c0:w.cell? ⟨g,0,none⟩=some (.int .u8 (kind:Int))
 c1:w.cell? ⟨g,1,none⟩=some (.bool neg)
 c2:w.cell? ⟨g,2,none⟩=some (.bool dneg)
 c3:w.cell? ⟨g,3,none⟩=some (.string s)
 c4:w.cell? ⟨g,4,none⟩=some (.int .i64 x)
 c5:w.cell? ⟨g,5,none⟩=some (.bool hneg)
 c6:w.cell? ⟨g,6,none⟩=some (.slice A n c)
 c7:w.cell? ⟨g,7,none⟩=some (.int .i64 hx)
 c8:w.cell? ⟨g,8,none⟩=some (.int .u64 (p:Int))
 lt:g<w.heap.size
def q8R(neg:Bool)(s:ByteArray)(x:Int):Bool:=!neg && s.toList.isEmpty && (x==0)
def qde(kind:Nat)(neg dneg:Bool)(s:ByteArray)(x:Int)(hneg:Bool)(n:Nat)(xs:List Nat)(hx:Int)(p:Nat):Bool:=
 if kind=1 then qaF s x && (dneg==neg) && R11.noTwoB hneg n hx && decide (p=0)
 else if kind=2 then R5.twoOk hneg n xs hx && q8R dneg s x && decide (p=0) && ((hneg==neg) || decide (n=0))
 else if kind=3 then q8R dneg s x && R11.noTwoB hneg n hx && decide (p=0)
 else if kind=4 then q8R dneg s x && R11.noTwoB hneg n hx && decide (p<=2251799813685247)
 else false
def qdC(b:Bool):Int:=if b then 0 else 110
end Go.Proofs.YtppgcnhlpnmieaaGreatDoor
namespace Go.Proofs.YtppgcnhlpnmieaaGreatDoor.R11
open Go Go.RowKit R5
end Go.Proofs.YtppgcnhlpnmieaaGreatDoor.R11
namespace Go.Proofs.YtppgcnhlpnmieaaGreatDoor.R1
open Go Go.RowKit
theorem two_words(w:World)(x y:Nat)(hx:x<4294967296)(hy:y<4294967296)(t:TypeId):Rd (w.alloc (.cells #[.int .u32 (x:Int),.int .u32 (y:Int)] t)) (some ⟨w.heap.size,0,none⟩) 2 2 [x,y]/\Below w.heap.size w (w.alloc (.cells #[.int .u32 (x:Int),.int .u32 (y:Int)] t)):=
 ⟨(Own.lit (t:=t) [x,y] (q0v.2 ⟨hx,q0v.2 ⟨hy,q0M⟩⟩) (by simp [q0p])).rd rfl lr (by omega),(Below.refl _ _).alloc lr _⟩
end Go.Proofs.YtppgcnhlpnmieaaGreatDoor.R1
namespace Go.Proofs.YtppgcnhlpnmieaaGreatDoor.R11
open Go Go.RowKit R5
end Go.Proofs.YtppgcnhlpnmieaaGreatDoor.R11
namespace Go.Proofs.YtppgcnhlpnmieaaGreatDoor
open Go Go.RowKit R5
def qaE(E F:Nat)(neg:Bool)(s:ByteArray)(x:Int)(mode:Nat):Nat × Nat:=
 q0V E F neg neg mode (dvk s s.size*t10 x) (t10 (-x))
def qdD(E F:Int)(kind:Nat)(neg dneg:Bool)(s:ByteArray)(x:Int)(hneg:Bool)(n:Nat)(xs:List Nat)(hx:Int)(p mode:Nat):Nat × Nat × Nat:=
 if R3.formOk E F=false then(0,0,5)
 else if qde kind neg dneg s x hneg n xs hx p=false then(0,0,110)
 else if 4<mode then(0,0,7)
 else if kind=1 then((qaE E.toNat F.toNat dneg s x mode).1,(qaE E.toNat F.toNat dneg s x mode).2,0)
 else if kind=2 then((q0V E.toNat F.toNat hneg neg mode (val xs*p2 hx) (p2 (-hx))).1,(q0V E.toNat F.toNat hneg neg mode (val xs*p2 hx) (p2 (-hx))).2,0)
 else if kind=3 then(sgb E.toNat F.toNat neg+(2^E.toNat-1)*2^F.toNat,0,0)
 else if 2^(F.toNat-1)<=p then(0,0,115)
 else(sgb E.toNat F.toNat neg+((2^E.toNat-1)*2^F.toNat+(2^(F.toNat-1)+p)),0,0)
def qdt(o:Nat × Nat × Nat)(w:World)(e:Ending)(w':World):Prop:=e=.returned (.tuple #[.int .u64 (o.1:Int),.int .u8 (o.2.1:Int),.int .i64 (o.2.2:Int)])/\Below w.heap.size w w'
end Go.Proofs.YtppgcnhlpnmieaaGreatDoor
namespace Go.Proofs.YtppgcnhlpnmieaaGreatDoor.R16
open Go Go.RowKit R5
theorem natOk_facts{n:Nat}{xs:List Nat}(h:q23 n xs=true):n<=16384/\(n=0\/nth xs (n-1)≠0):=by
 unfold q23 at h;simp only[Bool.and_eq_true,Bool.or_eq_true,decide_eq_true_eq] at h;exact h
end Go.Proofs.YtppgcnhlpnmieaaGreatDoor.R16
namespace Go.Proofs.YtppgcnhlpnmieaaGreatDoor.R1
open Go Go.RowKit
end Go.Proofs.YtppgcnhlpnmieaaGreatDoor.R1
namespace Go.Proofs.YtppgcnhlpnmieaaGreatDoor.Fms
open Go Go.RowKit R5
theorem qb5:∀n:Fin 64,bits .andNot .u64 18446744073709551615 (IntKind.u64.wrap (18446744073709551615*2^n.val))=((R3.tw n.val-1:Nat):Int):=by decide +kernel
theorem qdG(n:Nat)(w:World)(hn:n<=63):
  Calls Tryz.prog 102 #[.int .i64 (n:Int)] w fun e w'=>e=.returned (.int .u64 ((R3.tw n-1:Nat):Int))/\w=w':=by
 have HM:=vv (qb5 ⟨n,by omega⟩);go_enter Tryz.func102,Tryz.ntmps102
 go_wp2;go_ret
 exact⟨q0T HM.o,rfl⟩
abbrev qdI(E F:Int):Value:=.agg #[.int .i64 0,.int .i64 F,.int .i64 F,.int .i64 E,.int .i64 (F+E),.int .i64 1]
structure LayBox(w:World)(g:Nat)(E F:Int):Prop where
 c0:w.cell? ⟨g,0,none⟩=some (.int .i64 0)
 c1:w.cell? ⟨g,1,none⟩=some (.int .i64 F)
 c2:w.cell? ⟨g,2,none⟩=some (.int .i64 F)
 c3:w.cell? ⟨g,3,none⟩=some (.int .i64 E)
 c4:w.cell? ⟨g,4,none⟩=some (.int .i64 (F+E))
 c5:w.cell? ⟨g,5,none⟩=some (.int .i64 1)
 lt:g<w.heap.size
theorem LayBox.made(w:World)(E F:Int)(t:TypeId):LayBox (w.alloc (.cells #[.int .i64 0,.int .i64 F,.int .i64 F,.int .i64 E,.int .i64 (F+E),.int .i64 1] t)) w.heap.size E F:=by
 constructor<;>first|(simp only[World.cell?];rw[heap_alloc_new];rfl)|simp
theorem LayBox.below{w w':World}{g:Nat}{E F:Int}(h:LayBox w g E F)(hb:Below w.heap.size w w'):LayBox w' g E F:=
 ⟨(hb.cell (p:=⟨g,0,none⟩) h.lt).trans h.c0,(hb.cell (p:=⟨g,1,none⟩) h.lt).trans h.c1,(hb.cell (p:=⟨g,2,none⟩) h.lt).trans h.c2,(hb.cell (p:=⟨g,3,none⟩) h.lt).trans h.c3,(hb.cell (p:=⟨g,4,none⟩) h.lt).trans h.c4,(hb.cell (p:=⟨g,5,none⟩) h.lt).trans h.c5,Nat.lt_of_lt_of_le h.lt hb.size⟩
theorem qcy(E F:Nat)(w:World)(h2:E<=11)(h4:F<=52):
  Calls Tryz.prog 197 #[fm E F] w fun e w'=>e=.returned (qdI E F)/\Below w.heap.size w w':=by
 have a0:(E:Int)<=11:=by omega
 have a1:(F:Int)<=52:=by omega
 clear h2 h4;go_enter Tryz.func197,Tryz.ntmps197
 go_wp2;exact bodyPost_ret (v:=qdI E F) (by simp [results,Tryz.results197,go_sem]) rfl ⟨rfl,((Below.refl _ _).alloc lr _).alloc (by simp) _⟩
theorem Check(E F:Int)(w:World):
  Calls Tryz.prog 32 #[fm E F] w fun e w'=>e=.returned (.int .i64 (R3.chk E F))/\Below w.heap.size w w':=by
 by_cases h1:E<2
 ·have HV:Hid (R3.formOk E F=false):=vv (by unfold R3.formOk;rw[decide_eq_false (p:=2<=E) (by omega)];rfl);have d1:decide (E<2)=true:=decide_eq_true h1;clear h1;go_enter Tryz.func32,Tryz.ntmps32
  go_wp2;go_ret
  exact⟨q0T (R3.chk_no HV.o).symm,(Below.refl _ _).alloc lr _⟩
 have d1:decide (E<2)=false:=decide_eq_false h1;by_cases h2:11<E
 ·have HV:Hid (R3.formOk E F=false):=vv (by unfold R3.formOk;rw[decide_eq_false (p:=E<=11) (by omega)];simp);have d2:decide (11<E)=true:=decide_eq_true h2;clear h1 h2;go_enter Tryz.func32,Tryz.ntmps32
  go_wp2;go_ret
  exact⟨q0T (R3.chk_no HV.o).symm,(Below.refl _ _).alloc lr _⟩
 have d2:decide (11<E)=false:=decide_eq_false h2;by_cases h3:F<1
 ·have HV:Hid (R3.formOk E F=false):=vv (by unfold R3.formOk;rw[decide_eq_false (p:=1<=F) (by omega)];simp);have d3:decide (F<1)=true:=decide_eq_true h3;clear h1 h2 h3;go_enter Tryz.func32,Tryz.ntmps32
  go_wp2;go_ret
  exact⟨q0T (R3.chk_no HV.o).symm,(Below.refl _ _).alloc lr _⟩
 have d3:decide (F<1)=false:=decide_eq_false h3;by_cases h4:52<F
 ·have HV:Hid (R3.formOk E F=false):=vv (by unfold R3.formOk;rw[decide_eq_false (p:=F<=52) (by omega)];simp);have d4:decide (52<F)=true:=decide_eq_true h4;clear h1 h2 h3 h4;go_enter Tryz.func32,Tryz.ntmps32
  go_wp2;go_ret
  exact⟨q0T (R3.chk_no HV.o).symm,(Below.refl _ _).alloc lr _⟩
 have d4:decide (52<F)=false:=decide_eq_false h4;have HV:Hid (R3.formOk E F=true):=vv (by unfold R3.formOk;rw[decide_eq_true (p:=2<=E) (by omega),decide_eq_true (p:=E<=11) (by omega),decide_eq_true (p:=1<=F) (by omega),decide_eq_true (p:=F<=52) (by omega)];rfl);clear h1 h2 h3 h4;go_enter Tryz.func32,Tryz.ntmps32
 go_wp2;go_ret
 exact⟨q0T (R3.chk_ok HV.o).symm,(Below.refl _ _).alloc lr _⟩
theorem formOk_in{E F:Nat}(h1:2<=E)(h2:E<=11)(h3:1<=F)(h4:F<=52):R3.formOk (E:Int) (F:Int)=true:=by
 unfold R3.formOk;rw[decide_eq_true (p:=(2:Int)<=E) (by omega),decide_eq_true (p:=(E:Int)<=11) (by omega),decide_eq_true (p:=(1:Int)<=F) (by omega),decide_eq_true (p:=(F:Int)<=52) (by omega)];rfl
end Go.Proofs.YtppgcnhlpnmieaaGreatDoor.Fms
namespace Go.Proofs.YtppgcnhlpnmieaaGreatDoor.Dec
open Go Go.RowKit R5
def farB(x:Int):Bool:=decide (x < -1073741824) || decide (1073741824<x)
def qdM(s:ByteArray)(x:Int):Int:=if 65536<s.size then 4 else if qaF s x then 0 else 100
end Go.Proofs.YtppgcnhlpnmieaaGreatDoor.Dec
namespace Go.Proofs.YtppgcnhlpnmieaaGreatDoor.Nat_
open Go Go.RowKit R5
def natErr(n:Nat)(xs:List Nat):Int:=if 16384<n then 4 else if q23 n xs then 0 else 10
theorem natErr_ok{n:Nat}{xs:List Nat}(h:q23 n xs=true):natErr n xs=0:=by
 unfold natErr;have:=(R16.natOk_facts h).1;rw[if_neg (by omega),h];rfl
theorem natErr_zero(n:Nat)(xs:List Nat):(natErr n xs==0)=q23 n xs:=by
 unfold natErr;by_cases h:16384<n
 ·rw[if_pos h];unfold q23;rw[decide_eq_false (p:=n<=16384) (by omega)];rfl
 ·rw[if_neg h];cases q23 n xs<;>rfl
theorem Check(A:Option Addr)(n c:Nat)(xs:List Nat)(w:World)(hr:Rd w A n c xs):
  Calls Tryz.prog 131 #[q1u A n c] w fun e w'=>e=.returned (.int .i64 (natErr n xs))/\Below w.heap.size w w':=by
 have a1:=hr.sm;by_cases h:16384<n
 ·have HV:Hid (natErr n xs=4):=vv (by unfold natErr;rw[if_pos h]);have d1:decide ((16384:Int)<(n:Int))=true:=decide_eq_true (by omega);clear h hr;go_enter Tryz.func131,Tryz.ntmps131
  go_wp2;go_ret
  exact⟨q0T HV.o.symm,(Below.refl _ _).alloc lr _⟩
 have d1:decide ((16384:Int)<(n:Int))=false:=decide_eq_false (by omega);have a2:(n:Int)<=16384:=by omega
 rcases Nat.eq_zero_or_pos n with h0|h0
 ·subst h0;have HV:Hid (natErr 0 xs=0):=vv rfl;clear h hr;go_enter Tryz.func131,Tryz.ntmps131
  go_wp2;go_ret
  exact⟨q0T HV.o.symm,(Below.refl _ _).alloc lr _⟩
 obtain⟨m,rfl⟩:∃m,n=m+1:=⟨n-1,by omega⟩;obtain⟨b,off,rfl,a3,a0⟩:=hr.cell h0;have hx:=a0 m (by omega);have a4:(m:Int)+1<=16384:=by omega
 have d3:((m:Int)+1==0)=false:=by rw[beq_eq_false_iff_ne];omega
 have HE:Hid (natErr (m+1) xs=if nth xs m=0 then 10 else 0):=vv (by
  unfold natErr;rw[if_neg h];unfold q23;rw[decide_eq_true (p:=m+1<=16384) (by omega),decide_eq_false (p:=m+1=0) (by omega),Nat.add_sub_cancel];by_cases hz:nth xs m=0
  ·rw[if_pos hz,decide_eq_false (p:=nth xs m≠0) (by omega)];rfl
  ·rw[if_neg hz,decide_eq_true (p:=nth xs m≠0) hz];rfl)
 have d4:decide ((16384:Int)<(m:Int)+1)=false:=decide_eq_false (by omega);have d5:decide ((0:Int)<(m:Int)+1)=true:=decide_eq_true (by omega);clear h a0 hr h0 a2 d1 a1;by_cases hz:nth xs m=0
 ·have HF:Hid (natErr (m+1) xs=10):=vv (by rw[HE.o,if_pos hz]);have t1:(((nth xs m:Nat):Int)==0)=true:=by rw[hz];rfl
  clear hz;go_enter Tryz.func131,Tryz.ntmps131
  go_wp2;go_ret
  exact⟨q0T HF.o.symm,(Below.refl _ _).alloc lr _⟩
 ·have HF:Hid (natErr (m+1) xs=0):=vv (by rw[HE.o,if_neg hz]);have t1:(((nth xs m:Nat):Int)==0)=false:=by rw[beq_eq_false_iff_ne];omega
  clear hz;go_enter Tryz.func131,Tryz.ntmps131
  go_wp2;go_ret
  exact⟨q0T HF.o.symm,(Below.refl _ _).alloc lr _⟩
end Go.Proofs.YtppgcnhlpnmieaaGreatDoor.Nat_
namespace Go.Proofs.YtppgcnhlpnmieaaGreatDoor.Exa
open Go Go.RowKit R5
theorem none_(A:Option Addr)(n c:Nat)(w:World):
  Calls Tryz.prog 189 #[q1u A n c] w fun e w'=>e=.returned (.bool ((n:Int)==0))/\Below w.heap.size w w':=by
 go_enter Tryz.func189,Tryz.ntmps189
 go_wp2;go_ret
 exact⟨rfl,(Below.refl _ _).alloc lr _⟩
theorem far(x:Int)(w:World):
  Calls Tryz.prog 190 #[.int .i64 x] w fun e w'=>e=.returned (.bool (Dec.farB x))/\w=w':=by
 by_cases h1:x < -1073741824
 ·have HF:Hid (Dec.farB x=true):=vv (by unfold Dec.farB;rw[decide_eq_true h1];rfl);have d1:decide (x < -1073741824)=true:=decide_eq_true h1;clear h1;go_enter Tryz.func190,Tryz.ntmps190
  go_wp2;go_ret
  exact⟨q5w HF.o.symm,rfl⟩
 ·have HF:Hid (Dec.farB x=decide (1073741824<x)):=vv (by unfold Dec.farB;rw[decide_eq_false h1];rfl);have d1:decide (x < -1073741824)=false:=decide_eq_false h1;clear h1;go_enter Tryz.func190,Tryz.ntmps190
  go_wp2;go_ret
  exact⟨q5w HF.o.symm,rfl⟩
def exaErr(neg:Bool)(n:Nat)(xs:List Nat)(x:Int):Int:=
 if q23 n xs=false then Nat_.natErr n xs else if twoOk neg n xs x then 0 else 40
theorem exaErr_zero(neg:Bool)(n:Nat)(xs:List Nat)(x:Int):(exaErr neg n xs x==0)=twoOk neg n xs x:=by
 unfold exaErr;cases h:q23 n xs
 ·rw[if_pos rfl,Nat_.natErr_zero,h];unfold twoOk;rw[h];rfl
 ·rw[if_neg (by decide)];cases twoOk neg n xs x<;>rfl
theorem qat(A:Option Addr)(c:Nat)(w:World):
  Calls Tryz.prog 189 #[q1u A 0 c] w fun e w'=>e=.returned (.bool true)/\Below w.heap.size w w':=none_ A 0 c w
theorem q6N(A:Option Addr)(n c:Nat)(w:World)(h:0<n):
  Calls Tryz.prog 189 #[q1u A n c] w fun e w'=>e=.returned (.bool false)/\Below w.heap.size w w':=by
 have e:((n:Int)==0)=false:=by rw[beq_eq_false_iff_ne];omega
 have:=none_ A n c w;rw[e] at this;exact this
theorem Check(neg:Bool)(A:Option Addr)(n c:Nat)(xs:List Nat)(x:Int)(w:World)(hr:Rd w A n c xs):
  Calls Tryz.prog 91 #[q2V neg A n c x] w fun e w'=>e=.returned (.int .i64 (exaErr neg n xs x))/\Below w.heap.size w w':=by
 have a5:=vv fun w' (h:Below w.heap.size w w')=>Nat_.Check A n c xs w' (hr.below h rfl)
 obtain⟨w0,b0⟩:=yx (w.alloc (.cells #[.bool neg,.slice A n c,.int .i64 x] 30));have b7:Below w.heap.size w w0:=by rw[b0];exact(Below.refl _ w).alloc lr _
 have b1:DyadBox w0 w.heap.size neg A n c x:=by rw[b0];exact DyadBox.made w _ _ _ _ _ _
 have HX:=vv b1;have HB:=vv b7;have a8:=vv b0;have x1:=b1.c1;have xl:=b1.lt;clear b0 b7 b1;cases hok:q23 n xs
 ·have HE:Hid (exaErr neg n xs x=Nat_.natErr n xs):=vv (by unfold exaErr;rw[if_pos hok]);obtain⟨v,hv⟩:=yx (Nat_.natErr n xs);have c1:(v != 0)=true:=by
   have:=Nat_.natErr_zero n xs;rw[<- hv,hok] at this;rw[bne,this];rfl
  rw[<- hv] at a5 HE;clear hv hok;go_enter Tryz.func91,Tryz.ntmps91
  go_wp2_with fail
  rw[<- a8.o];refine(a5.o _ HB.o).mono ?_;rintro e w1 ⟨rfl,a0⟩;have HB:=vn HB a0;clear a0;go_wp2;go_ret
  exact⟨q0T HE.o.symm,HB.o⟩
 have HE:Hid (exaErr neg n xs x=if twoOk neg n xs x then 0 else 40):=vv (by unfold exaErr;rw[if_neg (by rw[hok];decide)]);have b8:twoOk neg n xs x=(decide (x<=1073741824) && decide (-1073741824<=x) && (if n=0 then decide (x=0) && !neg else decide (nth xs 0%2=1))):=by unfold twoOk;rw[hok];rfl
 have a6:=vv b8;rw[Nat_.natErr_ok hok] at a5;have b4:=(R16.natOk_facts hok).1;have c2:(n:Int)<=16384:=by omega
 clear b8 b4 hok;rcases Nat.eq_zero_or_pos n with h0|h0
 ·subst h0;have a4:=vv fun w=>qat A c w
  cases neg
  ·cases tx:(x==0)
   ·have HF:Hid (exaErr false 0 xs x=40):=vv (by
     have hx:x≠0:=by rw[beq_eq_false_iff_ne] at tx;exact tx
     rw[HE.o,a6.o,if_pos rfl,decide_eq_false hx];simp)
    have tx2:(x != 0)=true:=by rw[bne,tx];rfl
    clear HE a6;go_enter Tryz.func91,Tryz.ntmps91
    go_wp2_with fail
    rw[<- a8.o];refine(a5.o _ HB.o).mono ?_;rintro e w1 ⟨rfl,a0⟩;have HX:=vv (HX.o.below a0);have HB:=vn HB a0;obtain⟨x0,x1,x2,xl⟩:=HX.o;clear a0;go_wp2_with fail
    refine(a4.o _).mono ?_;rintro e w2 ⟨rfl,a1⟩;have HX:=vv (HX.o.below a1);have HB:=vn HB a1;obtain⟨x0,x1,x2,xl⟩:=HX.o;clear a1;go_wp2;go_ret
    exact⟨q0T HF.o.symm,HB.o⟩
   ·have hx:x=0:=by rw[beq_iff_eq] at tx;exact tx
    subst hx;have HF:Hid (exaErr false 0 xs 0=0):=vv (by
     rw[HE.o,a6.o,if_pos rfl];rfl)
    clear HE a6;go_enter Tryz.func91,Tryz.ntmps91
    go_wp2_with fail
    rw[<- a8.o];refine(a5.o _ HB.o).mono ?_;rintro e w1 ⟨rfl,a0⟩;have HX:=vv (HX.o.below a0);have HB:=vn HB a0;obtain⟨x0,x1,x2,xl⟩:=HX.o;clear a0;go_wp2_with fail
    refine(a4.o _).mono ?_;rintro e w2 ⟨rfl,a1⟩;have HX:=vv (HX.o.below a1);have HB:=vn HB a1;obtain⟨x0,x1,x2,xl⟩:=HX.o;clear a1;go_wp2_with fail
    refine(a4.o _).mono ?_;rintro e w3 ⟨rfl,a2⟩;have HX:=vv (HX.o.below a2);have HB:=vn HB a2;obtain⟨x0,x1,x2,xl⟩:=HX.o;clear a2;go_wp2;go_ret
    exact⟨q0T HF.o.symm,HB.o⟩
  ·have HF:Hid (exaErr true 0 xs x=40):=vv (by
    rw[HE.o,a6.o,if_pos rfl];simp)
   clear HE a6;go_enter Tryz.func91,Tryz.ntmps91
   go_wp2_with fail
   rw[<- a8.o];refine(a5.o _ HB.o).mono ?_;rintro e w1 ⟨rfl,a0⟩;have HX:=vv (HX.o.below a0);have HB:=vn HB a0;obtain⟨x0,x1,x2,xl⟩:=HX.o;clear a0;go_wp2_with fail
   refine(a4.o _).mono ?_;rintro e w2 ⟨rfl,a1⟩;have HX:=vv (HX.o.below a1);have HB:=vn HB a1;obtain⟨x0,x1,x2,xl⟩:=HX.o;clear a1;go_wp2;go_ret
   exact⟨q0T HF.o.symm,HB.o⟩
 have a4:=vv fun w=>q6N A n c w h0
 obtain⟨b,off,rfl,b9,a7⟩:=hr.cell h0;have b5:=a7 0 h0;rw[Nat.add_zero] at b5;have b2:=vv b5;have a9:=hr.nth_lt 0;have b6:=vv b9;have a3:Hid (twoOk neg n xs x=(decide (nth xs 0%2=1) && !Dec.farB x)):=vv (by
  rw[a6.o,if_neg (by omega)];unfold Dec.farB;by_cases q1:x < -1073741824
  ·rw[decide_eq_true q1,decide_eq_false (p:=-1073741824<=x) (by omega)];simp
  ·rw[decide_eq_false q1,decide_eq_true (p:=-1073741824<=x) (by omega)];by_cases q2:1073741824<x
   ·rw[decide_eq_true q2,decide_eq_false (p:=x<=1073741824) (by omega)];simp
   ·rw[decide_eq_false q2,decide_eq_true (p:=x<=1073741824) (by omega)];simp)
 have d0:decide ((0:Int)<(n:Int))=true:=decide_eq_true (by omega);clear a6 a7 hr h0 b9 b5;have b3:=vv fun w=>far x w
 obtain⟨v,hv⟩:=yx (nth xs 0);rw[<- hv] at b2 a3 a9;have c0:Hid (bits .and .u32 (v:Int) 1=((v%2:Nat):Int)):=vv (by
  have:=u32_and_nat v 1 a9 (by omega);rw[Nat.and_one_is_mod] at this;exact this)
 have c3:(0:Int)<(n:Int):=by simpa using d0
 clear hv;by_cases hp:v%2=0
 ·have HF:Hid (exaErr neg n xs x=40):=vv (by rw[HE.o,a3.o,decide_eq_false (p:=v%2=1) (by omega)];rfl);have t1:(bits .and .u32 (v:Int) 1==0)=true:=by rw[c0.o,hp];rfl
  have t2:((v:Int)%2==0)=true:=by rw[beq_iff_eq];omega
  clear hp HE a3 a9;go_enter Tryz.func91,Tryz.ntmps91
  go_wp2_with fail
  rw[<- a8.o];refine(a5.o _ HB.o).mono ?_;rintro e w1 ⟨rfl,a0⟩;have HX:=vv (HX.o.below a0);have HB:=vn HB a0;obtain⟨x0,x1,x2,xl⟩:=HX.o;clear a0;go_wp2_with fail
  refine(a4.o _).mono ?_;rintro e w2 ⟨rfl,a1⟩;have HX:=vv (HX.o.below a1);have HB:=vn HB a1;obtain⟨x0,x1,x2,xl⟩:=HX.o;clear a1;go_wp2_with fail
  refine(a4.o _).mono ?_;rintro e w3 ⟨rfl,a2⟩;have HX:=vv (HX.o.below a2);have HB:=vn HB a2;obtain⟨x0,x1,x2,xl⟩:=HX.o;clear a2;have hv:=(HB.o.cell (p:=⟨b,off,none⟩) b6.o).trans b2.o;go_wp2;go_ret
  exact⟨q0T HF.o.symm,HB.o⟩
 have t1:(bits .and .u32 (v:Int) 1==0)=false:=by rw[c0.o,beq_eq_false_iff_ne];omega
 have t2:((v:Int)%2==0)=false:=by rw[beq_eq_false_iff_ne];omega
 cases hf:Dec.farB x
 ·rw[hf] at b3;have HF:Hid (exaErr neg n xs x=0):=vv (by rw[HE.o,a3.o,hf,decide_eq_true (p:=v%2=1) (by omega)];rfl);clear hp HE a3 a9 hf;go_enter Tryz.func91,Tryz.ntmps91
  go_wp2_with fail
  rw[<- a8.o];refine(a5.o _ HB.o).mono ?_;rintro e w1 ⟨rfl,a0⟩;have HX:=vv (HX.o.below a0);have HB:=vn HB a0;obtain⟨x0,x1,x2,xl⟩:=HX.o;clear a0;go_wp2_with fail
  refine(a4.o _).mono ?_;rintro e w2 ⟨rfl,a1⟩;have HX:=vv (HX.o.below a1);have HB:=vn HB a1;obtain⟨x0,x1,x2,xl⟩:=HX.o;clear a1;go_wp2_with fail
  refine(a4.o _).mono ?_;rintro e w3 ⟨rfl,a2⟩;have HX:=vv (HX.o.below a2);have HB:=vn HB a2;obtain⟨x0,x1,x2,xl⟩:=HX.o;clear a2;have hv:=(HB.o.cell (p:=⟨b,off,none⟩) b6.o).trans b2.o;go_wp2_with fail
  refine(b3.o _).mono ?_;rintro e w' ⟨rfl,rfl⟩;go_wp2;go_ret
  exact⟨q0T HF.o.symm,HB.o⟩
 ·rw[hf] at b3;have HF:Hid (exaErr neg n xs x=40):=vv (by rw[HE.o,a3.o,hf,decide_eq_true (p:=v%2=1) (by omega)];rfl);clear hp HE a3 a9 hf;go_enter Tryz.func91,Tryz.ntmps91
  go_wp2_with fail
  rw[<- a8.o];refine(a5.o _ HB.o).mono ?_;rintro e w1 ⟨rfl,a0⟩;have HX:=vv (HX.o.below a0);have HB:=vn HB a0;obtain⟨x0,x1,x2,xl⟩:=HX.o;clear a0;go_wp2_with fail
  refine(a4.o _).mono ?_;rintro e w2 ⟨rfl,a1⟩;have HX:=vv (HX.o.below a1);have HB:=vn HB a1;obtain⟨x0,x1,x2,xl⟩:=HX.o;clear a1;go_wp2_with fail
  refine(a4.o _).mono ?_;rintro e w3 ⟨rfl,a2⟩;have HX:=vv (HX.o.below a2);have HB:=vn HB a2;obtain⟨x0,x1,x2,xl⟩:=HX.o;clear a2;have hv:=(HB.o.cell (p:=⟨b,off,none⟩) b6.o).trans b2.o;go_wp2_with fail
  refine(b3.o _).mono ?_;rintro e w' ⟨rfl,rfl⟩;go_wp2;go_ret
  exact⟨q0T HF.o.symm,HB.o⟩
end Go.Proofs.YtppgcnhlpnmieaaGreatDoor.Exa
namespace Go.Proofs.YtppgcnhlpnmieaaGreatDoor.Nat_
open Go Go.RowKit R5
theorem Rd.cap{w:World}{A:Option Addr}{n c:Nat}{xs:List Nat}(h:Rd w A n c xs):Rd w A n n xs:=⟨h.len,lr,h.sm,h.lim,h.cell⟩
theorem trimmed(A:Option Addr)(n c:Nat)(xs:List Nat)(w:World)(hr:Rd w A n c xs):
  Calls Tryz.prog 133 #[.slice A n c] w fun e w'=>∃A' m,e=.returned (q1u A' m m)/\Rd w' A' m m (toL (val xs))/\(∀a,A'=some a->A=some a)/\Below w.heap.size w w':=by
 have b3:=hr.sm;have a9:=hr.len;have b4:=hr.le;have a2:=(Below.refl w.heap.size w).alloc (o:=.cells #[.slice none 0 0] 28) lr;have a4:=NatCell.made w 28;obtain⟨w0,a5⟩:=yx (w.alloc (.cells #[.slice none 0 0] 28));rw[<- a5] at a2 a4;have a3:=hr.below a2 rfl;have b0:=vv a5;have HB:=vv a2;have b5:=vv a3;have a8:=vv hr;have c0:=a4.c0;have fz:=a4.fz;have nl:=a4.lt;clear a5 a4;go_enter Tryz.func133,Tryz.ntmps133
 go_wp2_with fail
 rw[<- b0.o];go_loop [3] (fun t=>∃k:Nat,k<=n/\t=.int .i64 k/\∀i,k<=i->nth xs i=0) (fun t=>(intOf t).toNat)
 case atStart=>exact⟨n,lr,rfl,fun i hi=>q0P xs i (by omega)⟩
 case round =>
  obtain⟨k,hk,rfl,hz⟩:=hrel;have fin:∀m,m<=n->(∀i,m<=i->nth xs i=0)->(m=0\/nth xs (m-1)≠0)->Rd w0 A m c (toL (val xs)):=by
   intro m hm h0 h1;have e:=q2n hr.lim (n:=m) h0 (h1.imp id fun h=>⟨by omega,h⟩);rw[<- e];exact a3.take hm
  have Fin:=vv fin;clear fin;rcases Nat.eq_zero_or_pos k with rfl|b1
  ·have a6:=vv (Fin.o 0 (Nat.zero_le _) hz (.inl rfl));have a1:=vv (HB.o.setCell (p:=⟨w.heap.size,0,none⟩) lr (.slice none 0 0));have a0:(w0.setCell ⟨w.heap.size,0,none⟩ (.slice none 0 0)).cell? ⟨w.heap.size,0,none⟩=some (.slice none 0 0):=q0r c0;clear hz a3 hr a2;go_wp2;refine bodyPost_ret (v:=q1u none 0 0) (by simp [results,Tryz.results133,go_sem,a0]) rfl ⟨none,0,rfl,?_,fun a h=>(by cases h),a1.o⟩;have e:toL (val xs)=[]:=List.eq_nil_of_length_eq_zero a6.o.len;rw[e];exact Rd.nil _
  ·obtain⟨m,rfl⟩:∃m,k=m+1:=⟨k-1,by omega⟩;have b2:=a8.o;obtain⟨b,off,rfl,hb,a0⟩:=a3.cell (by omega);have hx:=a0 m (by omega);clear a0;by_cases h0:nth xs m=0
   ·have h1:(((nth xs m:Nat):Int)==0)=true:=by rw[h0];rfl
    have H0:=vv h0;clear h0 a3 hr a2;go_wp2;go_round
    case rel=>exact⟨m,by omega,by go_num,fun i hi=>by
     rcases Nat.eq_or_lt_of_le hi with rfl|h
     ·exact H0.o
     ·exact hz i (by omega)⟩
    case measure=>simp [intOf]
   ·have h1:(((nth xs m:Nat):Int)==0)=false:=by rw[beq_eq_false_iff_ne];omega
    have a6:=vv (Rd.cap (Fin.o (m+1) (by omega) hz (.inr h0)));have b6:b<w.heap.size:=by
     obtain⟨b',off',e,h,_⟩:=a8.o.cell (by omega);cases e;exact h
    have a1:=vv (HB.o.setCell (p:=⟨w.heap.size,0,none⟩) lr (.slice (some ⟨b,off,none⟩) (m+1) (m+1)));have a0:(w0.setCell ⟨w.heap.size,0,none⟩ (.slice (some ⟨b,off,none⟩) (m+1) (m+1))).cell? ⟨w.heap.size,0,none⟩=some (.slice (some ⟨b,off,none⟩) (m+1) (m+1)):=q0r c0;have a7:Hid (Rd (w0.setCell ⟨w.heap.size,0,none⟩ (.slice (some ⟨b,off,none⟩) (m+1) (m+1))) (some ⟨b,off,none⟩) (m+1) (m+1) (toL (val xs))):=vv (a6.o.other _ _ _ (fun a e=>by cases e;show b≠w.heap.size;omega));clear h0 hz a3 hr a2 b2;go_wp2;exact bodyPost_ret (v:=q1u (some ⟨b,off,none⟩) (m+1) (m+1)) (by simp [results,Tryz.results133,go_sem,a0]) rfl ⟨some ⟨b,off,none⟩,m+1,rfl,a7.o,fun a h=>by simpa using h,a1.o⟩
theorem Of1(w:World):
  Calls Tryz.prog 70 #[.int .u64 1] w fun e w'=>∃A,e=.returned (q1u A 1 1)/\Rd w' A 1 1 (toL 1)/\Below w.heap.size w w':=by
 go_enter Tryz.func70,Tryz.ntmps70
 go_wp2_with fail
 obtain⟨o1,o2⟩:=R1.two_words (w.alloc (.cells #[.slice none 0 0] 28)) 1 0 (by omega) (by omega) 34;have hN:=(NatCell.made w 28).below o2;have hB:=(Below.refl w.heap.size w).alloc (o:=.cells #[.slice none 0 0] 28) lr;have HN:=vv hN;have HB:=vv (hB.trans (o2.mono (by simp)));have hs:(w.alloc (.cells #[.slice none 0 0] 28)).heap.size=w.heap.size+1:=by simp
 rw[hs] at o1;clear o2 hN hB hs;refine(trimmed (some ⟨w.heap.size+1,0,none⟩) 2 2 [1,0] _ o1).mono ?_;rintro e w1 ⟨A',m,rfl,hR,hA,a1⟩;have hm:m=1:=hR.words.symm;subst hm;have a5:Hid (Rd w1 A' 1 1 (toL 1)):=vv hR;have a2:=vv (HN.o.below a1);have a6:=vn HB a1;have c0:=a2.o.c0;have fz:=a2.o.fz;have lt:=a2.o.lt;have a3:Hid (Rd (w1.setCell ⟨w.heap.size,0,none⟩ (.slice A' 1 1)) A' 1 1 (toL 1)):=vv (a5.o.other _ _ _ (fun a e=>by have:=hA a e;cases this;simp));have a4:Hid (Below w.heap.size w (w1.setCell ⟨w.heap.size,0,none⟩ (.slice A' 1 1))):=vv (a6.o.setCell lr _);have a0:(w1.setCell ⟨w.heap.size,0,none⟩ (.slice A' 1 1)).cell? ⟨w.heap.size,0,none⟩=some (.slice A' 1 1):=q0r c0;clear a1 hR hA o1;go_wp2;exact bodyPost_ret (v:=q1u A' 1 1) (by simp [results,Tryz.results70,go_sem,a0]) rfl ⟨A',rfl,a3.o,a4.o⟩
end Go.Proofs.YtppgcnhlpnmieaaGreatDoor.Nat_
namespace Go.Proofs.YtppgcnhlpnmieaaGreatDoor.Rtp
open Go Go.RowKit R5
theorem qal{W:List Nat}{N:Nat}(hl:Lim W)(hv:val W=N)(hw:W.length=words N):W=toL N:=
 q47 hw fun i _=>by rw[q0K,<- hv,q3T hl]
theorem q3N(N:Nat):((bl N+7)/8+3)/4=words N:=by
 have h1:=A.bl_words N;have h2:N<4294967296^(((bl N+7)/8+3)/4):=by
  rw[qcj];exact Nat.lt_of_lt_of_le (A.lt_bytes N) (Nat.pow_le_pow_right (by decide) (by omega))
 have h3:=q1q h2;omega
theorem q7x(g o:Nat)(u:Int)(w:World)(h:IntAt w g o u)(sN:bl u.natAbs<=4294967296):
  Calls Tryz.prog 245 #[.pointer (some ⟨g,o,none⟩)] w fun e w'=>∃A n,e=.returned (q1u A n n)/\Rd w' A n n (toL u.natAbs)/\Fr w.heap.size A/\Below w.heap.size w w':=by
 obtain⟨w0,a4⟩:=yx (w.alloc (.cells #[.slice none 0 0] 28));have b0:Below w.heap.size w w0:=by rw[a4];exact(Below.refl _ w).alloc lr _
 have c0:NatCell w0 w.heap.size:=by rw[a4];exact NatCell.made _ _
 have b3:=vv (A.Bytes g o u w0 (h.below b0) sN);have b4:=vv (q3N u.natAbs);obtain⟨N,hN⟩:=yx (u.natAbs);rw[<- hN] at b3 b4 sN ⊢;have c8:=vv a4;have b5:=vv b0;have c9:=vv c0;have d0:=vv sN;clear h a4 b0 c0 sN hN;go_enter Tryz.func245,Tryz.ntmps245
 go_wp2_with fail
 rw[<- c8.o];refine b3.o.mono ?_;rintro e w1 ⟨B,m,rfl,hm,b6,a6⟩;have b7:=vv b6;have d1:=vv a6;have b8:=vv (c9.o.below a6);have a7:Hid (w.heap.size<w1.heap.size):=vv b8.o.lt;obtain⟨L,hL⟩:=yx ((m+3)/4);have d2:Hid (L=words N):=vv (by rw[hL,hm];exact b4.o);have e7:m<=4294967296:=by have:=d0.o;omega
 have b9:L<=1099511627776:=by omega
 have e8:(L:Int)<=1099511627776:=by omega
 have d3:((m:Int)+3)/4=(L:Int):=by omega
 have e9:(m:Int)<=4294967296:=by omega
 have f0:=A.mk L b9;have HL:=vv hL;have H1:Hid (Own (w1.alloc (.cells (madeCells #[.int .u32 0] L) 34)) w1.heap.size 34 (List.replicate L 0)):=vv (Own.made w1 L 34);have H3:Hid (Below w1.heap.size w1 (w1.alloc (.cells (madeCells #[.int .u32 0] L) 34))):=vv ((Below.refl _ w1).alloc lr _);clear b6 a6 hL hm;go_wp2;clear d3;go_loopw [17] (fun t wr=>∃(i:Nat) (W:List Nat),t=.int .i64 i/\i<=m/\Own wr w1.heap.size 34 W/\W.length=L/\val W=hi N (m-i)/\Below w1.heap.size w1 wr) (fun t _=>m-(intOf t).toNat)
 case atStart=>exact⟨0,List.replicate L 0,rfl,Nat.zero_le _,H1.o,List.length_replicate,by rw[q0d,Nat.sub_zero,q8B b7.o.lt],H3.o⟩
 case round =>
  obtain⟨i,W,rfl,d4,a0,a5,a2,hB⟩:=hrel;have a8:=vv a0;have c2:=vv a5;have HB:=vv hB;by_cases him:i<m
  ·obtain⟨k,hk⟩:=yx (m-1-i);have c3:val W=hi N (k+1):=by rw[a2];congr 1;omega
   have f1:(m:Int)-1-(i:Int)=(k:Int):=by omega
   obtain⟨b,off,e,c4,c5⟩:=b7.o.cell (by omega);subst e;have c6:=(hB.cell (p:=⟨b,off+i,none⟩) c4).trans (c5 i him);rw[<- hk] at c6;obtain⟨q,hq⟩:=yx (k/4);have f2:q<L:=by have:=HL.o;omega
   have a9:q<W.length:=by omega
   have f3:(k:Int)/4=(q:Int):=by omega
   have d5:(k:Int)<=4294967296:=by omega
   have d6:(q:Int)<(L:Int):=by omega
   obtain⟨r,hr⟩:=yx (k%4);have f4:(k:Int).tmod 4=(r:Int):=by rw[Int.tmod_eq_emod_of_nonneg (by omega)];omega
   have f5:IntKind.i64.wrap (q:Int)=(q:Int):=by rw[IntKind.wrap_i64];omega
   have f6:(0:Int)<=(q:Int):=by omega
   obtain⟨s1,s2,s3,s4⟩:=q4d a0.2 a9 (show k=4*q+r by omega) (by omega) c3;have c7:=a0.cell a9;have f7:=a0.frozen q;have f8:=a0.lt;have HS:=vv (a0.set (x:=nth W q+bt N k*256^r) a9 s2 rfl);have d7:=qa7 N k;obtain⟨C,hC⟩:=yx (bt N k);obtain⟨x,hx⟩:=yx (nth W q);rw[<- hC,<- hx] at s1 s2 s4 HS;rw[<- hC] at s3 d7 c6;rw[<- hx] at c7;have f9:IntKind.u32.wrap (C:Int)=(C:Int):=by rw[IntKind.wrap_u32];omega
   obtain⟨D,hD⟩:=yx (C*256^r);rw[<- hD] at s1 s2 s3 s4 HS;obtain⟨s,hs⟩:=yx (8*r);have g0:IntKind.i64.wrap (8*(r:Int))=(s:Int):=by rw[IntKind.wrap_i64];omega
   have g1:(0:Int)<=(s:Int):=by omega
   have d8:(s:Int)<=32:=by omega
   have g2:IntKind.u32.wrap ((C:Int)*2^s)=(D:Int):=by
    have e:(C:Int)*2^s=(D:Int):=by
     have e2:(2:Int)^s=((256^r:Nat):Int):=by rw[hs,Int.natCast_pow,Int.pow_mul];rfl
     rw[e2,hD,Int.natCast_mul]
    rw[e,IntKind.wrap_u32];omega
   have d9:Hid (hi N k=hi N (m-(i+1))):=vv (by rw[hk];congr 1;omega);have e0:=vv s4;clear c4 c5 hB a0 c3 a2 a5 hr hq hk hC hx hD hs s2 s3 s4;go_wp2;refine q01 (fun w'=>w'.cell? ⟨w1.heap.size,q,none⟩=some (.int .u32 (x:Int))) 13
    (.still 0 (.still 1 (.still 2 (.still 3 (.still 4 (.still 5 (.still 6 (.still 7 (.still 8 (.still 9 (.still 10 (.still 11 (.still 12 .done))))))))))))) (by kernel_rfl) (by kernel_rfl) (fun _ _ d _ _ h=>by cases d<;>exact h) c7 (fun hS0=>?_)
   iterate 13
    refine q02 (v:=?_) rfl (by rfl) ?_ ?_;rotate_left
    ·intro w g3;go_simp;with_reducible rfl
    simp only[Act.put,sa,sb,sc]
   refine q08 ?_;go_wp2;go_roundw
   case rel=>exact⟨i+1,W.set q (x+D),by go_num,by omega,HS.o,by rw[List.length_set];exact c2.o,e0.o.trans d9.o,(HB.o.drew).setCell lr _⟩
   case measure=>simp [intOf];omega
  ·obtain rfl:i=m:=by omega
   rw[Nat.sub_self,q6o] at a2;have g4:=vv a2;have b1:=b8.o.below hB;have c1:=b1.c0;have l1:=b1.lt;have fz1:=b1.fz;have b2:(i:Int)<=(i:Int):=Int.le_refl _;have e1:=vv (qal a0.2 a2 (by rw[a5];exact d2.o));obtain⟨w9,a3⟩:=yx (wr.setCell ⟨w.heap.size,0,none⟩ (.slice (some ⟨w1.heap.size,0,none⟩) L L));have a1:w9.cell? ⟨w.heap.size,0,none⟩=some (.slice (some ⟨w1.heap.size,0,none⟩) L L):=by rw[a3];exact q0r c1
   have e3:Hid (Rd w9 (some ⟨w1.heap.size,0,none⟩) L L (toL N)):=vv (by
    rw[<- e1.o,a3];exact(a8.o.setOther (by show w1.heap.size≠w.heap.size;have:=a7.o;omega) _).rd c2.o.symm lr b9)
   have e4:Hid (Below w.heap.size w w9):=vv (by
    rw[a3];exact(b5.o.trans ((d1.o.mono b5.o.size).trans (HB.o.mono (by have:=a7.o;omega)))).setCell lr _)
   have e5:=vv a3;have e6:=vv a1;clear a0 a2 a5 hB him d4 b2 a3 a1;go_wp2;rw[<- e5.o];have a1:=e6.o;exact bodyPost_ret (v:=q1u (some ⟨w1.heap.size,0,none⟩) L L) (by simp [results,Tryz.results245,go_sem,a1]) rfl ⟨_,_,rfl,e3.o,Fr.at_ (by show w.heap.size<=w1.heap.size;have:=a7.o;omega),e4.o⟩
end Go.Proofs.YtppgcnhlpnmieaaGreatDoor.Rtp
namespace Go.Proofs.YtppgcnhlpnmieaaGreatDoor.Lex
open Go Go.RowKit R5
end Go.Proofs.YtppgcnhlpnmieaaGreatDoor.Lex
namespace Go.Proofs.YtppgcnhlpnmieaaGreatDoor.Rtp
open Go Go.RowKit R5
theorem q3z(Ad:Option Addr)(n c N:Nat)(w:World)(hr:Rd w Ad n c (toL N))(hn:n<=1000000):
  Calls Tryz.prog 151 #[q1u Ad n c] w (q1d (N:Int) w):=by
 obtain⟨w0,a5⟩:=yx (w.alloc (.cells #[.slice Ad n c] 28));have b0:Below w.heap.size w w0:=by rw[a5];exact(Below.refl _ w).alloc lr _
 have c0:w0.cell? ⟨w.heap.size,0,none⟩=some (.slice Ad n c):=by rw[a5];simp only[World.cell?];rw[heap_alloc_new];rfl
 have l0:w.heap.size<w0.heap.size:=by rw[a5];simp
 obtain⟨m,hm⟩:=yx (4*n);have c5:m<=1099511627776:=by omega
 have g8:=A.mk8 m c5;have e7:4*(n:Int)=(m:Int):=by omega
 have g9:(m:Int)<=4000000:=by omega
 have i0:(n:Int)<=1000000:=by omega
 have c6:N<256^m:=by
  have:=q0h N;rw[hr.words,qcj,<- hm] at this;exact this
 have HM:=vv hm;have e8:=vv c6;have HR:=vv hr;have e9:=vv a5;have c7:=vv b0;have i1:=vv c0;have i2:=vv l0;have s0:w0.heap.size=w.heap.size+1:=by rw[a5];simp
 have h1:=q3s.made w0 m 5;have h3:=(Below.refl w0.heap.size w0).alloc (o:=.cells (madeCells #[.int .u8 0] m) 5) lr;rw[s0] at h1 h3;have H1:=vv h1;have H3:=vv h3;have i3:=vv s0;clear h1 h3 s0;clear hr a5 b0 hm c6;go_enter Tryz.func151,Tryz.ntmps151
 go_wp2;rw[<- e9.o];clear e7 c0 l0;go_loopw [15] (fun t wr=>∃(i:Nat) (U:List Nat),t=.int .i64 i/\i<=n/\q3s wr (w.heap.size+1) 5 U/\U.length=m/\(∀j,m-4*i<=j->j<m->nth U j=bt N (m-1-j))/\Below (w.heap.size+1) w0 wr) (fun t _=>n-(intOf t).toNat)
 case atStart=>exact⟨0,List.replicate m 0,rfl,Nat.zero_le _,H1.o,List.length_replicate,fun j h1 h2=>absurd h1 (by omega),H3.o⟩
 case round =>
  obtain⟨i,U,rfl,c8,a0,b1,b2,hB⟩:=hrel;have b3:=vv a0;have c9:=vv b1;have d0:=vv b2;have HB:=vv hB;by_cases him:i<n
  ·obtain⟨b,off,e,d1,d2⟩:=HR.o.cell (by omega);subst e;have d3:b<w.heap.size+1:=by omega
   have f0:=(hB.cell (p:=⟨b,off+i,none⟩) d3).trans ((c7.o.cell (p:=⟨b,off+i,none⟩) d1).trans (d2 i him));have d4:nth (toL N) i<4294967296:=HR.o.nth_lt i;have a1:=q2m (q1A N) i 0 (by omega);have a2:=q2m (q1A N) i 1 (by omega);have a3:=q2m (q1A N) i 2 (by omega);have a4:=q2m (q1A N) i 3 (by omega);rw[q00] at a1 a2 a3 a4;rw[Nat.pow_zero,Nat.div_one] at a1;rw[Nat.pow_one] at a2;rw[show 256^2=65536 from rfl] at a3;rw[show 256^3=16777216 from rfl] at a4;obtain⟨x,hx⟩:=yx (nth (toL N) i);obtain⟨C0,b4⟩:=yx (bt N (4*i+0));obtain⟨C1,b6⟩:=yx (bt N (4*i+1));obtain⟨C2,b7⟩:=yx (bt N (4*i+2));obtain⟨C3,b8⟩:=yx (bt N (4*i+3));rw[<- hx] at f0 d4 a1 a2 a3 a4;rw[<- b4] at a1;rw[<- b6] at a2;rw[<- b7] at a3;rw[<- b8] at a4;have v0:(x:Int)%256=(C0:Int):=by omega
   have v1:(x:Int)/256%256=(C1:Int):=by omega
   have v2:(x:Int)/65536%256=(C2:Int):=by omega
   have v3:(x:Int)/16777216=(C3:Int):=by omega
   obtain⟨a,ha⟩:=yx (m-4*i);have f5:4<=a:=by have:=HM.o;omega
   have f6:a<=m:=by omega
   obtain⟨p,hp⟩:=yx (a-4);have i4:(m:Int)-4*(i:Int)=(a:Int):=by have:=HM.o;omega
   have q1:(a:Int)-1=((p+3:Nat):Int):=by omega
   have q2:(a:Int)-2=((p+2:Nat):Int):=by omega
   have q3:(a:Int)-3=((p+1:Nat):Int):=by omega
   have q4:(a:Int)-4=(p:Int):=by omega
   obtain⟨p1,d5⟩:=yx (p+3);obtain⟨p2,d6⟩:=yx (p+2);obtain⟨p3,d7⟩:=yx (p+1);rw[<- d5] at q1;rw[<- d6] at q2;rw[<- d7] at q3;have m1:(p1:Int)<(m:Int):=by omega
   have m2:(p2:Int)<(m:Int):=by omega
   have m3:(p3:Int)<(m:Int):=by omega
   have m4:(p:Int)<(m:Int):=by omega
   obtain⟨w1,a6⟩:=yx (wr.setCell ⟨w.heap.size+1,p1,none⟩ (.int .u8 (C0:Int)));obtain⟨w2,a7⟩:=yx (w1.setCell ⟨w.heap.size+1,p2,none⟩ (.int .u8 (C1:Int)));obtain⟨w3,a8⟩:=yx (w2.setCell ⟨w.heap.size+1,p3,none⟩ (.int .u8 (C2:Int)));have o1:q3s w1 (w.heap.size+1) 5 (U.set p1 C0):=by rw[a6];exact a0.set (by omega) rfl
   have o2:q3s w2 (w.heap.size+1) 5 ((U.set p1 C0).set p2 C1):=by rw[a7];exact o1.set (by rw[List.length_set];omega) rfl
   have o3:q3s w3 (w.heap.size+1) 5 (((U.set p1 C0).set p2 C1).set p3 C2):=by rw[a8];exact o2.set (by simp only[List.length_set];omega) rfl
   have HS:=vv (o3.set (i:=p) (x:=C3) (by simp only[List.length_set];omega) rfl);have c1:=a0.cell (i:=p1) (by omega);have f1:=a0.frozen p1;have l1:=a0.lt;have c2:=o1.cell (i:=p2) (by simp only[List.length_set];omega);have f2:=o1.frozen p2;have l2:=o1.lt;have c3:=o2.cell (i:=p3) (by simp only[List.length_set];omega);have f3:=o2.frozen p3;have l3:=o2.lt;have c4:=o3.cell (i:=p) (by simp only[List.length_set];omega);have f4:=o3.frozen p;have l4:=o3.lt;have f7:Hid (Below (w.heap.size+1) w0 (w3.setCell ⟨w.heap.size+1,p,none⟩ (.int .u8 (C3:Int)))):=vv (by
    rw[a8,a7,a6];exact(((hB.setCell lr _).setCell lr _).setCell lr _).setCell lr _)
   have f8:Hid (∀j,m-4*(i+1)<=j->j<m->nth ((((U.set p1 C0).set p2 C1).set p3 C2).set p C3) j=bt N (m-1-j)):=vv (fun j h1 h2=>by
    rw[q0H _ p C3 j (by simp only[List.length_set];omega),q0H _ p3 C2 j (by simp only[List.length_set];omega),q0H _ p2 C1 j (by simp only[List.length_set];omega),q0H _ p1 C0 j (by omega)];have hm:=HM.o;by_cases e4:j=p
    ·rw[if_pos e4,b8];congr 1;omega
    rw[if_neg e4];by_cases e3:j=p3
    ·rw[if_pos e3,b7];congr 1;omega
    rw[if_neg e3];by_cases e2:j=p2
    ·rw[if_pos e2,b6];congr 1;omega
    rw[if_neg e2];by_cases e1:j=p1
    ·rw[if_pos e1,b4];congr 1;omega
    rw[if_neg e1];exact d0.o j (by omega) h2)
   obtain⟨z1,d8⟩:=yx (nth U p1);obtain⟨z2,d9⟩:=yx (nth (U.set p1 C0) p2);obtain⟨z3,e0⟩:=yx (nth ((U.set p1 C0).set p2 C1) p3);obtain⟨z4,e5⟩:=yx (nth (((U.set p1 C0).set p2 C1).set p3 C2) p);rw[<- d8] at c1;rw[<- d9] at c2;rw[<- e0] at c3;rw[<- e5] at c4;clear d8 d9 e0 e5;have f9:=vv a6;have g0:=vv a7;have g1:=vv a8;have i6:(x:Int)<=4294967295:=by omega
   have i7:(i:Int)<(n:Int):=by omega
   have i8:(i:Int)<=1000000:=by omega
   have g2:(a:Int)<=4000000:=by omega
   clear d1 d3 d2 hB a0 b2 b1 hx b4 b6 b7 b8 a1 a2 a3 a4 d4 ha hp d5 d6 d7 a6 a7 a8 o1 o2 o3 c8 him f5 f6;go_wp2_with (first|rw[<- f9.o]|rw[<- g0.o]|rw[<- g1.o])
   go_roundw
   case rel=>exact⟨i+1,_,by go_num,by omega,HS.o,by simp only[List.length_set];exact c9.o,f8.o,f7.o⟩
   case measure=>simp [intOf];omega
  ·obtain rfl:i=n:=by omega
   have g3:Hid (Bd wr (some ⟨w.heap.size+1,0,none⟩) m m N):=vv (b3.o.bd c9.o.symm lr c5 e8.o (fun j h=>d0.o j (by have:=HM.o;omega) h));have b9:Hid (Below w.heap.size w wr):=vv (c7.o.trans (hB.mono (by omega)));obtain⟨w5,a9⟩:=yx (wr.alloc (.cells #[.bool false,.slice none 0 0] 206));have b5:Below wr.heap.size wr w5:=by rw[a9];exact(Below.refl _ wr).alloc lr _
   have i5:IntAt w5 wr.heap.size 0 0:=by rw[a9];exact IntAt.zero wr _
   have g4:=vv (A.SetBytes wr.heap.size 0 0 _ m m N w5 i5 (g3.o.below b5 rfl) (by omega));have i9:=vv i5;have g5:=vv a9;have e6:=vn b9 b5;clear a0 b2 b1 hB him c8 a9 b5 i5;go_wp2_with fail
   rw[<- g5.o];refine g4.o.mono ?_;rintro e w6 ⟨rfl,hI,hF⟩;have g6:=vv hI;have g7:Hid (Below w.heap.size w w6):=vv (Fm.below e6.o hF e6.o.size b9.o.size);clear hI hF;go_wp2;go_ret
   exact⟨_,rfl,b9.o.size,g6.o,g7.o⟩
end Go.Proofs.YtppgcnhlpnmieaaGreatDoor.Rtp
