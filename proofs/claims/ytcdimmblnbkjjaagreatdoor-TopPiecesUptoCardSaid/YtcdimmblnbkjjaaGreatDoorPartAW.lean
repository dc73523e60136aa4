/- Lemmas. -/
import Derived.Test.YtcdimmblnbkjjaaGreatDoorPartAV
import Derived.Laws.AppendOwn
import Derived.Maps.AppendAt
set_option linter.all false
set_option maxHeartbeats 40000000
set_option maxRecDepth 100000
namespace Go.Proofs.YtcdimmblnbkjjaaGreatDoor
open Go Go.RowKit
theorem q6K{w:World}{base:Nat}{e:TypeId}{v:Value}{n:Nat}{U:List Nat}(h:w.ownsRow base e 1 v n (q0w U))(hl:Lim U)(hn:n<=35184372088832):
  ∃A c,v=.slice A n c/\Rd w A n c U/\Fr base A:=by
 have a0:U.length=n:=by have:=h.1;simpa [q0w] using this
 rcases h.2 with ⟨rfl,rfl⟩|⟨g,cap,cur,rfl,hb,hg,hc,hm,hs,ht⟩
 ·have:U=[]:=List.length_eq_zero_iff.1 a0;subst this;exact⟨none,0,rfl,Rd.nil _,Fr.none_ _⟩
 ·refine⟨_,cap,rfl,⟨a0,hc,hn,hl,fun _=>⟨g,0,rfl,(Array.getElem?_eq_some_iff.1 hg).1,fun j hj=>?_⟩⟩,Fr.at_ hb⟩;have e1:=q2i U (i:=j) (by omega);rw[<- ht,Nat.mul_one,List.getElem?_take,if_pos hj] at e1;simp only[World.cell?,hg,Nat.zero_add];rw[<- e1];simp
end Go.Proofs.YtcdimmblnbkjjaaGreatDoor
namespace Go.Proofs.YtcdimmblnbkjjaaGreatDoor.R1
open Go Go.RowKit
end Go.Proofs.YtcdimmblnbkjjaaGreatDoor.R1
namespace Go.Proofs.YtcdimmblnbkjjaaGreatDoor
open Go Go.RowKit
def dv(l:List UInt8):Nat:=l.foldl (fun a c=>10*a+(c.toNat-48)) 0
theorem q7o(l:List UInt8)(c:UInt8):dv (l++[c])=10*dv l+(c.toNat-48):=by simp [dv,List.foldl_append]
theorem q9Z(l:List UInt8):∀a,l.foldl (fun a c=>10*a+(c.toNat-48)) a=a*10^l.length+dv l:=by
 induction l with
 | nil=>intro a;simp [dv]
 | cons c l ih =>
  intro a;unfold dv;rw[List.foldl_cons,List.foldl_cons,ih,ih (10*0+(c.toNat-48)),List.length_cons,Nat.pow_succ]
  grind
theorem q7p(l m:List UInt8):dv (l++m)=dv l*10^m.length+dv m:=by
 unfold dv;rw[List.foldl_append,q9Z]
 rfl
def q7L(s:ByteArray):Prop:=∀k (h:k<s.size),48<=s[k].toNat/\s[k].toNat<=57
theorem q4S(s:ByteArray)(k:Nat)(h:k<s.size):s.data.toList.take (k+1)=s.data.toList.take k++[s[k]]:=by
 rw[List.take_succ_eq_append_getElem (by simpa using h)];rfl
def dvk(s:ByteArray)(k:Nat):Nat:=dv (s.data.toList.take k)
theorem q44(s:ByteArray):dvk s 0=0:=rfl
theorem q5E(s:ByteArray)(k:Nat)(h:k<s.size):dvk s (k+1)=10*dvk s k+(s[k].toNat-48):=by
 unfold dvk;rw[q4S s k h,q7o]
theorem q98(s:ByteArray)(hd:q7L s):∀k,k<=s.size->dvk s k<10^k
 | 0,_=>by simp [q44]
 | k+1,h=>by
  have:=q98 s hd k (by omega);have h2:=hd k (by omega);rw[q5E s k (by omega),Nat.pow_succ];omega
def dvm(s:ByteArray)(i j:Nat):Nat:=dv ((s.data.toList.drop i).take j)
theorem q8z(s:ByteArray)(i:Nat):dvm s i 0=0:=rfl
theorem q5D(s:ByteArray)(i j:Nat)(h:i+j<s.size):dvm s i (j+1)=10*dvm s i j+(s[i+j].toNat-48):=by
 unfold dvm;have hl:j<(s.data.toList.drop i).length:=by rw[List.length_drop];simp;omega
 rw[List.take_succ_eq_append_getElem hl,q7o,List.getElem_drop]
 rfl
theorem q7m(s:ByteArray)(hd:q7L s)(i:Nat):∀j,i+j<=s.size->dvm s i j<10^j
 | 0,_=>by simp [q8z]
 | j+1,h=>by
  have:=q7m s hd i j (by omega);have h2:=hd (i+j) (by omega);rw[q5D s i j (by omega),Nat.pow_succ];omega
theorem q7n(s:ByteArray)(i j:Nat)(h:i+j<=s.size):dvk s (i+j)=dvk s i*10^j+dvm s i j:=by
 unfold dvk dvm;have e:s.data.toList.length=s.size:=Array.length_toList;have hl:((s.data.toList.drop i).take j).length=j:=by rw[List.length_take,List.length_drop];omega
 rw[List.take_add,q7p,hl]
theorem qat{j:Nat}(h:j<=8):(10:Nat)^j<=100000000:=Nat.le_trans (Nat.pow_le_pow_right (by omega) h) (by decide)
theorem q5o{j:Nat}(h:j<=9):(10:Nat)^j<=1000000000:=Nat.le_trans (Nat.pow_le_pow_right (by omega) h) (by decide)
def tn(j:Nat):Nat:=10^j
theorem q9r(j:Nat):tn (j+1)=10*tn j:=by unfold tn;rw[Nat.pow_succ,Nat.mul_comm]
structure NatCell(w:World)(g:Nat):Prop where
 c0:w.cell? ⟨g,0,none⟩=some (.slice none 0 0)
 fz:w.frozen? ⟨g,0,none⟩=false
 lt:g<w.heap.size
theorem NatCell.made(w:World)(t:TypeId):NatCell (w.alloc (.cells #[.slice none 0 0] t)) w.heap.size:=
 ⟨by simp only[World.cell?];rw[heap_alloc_new];rfl,by simp only[World.frozen?];rw[heap_alloc_new];simp,by simp⟩
theorem NatCell.below{w w':World}{g:Nat}(h:NatCell w g)(hb:Below w.heap.size w w'):NatCell w' g:=
 ⟨(hb.cell (p:=⟨g,0,none⟩) h.lt).trans h.c0,(hb.frozen (p:=⟨g,0,none⟩) h.lt).trans h.fz,Nat.lt_of_lt_of_le h.lt hb.size⟩
theorem Rd.other{w:World}{A:Option Addr}{n c:Nat}{xs:List Nat}(h:Rd w A n c xs)(g o:Nat)(v:Value)(hf:∀a,A=some a->a.block≠g):Rd (w.setCell ⟨g,o,none⟩ v) A n c xs:=
 h.fm (Fm.set0 (g:=g) (o:=o) w v (.inl rfl)) (fun _=>hf)
end Go.Proofs.YtcdimmblnbkjjaaGreatDoor
namespace Go.Proofs.YtcdimmblnbkjjaaGreatDoor.R1
open Go Go.RowKit
end Go.Proofs.YtcdimmblnbkjjaaGreatDoor.R1
namespace Go.Proofs.YtcdimmblnbkjjaaGreatDoor.R3
open Go Go.RowKit R5
def formOk(E F:Int):Bool:=decide (2<=E) && decide (E<=11) && decide (1<=F) && decide (F<=52)
def chk(E F:Int):Int:=if formOk E F then 0 else 5
theorem chk_ok{E F:Int}(h:formOk E F=true):chk E F=0:=if_pos h
theorem chk_no{E F:Int}(h:formOk E F=false):chk E F=5:=by unfold chk;rw[h];rfl
theorem formOk_nat{E F:Int}(h:formOk E F=true):∃e f:Nat,E=e/\F=f/\2<=e/\e<=11/\1<=f/\f<=52:=by
 unfold formOk at h;simp only[Bool.and_eq_true,decide_eq_true_eq] at h;exact⟨E.toNat,F.toNat,by omega,by omega,by omega,by omega,by omega,by omega⟩
theorem Check(E F:Int)(w:World):
  Calls Tryz.prog 18 #[fm E F] w fun e w'=>e=.returned (.int .i64 (chk E F))/\Below w.heap.size w w':=by
 by_cases h1:E<2
 ·have HV:Hid (formOk E F=false):=vv (by unfold formOk;rw[decide_eq_false (p:=2<=E) (by omega)];rfl);have d1:decide (E<2)=true:=decide_eq_true h1;clear h1;go_enter Tryz.func18,Tryz.ntmps18
  go_wp2;go_ret
  exact⟨q0A (chk_no HV.o).symm,(Below.refl _ _).alloc lr _⟩
 have d1:decide (E<2)=false:=decide_eq_false h1;by_cases h2:11<E
 ·have HV:Hid (formOk E F=false):=vv (by unfold formOk;rw[decide_eq_false (p:=E<=11) (by omega)];simp);have d2:decide (11<E)=true:=decide_eq_true h2;clear h1 h2;go_enter Tryz.func18,Tryz.ntmps18
  go_wp2;go_ret
  exact⟨q0A (chk_no HV.o).symm,(Below.refl _ _).alloc lr _⟩
 have d2:decide (11<E)=false:=decide_eq_false h2;by_cases h3:F<1
 ·have HV:Hid (formOk E F=false):=vv (by unfold formOk;rw[decide_eq_false (p:=1<=F) (by omega)];simp);have d3:decide (F<1)=true:=decide_eq_true h3;clear h1 h2 h3;go_enter Tryz.func18,Tryz.ntmps18
  go_wp2;go_ret
  exact⟨q0A (chk_no HV.o).symm,(Below.refl _ _).alloc lr _⟩
 have d3:decide (F<1)=false:=decide_eq_false h3;by_cases h4:52<F
 ·have HV:Hid (formOk E F=false):=vv (by unfold formOk;rw[decide_eq_false (p:=F<=52) (by omega)];simp);have d4:decide (52<F)=true:=decide_eq_true h4;clear h1 h2 h3 h4;go_enter Tryz.func18,Tryz.ntmps18
  go_wp2;go_ret
  exact⟨q0A (chk_no HV.o).symm,(Below.refl _ _).alloc lr _⟩
 have d4:decide (52<F)=false:=decide_eq_false h4;have HV:Hid (formOk E F=true):=vv (by unfold formOk;rw[decide_eq_true (p:=2<=E) (by omega),decide_eq_true (p:=E<=11) (by omega),decide_eq_true (p:=1<=F) (by omega),decide_eq_true (p:=F<=52) (by omega)];rfl);clear h1 h2 h3 h4;go_enter Tryz.func18,Tryz.ntmps18
 go_wp2;go_ret
 exact⟨q0A (chk_ok HV.o).symm,(Below.refl _ _).alloc lr _⟩
def tw(j:Nat):Nat:=2^j
theorem tw_succ(j:Nat):tw (j+1)=tw j*2:=by unfold tw;rw[Nat.pow_succ]
theorem tw_le{j k:Nat}(h:j<=k):tw j<=tw k:=Nat.pow_le_pow_right (by omega) h
theorem tw_pos(j:Nat):0<tw j:=Nat.two_pow_pos j
structure PartsBox(w:World)(g:Nat)(neg:Bool)(x f:Nat):Prop where
 c0:w.cell? ⟨g,0,none⟩=some (.bool neg)
 c1:w.cell? ⟨g,1,none⟩=some (.int .i64 (x:Int))
 c2:w.cell? ⟨g,2,none⟩=some (.int .u64 (f:Int))
 lt:g<w.heap.size
end Go.Proofs.YtcdimmblnbkjjaaGreatDoor.R3
namespace Go.Proofs.YtcdimmblnbkjjaaGreatDoor
open Go Go.RowKit
def q45(s:ByteArray):Bool:=s.data.toList.all fun c=>decide (48<=c.toNat) && decide (c.toNat<=57)
theorem q8F(s:ByteArray)(k:Nat)(h:k<s.size):s[k]∈s.data.toList:=by
 have:s[k]=s.data.toList[k]'(by simpa using h):=rfl;rw[this];exact List.getElem_mem _
theorem q2B{s:ByteArray}:q45 s=true↔q7L s:=by
 unfold q45 q7L;rw[List.all_eq_true]
 constructor
 ·intro h k hk;have:=h _ (q8F s k hk)
  simpa using this
 ·intro h c hc;obtain⟨k,hk,e⟩:=List.getElem_of_mem hc;have a0:k<s.size:=by simpa using hk
  have:=h k a0;have e2:s[k]=c:=e;rw[e2] at this
  simpa using this
theorem q5a{s:ByteArray}{k:Nat}(hk:k<s.size)(h:¬(48<=s[k].toNat/\s[k].toNat<=57)):q45 s=false:=by
 rcases Bool.eq_false_or_eq_true (q45 s) with e|e
 ·exact absurd (q2B.1 e k hk) h
 ·exact e
def q2J(s:ByteArray)(k:Nat):Nat:=if h:k<s.size then s[k].toNat else 0
theorem q3p{s:ByteArray}{k:Nat}(h:k<s.size):q2J s k=s[k].toNat:=dif_pos h
def q0S(s:ByteArray)(x:Int):Bool:=
 decide (x<=1073741824) && decide (-1073741824<=x) && decide (s.size<=65536) &&
  (if s.size=0 then decide (x=0) else q45 s && !decide (q2J s 0=48) && !decide (q2J s (s.size-1)=48))
structure DecBox(w:World)(g:Nat)(neg:Bool)(s:ByteArray)(x:Int):Prop where
 c0:w.cell? ⟨g,0,none⟩=some (.bool neg)
 c1:w.cell? ⟨g,1,none⟩=some (.string s)
 c2:w.cell? ⟨g,2,none⟩=some (.int .i64 x)
 lt:g<w.heap.size
theorem DecBox.made(w:World)(neg:Bool)(s:ByteArray)(x:Int)(t:TypeId):DecBox (w.alloc (.cells #[.bool neg,.string s,.int .i64 x] t)) w.heap.size neg s x:=
 ⟨by simp only[World.cell?];rw[heap_alloc_new];rfl,by simp only[World.cell?];rw[heap_alloc_new];rfl,by simp only[World.cell?];rw[heap_alloc_new];rfl,by simp⟩
theorem DecBox.below{w w':World}{g:Nat}{neg:Bool}{s:ByteArray}{x:Int}(h:DecBox w g neg s x)(hb:Below w.heap.size w w'):DecBox w' g neg s x:=
 ⟨(hb.cell (p:=⟨g,0,none⟩) h.lt).trans h.c0,(hb.cell (p:=⟨g,1,none⟩) h.lt).trans h.c1,(hb.cell (p:=⟨g,2,none⟩) h.lt).trans h.c2,Nat.lt_of_lt_of_le h.lt hb.size⟩
abbrev qa5(neg:Bool)(s:ByteArray)(x:Int):Value:=.agg #[.bool neg,.string s,.int .i64 x]
end Go.Proofs.YtcdimmblnbkjjaaGreatDoor
namespace Go.Proofs.YtcdimmblnbkjjaaGreatDoor.R11
open Go Go.RowKit R5
def noTwoB(neg:Bool)(n:Nat)(x:Int):Bool:=decide (n=0) && decide (x=0) && !neg
end Go.Proofs.YtcdimmblnbkjjaaGreatDoor.R11
namespace Go.Proofs.YtcdimmblnbkjjaaGreatDoor
open Go Go.RowKit
theorem q1V{s:ByteArray}(h:0<s.size):s.toList.isEmpty=false:=by
 rw[ByteArray.toList_eq];have e:s.data.toList.length=s.size:=Array.length_toList;cases hl:s.data.toList with
 | nil=>rw[hl] at e;simp at e;omega
 | cons _ _=>rfl
end Go.Proofs.YtcdimmblnbkjjaaGreatDoor
namespace Go.Proofs.YtcdimmblnbkjjaaGreatDoor.R11
open Go Go.RowKit R5
end Go.Proofs.YtcdimmblnbkjjaaGreatDoor.R11
namespace Go.Proofs.YtcdimmblnbkjjaaGreatDoor
open Go Go.RowKit
abbrev numV(kind:Nat)(neg dneg:Bool)(s:ByteArray)(x:Int)(hneg:Bool)(A:Option Addr)(n c:Nat)(hx:Int)(p:Nat):Value:=
 .agg #[.int .u8 (kind:Int),.bool neg,.bool dneg,.string s,.int .i64 x,.bool hneg,.slice A n c,.int .i64 hx,.int .u64 (p:Int)]
structure NumBox(w:World)(g:Nat)(kind:Nat)(neg dneg:Bool)(s:ByteArray)(x:Int)(hneg:Bool)(A:Option Addr)(n c:Nat)(hx:Int)(p:Nat):Prop where
 c0:w.cell? ⟨g,0,none⟩=some (.int .u8 (kind:Int))
 c1:w.cell? ⟨g,1,none⟩=some (.bool neg)
 c2:w.cell? ⟨g,2,none⟩=some (.bool dneg)
 c3:w.cell? ⟨g,3,none⟩=some (.string s)
 c4:w.cell? ⟨g,4,none⟩=some (.int .i64 x)
 c5:w.cell? ⟨g,5,none⟩=some (.bool hneg)
 c6:w.cell? ⟨g,6,none⟩=some (.slice A n c)
 c7:w.cell? ⟨g,7,none⟩=some (.int .i64 hx)
 c8:w.cell? ⟨g,8,none⟩=some (.int .u64 (p:Int))
 lt:g<w.heap.size
theorem NumBox.made(w:World)(kind:Nat)(neg dneg:Bool)(s:ByteArray)(x:Int)(hneg:Bool)(A:Option Addr)(n c:Nat)(hx:Int)(p:Nat)(t:TypeId):
  NumBox (w.alloc (.cells #[.int .u8 (kind:Int),.bool neg,.bool dneg,.string s,.int .i64 x,.bool hneg,.slice A n c,.int .i64 hx,.int .u64 (p:Int)] t)) w.heap.size kind neg dneg s x hneg A n c hx p:=by
 constructor<;>first|(simp only[World.cell?];rw[heap_alloc_new];rfl)|simp
theorem NumBox.below{w w':World}{g kind:Nat}{neg dneg:Bool}{s:ByteArray}{x:Int}{hneg:Bool}{A:Option Addr}{n c:Nat}{hx:Int}{p:Nat}(h:NumBox w g kind neg dneg s x hneg A n c hx p)(hb:Below w.heap.size w w'):NumBox w' g kind neg dneg s x hneg A n c hx p:=
 ⟨(hb.cell (p:=⟨g,0,none⟩) h.lt).trans h.c0,(hb.cell (p:=⟨g,1,none⟩) h.lt).trans h.c1,(hb.cell (p:=⟨g,2,none⟩) h.lt).trans h.c2,(hb.cell (p:=⟨g,3,none⟩) h.lt).trans h.c3,(hb.cell (p:=⟨g,4,none⟩) h.lt).trans h.c4,(hb.cell (p:=⟨g,5,none⟩) h.lt).trans h.c5,(hb.cell (p:=⟨g,6,none⟩) h.lt).trans h.c6,(hb.cell (p:=⟨g,7,none⟩) h.lt).trans h.c7,(hb.cell (p:=⟨g,8,none⟩) h.lt).trans h.c8,Nat.lt_of_lt_of_le h.lt hb.size⟩
def q1O(neg:Bool)(s:ByteArray)(x:Int):Bool:=!neg && s.toList.isEmpty && (x==0)
def q1o(kind:Nat)(neg dneg:Bool)(s:ByteArray)(x:Int)(hneg:Bool)(n:Nat)(xs:List Nat)(hx:Int)(p:Nat):Bool:=
 if kind=1 then q0S s x && (dneg==neg) && R11.noTwoB hneg n hx && decide (p=0)
 else if kind=2 then R5.twoOk hneg n xs hx && q1O dneg s x && decide (p=0) && ((hneg==neg) || decide (n=0))
 else if kind=3 then q1O dneg s x && R11.noTwoB hneg n hx && decide (p=0)
 else if kind=4 then q1O dneg s x && R11.noTwoB hneg n hx && decide (p<=2251799813685247)
 else false
def q05(b:Bool):Int:=if b then 0 else 110
theorem q4V:q05 true=0:=rfl
theorem q4p:q05 false=110:=rfl
end Go.Proofs.YtcdimmblnbkjjaaGreatDoor
namespace Go.Proofs.YtcdimmblnbkjjaaGreatDoor.R11
open Go Go.RowKit R5
end Go.Proofs.YtcdimmblnbkjjaaGreatDoor.R11
namespace Go.Proofs.YtcdimmblnbkjjaaGreatDoor.R1
open Go Go.RowKit
theorem two_words(w:World)(x y:Nat)(hx:x<4294967296)(hy:y<4294967296)(t:TypeId):Rd (w.alloc (.cells #[.int .u32 (x:Int),.int .u32 (y:Int)] t)) (some ⟨w.heap.size,0,none⟩) 2 2 [x,y]/\Below w.heap.size w (w.alloc (.cells #[.int .u32 (x:Int),.int .u32 (y:Int)] t)):=
 ⟨(Own.lit (t:=t) [x,y] (q0B.2 ⟨hx,q0B.2 ⟨hy,q11⟩⟩) (by simp [q0w])).rd rfl lr (by omega),(Below.refl _ _).alloc lr _⟩
end Go.Proofs.YtcdimmblnbkjjaaGreatDoor.R1
namespace Go.Proofs.YtcdimmblnbkjjaaGreatDoor.R11
open Go Go.RowKit R5
theorem q69{s:ByteArray}(hd:q7L s)(m:Nat)(h:s.size<=8*m):words (dvk s s.size)<=m:=by
 refine q17 (Nat.lt_of_lt_of_le (q98 s hd s.size lr) ?_);have h2:(10:Nat)^s.size<=10^(8*m):=Nat.pow_le_pow_right (by omega) h;rw[Nat.pow_mul] at h2;exact Nat.le_trans h2 (Nat.pow_le_pow_left (by decide) m)
theorem digs_bound{s:ByteArray}(hd:q7L s)(h:s.size<=65536):words (dvk s s.size)<=16384:=q69 hd 16384 (by omega)
theorem dvk_pos(s:ByteArray)(hd:q7L s)(h0:0<s.size)(hf:q2J s 0≠48):0<dvk s s.size:=by
 have h1:=q5E s 0 h0;rw[q44] at h1;rw[q3p h0] at hf;have h2:=(hd 0 h0).1;have h3:=q7n s 1 (s.size-1) (by omega);have e:1+(s.size-1)=s.size:=by omega
 rw[e] at h3;have h4:dvk s 1≠0:=by rw[h1];omega
 have h5:0<dvk s 1*10^(s.size-1):=Nat.mul_pos (by omega) (Nat.pow_pos (by omega));omega
end Go.Proofs.YtcdimmblnbkjjaaGreatDoor.R11
namespace Go.Proofs.YtcdimmblnbkjjaaGreatDoor
open Go Go.RowKit R5
def q3l(E F:Nat)(neg:Bool)(s:ByteArray)(x:Int)(mode:Nat):Nat × Nat:=
 q0k E F neg neg mode (dvk s s.size*t10 x) (t10 (-x))
def q23(E F:Int)(kind:Nat)(neg dneg:Bool)(s:ByteArray)(x:Int)(hneg:Bool)(n:Nat)(xs:List Nat)(hx:Int)(p mode:Nat):Nat × Nat × Nat:=
 if R3.formOk E F=false then(0,0,5)
 else if q1o kind neg dneg s x hneg n xs hx p=false then(0,0,110)
 else if 4<mode then(0,0,7)
 else if kind=1 then((q3l E.toNat F.toNat dneg s x mode).1,(q3l E.toNat F.toNat dneg s x mode).2,0)
 else if kind=2 then((q0k E.toNat F.toNat hneg neg mode (val xs*p2 hx) (p2 (-hx))).1,(q0k E.toNat F.toNat hneg neg mode (val xs*p2 hx) (p2 (-hx))).2,0)
 else if kind=3 then(sgb E.toNat F.toNat neg+(2^E.toNat-1)*2^F.toNat,0,0)
 else if 2^(F.toNat-1)<=p then(0,0,115)
 else(sgb E.toNat F.toNat neg+((2^E.toNat-1)*2^F.toNat+(2^(F.toNat-1)+p)),0,0)
def q49(o:Nat × Nat × Nat)(w:World)(e:Ending)(w':World):Prop:=e=.returned (.tuple #[.int .u64 (o.1:Int),.int .u8 (o.2.1:Int),.int .i64 (o.2.2:Int)])/\Below w.heap.size w w'
theorem q4Q(E F:Nat)(below neg:Bool)(mode b:Nat):q0k E F below neg mode 0 b=q0k E F false neg mode 0 b:=by unfold q0k;rw[if_pos rfl,if_pos rfl]
end Go.Proofs.YtcdimmblnbkjjaaGreatDoor
namespace Go.Proofs.YtcdimmblnbkjjaaGreatDoor.R16
open Go Go.RowKit R5
theorem numOk_dec{neg dneg:Bool}{s:ByteArray}{x:Int}{hneg:Bool}{n:Nat}{xs:List Nat}{hx:Int}{p:Nat}(h:q1o 1 neg dneg s x hneg n xs hx p=true):q0S s x=true:=by
 unfold q1o at h;rw[if_pos rfl] at h;simp only[Bool.and_eq_true] at h;exact h.1.1.1
theorem numOk_hex{neg dneg:Bool}{s:ByteArray}{x:Int}{hneg:Bool}{n:Nat}{xs:List Nat}{hx:Int}{p:Nat}(h:q1o 2 neg dneg s x hneg n xs hx p=true):twoOk hneg n xs hx=true:=by
 unfold q1o at h;rw[if_neg (by omega),if_pos rfl] at h;simp only[Bool.and_eq_true] at h;exact h.1.1.1
theorem numOk_kind{kind:Nat}{neg dneg:Bool}{s:ByteArray}{x:Int}{hneg:Bool}{n:Nat}{xs:List Nat}{hx:Int}{p:Nat}(h:q1o kind neg dneg s x hneg n xs hx p=true):kind=1\/kind=2\/kind=3\/kind=4:=by
 unfold q1o at h;split at h
 ·omega
 ·split at h
  ·omega
  ·split at h
   ·omega
   ·split at h
    ·omega
    ·cases h
theorem decMay_facts{s:ByteArray}{x:Int}(h:q0S s x=true):-1073741824<=x/\x<=1073741824/\s.size<=65536/\(s.size=0\/(0<s.size/\q7L s/\q2J s 0≠48)):=by
 unfold q0S at h;simp only[Bool.and_eq_true,decide_eq_true_eq] at h;obtain⟨⟨⟨a,b⟩,c⟩,d⟩:=h;refine⟨b,a,c,?_⟩;by_cases h0:s.size=0
 ·exact .inl h0
 ·rw[if_neg h0] at d;simp only[Bool.and_eq_true,Bool.not_eq_true',decide_eq_false_iff_not] at d;exact .inr ⟨by omega,q2B.1 d.1.1,d.1.2⟩
theorem twoOk_facts{neg:Bool}{n:Nat}{xs:List Nat}{x:Int}(h:twoOk neg n xs x=true):q2a n xs=true /\ -1073741824<=x/\x<=1073741824:=by
 unfold twoOk at h;simp only[Bool.and_eq_true,decide_eq_true_eq] at h;exact⟨h.1.1.1,h.1.2,h.1.1.2⟩
theorem bytes_none{s:ByteArray}(h:s.size=0):s=⟨#[]⟩:=by
 have h1:s.data.size=0:=h;have h2:=Array.eq_empty_of_size_eq_zero h1;cases s;simp_all
theorem natOk_facts{n:Nat}{xs:List Nat}(h:q2a n xs=true):n<=16384/\(n=0\/nth xs (n-1)≠0):=by
 unfold q2a at h;simp only[Bool.and_eq_true,Bool.or_eq_true,decide_eq_true_eq] at h;exact h
end Go.Proofs.YtcdimmblnbkjjaaGreatDoor.R16
namespace Go.Proofs.YtcdimmblnbkjjaaGreatDoor.R1
open Go Go.RowKit
end Go.Proofs.YtcdimmblnbkjjaaGreatDoor.R1
namespace Go.Proofs.YtcdimmblnbkjjaaGreatDoor.Fms
open Go Go.RowKit R5
theorem q9K:∀n:Fin 64,bits .andNot .u64 18446744073709551615 (IntKind.u64.wrap (18446744073709551615*2^n.val))=((R3.tw n.val-1:Nat):Int):=by decide +kernel
theorem qbr(n:Nat)(w:World)(hn:n<=63):
  Calls Tryz.prog 58 #[.int .i64 (n:Int)] w fun e w'=>e=.returned (.int .u64 ((R3.tw n-1:Nat):Int))/\w=w':=by
 have HM:=vv (q9K ⟨n,by omega⟩);go_enter Tryz.func58,Tryz.ntmps58
 go_wp2;go_ret
 exact⟨q0A HM.o,rfl⟩
theorem qac{b p y:Nat}(hb:b<2^p)(hy:y%2^p=2^p-1):b &&& y=b:=by
 have h1:b &&& y<=b:=Nat.and_le_left;have h2:=Nat.and_mod_two_pow (a:=b) (b:=y) (n:=p);rw[Nat.mod_eq_of_lt (by omega),Nat.mod_eq_of_lt hb,hy,Nat.and_two_pow_sub_one_eq_mod,Nat.mod_eq_of_lt hb] at h2;exact h2
theorem q8o{p m:Nat}(hp:p<=64)(hm:m+1<=2^(64-p)):(18446744073709551615-m*2^p)%2^p=2^p-1:=by
 have e:(18446744073709551616:Nat)=2^(64-p)*2^p:=by rw[<- Nat.pow_add,show 64-p+p=64 by omega]
 obtain⟨q,hq⟩:∃q,2^(64-p)=m+1+q:=⟨2^(64-p)-(m+1),by omega⟩;have a0:=Nat.two_pow_pos p;rw[hq] at e;have e2:(m+1+q)*2^p=m*2^p+(q*2^p+2^p):=by rw[Nat.add_mul,Nat.add_mul,Nat.one_mul];omega
 rw[e2] at e;have e3:18446744073709551615-m*2^p=2^p-1+q*2^p:=by omega
 rw[e3,Nat.add_mul_mod_self_right,Nat.mod_eq_of_lt (by omega)]
theorem put(p sz b v:Nat)(w:World)(hs:sz<=63)(hp:p+sz<=64)(h1:1<=sz)(hb:b<2^p)(hv:v<2^sz):
  Calls Tryz.prog 99 #[.agg #[.int .i64 (p:Int),.int .i64 (sz:Int)],.int .u64 (b:Int),.int .u64 (v:Int)] w fun e w'=>e=.returned (.int .u64 ((b+v*2^p:Nat):Int))/\Below w.heap.size w w':=by
 have HM:=vv fun w=>qbr sz w hs
 obtain⟨M,hM⟩:=yx (R3.tw sz-1);rw[<- hM] at HM;have a9:M+1=2^sz:=by have:=R3.tw_pos sz;unfold R3.tw at *;omega
 have b0:2^sz<=2^(64-p):=Nat.pow_le_pow_right (by omega) (by omega);have e64:(18446744073709551616:Nat)=2^(64-p)*2^p:=by rw[<- Nat.pow_add,show 64-p+p=64 by omega]
 have a5:(M+1)*2^p<=18446744073709551616:=by rw[e64];exact Nat.mul_le_mul_right _ (by omega)
 have a6:(v+1)*2^p<=18446744073709551616:=by rw[e64];exact Nat.mul_le_mul_right _ (by omega)
 rw[Nat.add_mul,Nat.one_mul] at a5 a6;have a1:=Nat.two_pow_pos p;have b1:=vv (q2f M p (by omega));have b2:=vv (q2f v p (by omega));have HA:Hid (bits .andNot .u64 (b:Int) ((M:Int)*2^p)=(b:Int)):=vv (by
  have e:(M:Int)*2^p=((M*2^p:Nat):Int):=by rw[Int.natCast_mul,Int.natCast_pow];rfl
  rw[e,u64_andNot_nat _ _ (by omega) (by omega),qac hb (q8o (by omega) (by omega))])
 have HO:Hid (bits .or .u64 (b:Int) ((v*2^p:Nat):Int)=((b+v*2^p:Nat):Int)):=vv (by
  rw[u64_or_nat _ _ (by omega) (by omega),Nat.or_comm,Nat.mul_comm v,<- Nat.two_pow_add_eq_or_of_lt hb,Nat.add_comm])
 have b3:(p:Int)<=63:=by omega
 have a2:=(Below.refl w.heap.size w).alloc (o:=.cells #[.int .i64 (p:Int),.int .i64 (sz:Int)] 151) lr;obtain⟨w1,a0⟩:=yx (w.alloc (.cells #[.int .i64 (p:Int),.int .i64 (sz:Int)] 151));have k0:w1.cell? ⟨w.heap.size,0,none⟩=some (.int .i64 (p:Int)):=by rw[a0];simp only[World.cell?];rw[heap_alloc_new];rfl
 have k1:w1.cell? ⟨w.heap.size,1,none⟩=some (.int .i64 (sz:Int)):=by rw[a0];simp only[World.cell?];rw[heap_alloc_new];rfl
 have kl:w.heap.size<w1.heap.size:=by rw[a0];simp
 have a3:=vv k0;have a4:=vv k1;rw[<- a0] at a2;have HB:=vv a2;have HW:=vv a0;clear hs hp h1 hb hv hM a9 b0 e64 a5 a6 a1 a2 a0 k0 k1;go_enter Tryz.func99,Tryz.ntmps99
 go_wp2_with fail
 rw[<- HW.o];refine q01 (fun w'=>w'.cell? ⟨w.heap.size,0,none⟩=some (.int .i64 (p:Int))/\w'.cell? ⟨w.heap.size,1,none⟩=some (.int .i64 (sz:Int))) 8
  (.still 0 (.still 1 (.still 2 (.still 4 (.still 5 (.one 3 (.still 6 (.still 7 .done)))))))) (by kernel_rfl) (by kernel_rfl) (fun _ _ d _ _ h=>by cases d<;>exact h) ⟨a3.o,a4.o⟩ (fun hS0=>?_)
 iterate 5
  refine q00 (v:=?_) rfl (by rfl) ?_ ?_;rotate_left
  ·intro w a7;go_simp;with_reducible rfl
  simp only[Act.put,sa,sb,sc]
 refine q06 rfl (by rfl) (fun K hK=>?_);go_simp;refine(HM.o _).mono ?_;rintro e w' ⟨rfl,rfl⟩;go_wp2_with fail
 refine hK.out _ _ ⟨a3.o,a4.o⟩ (fun a8=>?_);clear hK
 iterate 1
  refine q00 (v:=?_) rfl (by rfl) ?_ ?_;rotate_left
  ·intro w a7;go_simp;with_reducible rfl
  simp only[Act.put,sa,sb,sc]
 rw[b1.o]
 iterate 1
  refine q00 (v:=?_) rfl (by rfl) ?_ ?_;rotate_left
  ·intro w a7;go_simp;with_reducible rfl
  simp only[Act.put,sa,sb,sc]
 rw[HA.o];refine q0d ?_;have k0:=a3.o;have k1:=a4.o;go_wp2;go_ret
 exact⟨q0A (by rw[b2.o,HO.o]),q04 HB.o⟩
abbrev qbT(E F:Int):Value:=.agg #[.int .i64 0,.int .i64 F,.int .i64 F,.int .i64 E,.int .i64 (F+E),.int .i64 1]
structure LayBox(w:World)(g:Nat)(E F:Int):Prop where
 c0:w.cell? ⟨g,0,none⟩=some (.int .i64 0)
 c1:w.cell? ⟨g,1,none⟩=some (.int .i64 F)
 c2:w.cell? ⟨g,2,none⟩=some (.int .i64 F)
 c3:w.cell? ⟨g,3,none⟩=some (.int .i64 E)
 c4:w.cell? ⟨g,4,none⟩=some (.int .i64 (F+E))
 c5:w.cell? ⟨g,5,none⟩=some (.int .i64 1)
 lt:g<w.heap.size
theorem LayBox.made(w:World)(E F:Int)(t:TypeId):LayBox (w.alloc (.cells #[.int .i64 0,.int .i64 F,.int .i64 F,.int .i64 E,.int .i64 (F+E),.int .i64 1] t)) w.heap.size E F:=by
 constructor<;>first|(simp only[World.cell?];rw[heap_alloc_new];rfl)|simp
theorem LayBox.below{w w':World}{g:Nat}{E F:Int}(h:LayBox w g E F)(hb:Below w.heap.size w w'):LayBox w' g E F:=
 ⟨(hb.cell (p:=⟨g,0,none⟩) h.lt).trans h.c0,(hb.cell (p:=⟨g,1,none⟩) h.lt).trans h.c1,(hb.cell (p:=⟨g,2,none⟩) h.lt).trans h.c2,(hb.cell (p:=⟨g,3,none⟩) h.lt).trans h.c3,(hb.cell (p:=⟨g,4,none⟩) h.lt).trans h.c4,(hb.cell (p:=⟨g,5,none⟩) h.lt).trans h.c5,Nat.lt_of_lt_of_le h.lt hb.size⟩
theorem qb0(E F:Nat)(w:World)(h2:E<=11)(h4:F<=52):
  Calls Tryz.prog 98 #[fm E F] w fun e w'=>e=.returned (qbT E F)/\Below w.heap.size w w':=by
 have a0:(E:Int)<=11:=by omega
 have a1:(F:Int)<=52:=by omega
 clear h2 h4;go_enter Tryz.func98,Tryz.ntmps98
 go_wp2;exact bodyPost_ret (v:=qbT E F) (by simp [results,Tryz.results98,go_sem]) rfl ⟨rfl,((Below.refl _ _).alloc lr _).alloc (by simp) _⟩
theorem qbV(E F x f:Nat)(neg:Bool)(w:World)(h1:2<=E)(h2:E<=11)(h3:1<=F)(h4:F<=52)(hx:x<2^E)(hf:f<2^F):
  Calls Tryz.prog 59 #[fm E F,.bool neg,.int .u64 (x:Int),.int .u64 (f:Int)] w fun e w'=>e=.returned (.int .u64 ((sgb E F neg+(x*2^F+f):Nat):Int))/\Below w.heap.size w w':=by
 have HL:=vv fun w=>qb0 E F w h2 h4
 have a7:=vv fun w=>put 0 F 0 f w (by omega) (by omega) (by omega) (Nat.two_pow_pos 0) hf
 have a8:=vv fun w=>put F E f x w (by omega) (by omega) (by omega) hf hx
 have hb:x*2^F+f<2^(F+E):=by
  have:(x+1)*2^F<=2^E*2^F:=Nat.mul_le_mul_right _ hx;rw[Nat.pow_add,Nat.mul_comm (2^F)];rw[Nat.add_mul,Nat.one_mul] at this;omega
 have a4:=fun w=>put (F+E) 1 (x*2^F+f) 1 w (by omega) (by omega) (by omega) hb (by omega)
 obtain⟨V,hV⟩:=yx (x*2^F+f);have e1:f+x*2^F=V:=by rw[hV,Nat.add_comm]
 have e0:0+f*2^0=f:=by omega
 have ec:((F+E:Nat):Int)=(F:Int)+(E:Int):=by omega
 obtain⟨W,hW⟩:=yx (V+1*2^(F+E));simp only[e0] at a7;simp only[e1] at a8;simp only[<- hV,<- hW,ec] at a4;have a4:=vv a4;rw[<- hV];have a3:Hid (sgb E F neg+V=if neg then W else V):=vv (by unfold sgb;cases neg<;>simp [hW];rw[Nat.add_comm E F,Nat.add_comm]);obtain⟨w0,a5⟩:=yx (w.alloc (.cells #[.int .i64 (E:Int),.int .i64 (F:Int)] 23));have a9:Below w.heap.size w w0:=by rw[a5];exact(Below.refl _ w).alloc lr _
 have HB:=vv a9;have b3:=vv a5;clear h1 h2 h3 h4 hx hf hb hV e1 e0 ec hW a5 a9;go_enter Tryz.func59,Tryz.ntmps59
 go_wp2_with fail
 rw[<- b3.o];refine(HL.o _).mono ?_;rintro e w1 ⟨rfl,b0⟩;have HB:=vn HB b0;clear b0;go_wp2_with fail
 have o2:=(Below.refl w1.heap.size w1).alloc (o:=.cells #[.int .i64 0,.int .i64 (F:Int),.int .i64 (F:Int),.int .i64 (E:Int),.int .i64 ((F:Int)+(E:Int)),.int .i64 1] 152) lr;have hL:=LayBox.made w1 (E:Int) (F:Int) 152;obtain⟨w2,b1⟩:=yx (w1.alloc (.cells #[.int .i64 0,.int .i64 (F:Int),.int .i64 (F:Int),.int .i64 (E:Int),.int .i64 ((F:Int)+(E:Int)),.int .i64 1] 152));rw[<- b1] at o2 hL ⊢;have a0:=vv hL;have HB:=vn HB o2;clear o2 hL b1;refine q01 (fun w'=>w'.cell? ⟨w1.heap.size,0,none⟩=some (.int .i64 0)/\w'.cell? ⟨w1.heap.size,1,none⟩=some (.int .i64 (F:Int))/\w'.cell? ⟨w1.heap.size,2,none⟩=some (.int .i64 (F:Int))/\w'.cell? ⟨w1.heap.size,3,none⟩=some (.int .i64 (E:Int))) 8
  (.still 0 (.still 1 (.still 2 (.still 3 (.still 4 (.still 6 (.one 5 (.one 7 .done)))))))) (by kernel_rfl) (by kernel_rfl) (fun _ _ d _ _ h=>by cases d<;>exact h) ⟨a0.o.c0,a0.o.c1,a0.o.c2,a0.o.c3⟩ (fun hS0=>?_)
 iterate 6
  refine q00 (v:=?_) rfl (by rfl) ?_ ?_;rotate_left
  ·intro w b4;go_simp;with_reducible rfl
  simp only[Act.put,sa,sb,sc]
 refine q06 rfl (by rfl) (fun K hK=>?_);go_simp;refine(a7.o _).mono ?_;rintro e w3 ⟨rfl,a1⟩;have a1:Below w2.heap.size w2 w3:=⟨a1.os,a1.tape,a1.output,a1.size,a1.block⟩;have a0:=vv (a0.o.below a1);have HB:=vn HB a1;clear a1;go_wp2_with fail
 refine hK.out _ _ ⟨a0.o.c0,a0.o.c1,a0.o.c2,a0.o.c3⟩ (fun a2=>?_);clear hK;refine q06 rfl (by rfl) (fun K hK=>?_);go_simp;refine(a8.o _).mono ?_;rintro e w4 ⟨rfl,a6⟩;have a0:=vv (a0.o.below a6);have HB:=vn HB a6;clear a6;go_wp2_with fail
 refine hK.out _ _ ⟨a0.o.c0,a0.o.c1,a0.o.c2,a0.o.c3⟩ (fun a2=>?_);clear hK;refine q0d ?_;clear a2 hS0;have c4:=a0.o.c4;have c5:=a0.o.c5;have cl:=a0.o.lt;cases neg
 ·go_wp2;go_ret
  exact⟨q0A (by rw[a3.o];rfl),HB.o⟩
 ·go_wp2_with fail
  refine(a4.o _).mono ?_;rintro e w5 ⟨rfl,b2⟩;have HB:=vn HB b2;clear b2;go_wp2;go_ret
  exact⟨q0A (by rw[a3.o];rfl),HB.o⟩
theorem Check(E F:Int)(w:World):
  Calls Tryz.prog 24 #[fm E F] w fun e w'=>e=.returned (.int .i64 (R3.chk E F))/\Below w.heap.size w w':=by
 by_cases h1:E<2
 ·have HV:Hid (R3.formOk E F=false):=vv (by unfold R3.formOk;rw[decide_eq_false (p:=2<=E) (by omega)];rfl);have d1:decide (E<2)=true:=decide_eq_true h1;clear h1;go_enter Tryz.func24,Tryz.ntmps24
  go_wp2;go_ret
  exact⟨q0A (R3.chk_no HV.o).symm,(Below.refl _ _).alloc lr _⟩
 have d1:decide (E<2)=false:=decide_eq_false h1;by_cases h2:11<E
 ·have HV:Hid (R3.formOk E F=false):=vv (by unfold R3.formOk;rw[decide_eq_false (p:=E<=11) (by omega)];simp);have d2:decide (11<E)=true:=decide_eq_true h2;clear h1 h2;go_enter Tryz.func24,Tryz.ntmps24
  go_wp2;go_ret
  exact⟨q0A (R3.chk_no HV.o).symm,(Below.refl _ _).alloc lr _⟩
 have d2:decide (11<E)=false:=decide_eq_false h2;by_cases h3:F<1
 ·have HV:Hid (R3.formOk E F=false):=vv (by unfold R3.formOk;rw[decide_eq_false (p:=1<=F) (by omega)];simp);have d3:decide (F<1)=true:=decide_eq_true h3;clear h1 h2 h3;go_enter Tryz.func24,Tryz.ntmps24
  go_wp2;go_ret
  exact⟨q0A (R3.chk_no HV.o).symm,(Below.refl _ _).alloc lr _⟩
 have d3:decide (F<1)=false:=decide_eq_false h3;by_cases h4:52<F
 ·have HV:Hid (R3.formOk E F=false):=vv (by unfold R3.formOk;rw[decide_eq_false (p:=F<=52) (by omega)];simp);have d4:decide (52<F)=true:=decide_eq_true h4;clear h1 h2 h3 h4;go_enter Tryz.func24,Tryz.ntmps24
  go_wp2;go_ret
  exact⟨q0A (R3.chk_no HV.o).symm,(Below.refl _ _).alloc lr _⟩
 have d4:decide (52<F)=false:=decide_eq_false h4;have HV:Hid (R3.formOk E F=true):=vv (by unfold R3.formOk;rw[decide_eq_true (p:=2<=E) (by omega),decide_eq_true (p:=E<=11) (by omega),decide_eq_true (p:=1<=F) (by omega),decide_eq_true (p:=F<=52) (by omega)];rfl);clear h1 h2 h3 h4;go_enter Tryz.func24,Tryz.ntmps24
 go_wp2;go_ret
 exact⟨q0A (R3.chk_ok HV.o).symm,(Below.refl _ _).alloc lr _⟩
theorem formOk_in{E F:Nat}(h1:2<=E)(h2:E<=11)(h3:1<=F)(h4:F<=52):R3.formOk (E:Int) (F:Int)=true:=by
 unfold R3.formOk;rw[decide_eq_true (p:=(2:Int)<=E) (by omega),decide_eq_true (p:=(E:Int)<=11) (by omega),decide_eq_true (p:=(1:Int)<=F) (by omega),decide_eq_true (p:=(F:Int)<=52) (by omega)];rfl
theorem qch(g E F:Nat)(w:World)(h2:E<=11)(hf:FmAt w g E F):
  Calls Tryz.prog 57 #[.pointer (some ⟨g,0,none⟩)] w fun e w'=>e=.returned (.tuple #[.int .u64 ((R3.tw E-1:Nat):Int),.int .u64 0])/\w=w':=by
 have HM:=vv fun w=>qbr E w (by omega)
 obtain⟨M,hM⟩:=yx (R3.tw E-1);rw[<- hM] at HM ⊢;have f0:=hf.c0;have fl:=hf.lt;clear hM h2 hf;go_enter Tryz.func57,Tryz.ntmps57
 go_wp2_with fail
 refine(HM.o _).mono ?_;rintro e w' ⟨rfl,rfl⟩;go_wp2;go_ret2
 exact⟨rfl,rfl⟩
theorem qbt(g E F:Nat)(neg:Bool)(w:World)(h1:2<=E)(h2:E<=11)(h3:1<=F)(h4:F<=52)(hf:FmAt w g E F):
  Calls Tryz.prog 56 #[fm E F,.bool neg,.func (.func 57) #[] #[.pointer (some ⟨g,0,none⟩)]] w fun e w'=>e=.returned (.tuple #[.int .u64 ((sgb E F neg+((2^E-1)*2^F):Nat):Int),.int .i64 0])/\Below w.heap.size w w':=by
 have a5:=vv fun w=>Check (E:Int) (F:Int) w
 rw[R3.chk_ok (formOk_in h1 h2 h3 h4)] at a5;have HI:=vv fun w (hf:FmAt w g E F)=>qch g E F w h2 hf
 obtain⟨M,hM⟩:=yx (R3.tw E-1);have HJ:=vv fun w=>qbV E F M 0 neg w h1 h2 h3 h4 (by have:=R3.tw_pos E;unfold R3.tw at *;omega) (Nat.two_pow_pos _)
 have e:M*2^F+0=(2^E-1)*2^F:=by rw[hM];rfl
 rw[e] at HJ;rw[<- hM] at HI;obtain⟨O,hO⟩:=yx (sgb E F neg+(2^E-1)*2^F);rw[<- hO] at HJ ⊢;have a1:=(Below.refl w.heap.size w).alloc (o:=.cells #[.int .i64 (E:Int),.int .i64 (F:Int)] 23) lr;have a0:=FmAt.made w (E:Int) (F:Int) 23;obtain⟨w0,a3⟩:=yx (w.alloc (.cells #[.int .i64 (E:Int),.int .i64 (F:Int)] 23));rw[<- a3] at a1 a0;have a4:=vv (hf.below a1);have HF:=vv a0;have HB:=vv a1;have a7:=vv a3;have f0:=a0.c0;have f1:=a0.c1;have fl:=a0.lt;clear hM hO hf a3 a1 a0 e h1 h2 h3 h4;go_enter Tryz.func56,Tryz.ntmps56
 go_wp2_with fail
 rw[<- a7.o];refine(a5.o _).mono ?_;rintro e w1 ⟨rfl,a2⟩;have a4:=vv (a4.o.below a2);have HF:=vv (HF.o.below a2);have HB:=vn HB a2;obtain⟨f0,f1,fl⟩:=HF.o;clear a2;go_wp2_with fail
 refine(HI.o _ a4.o).mono ?_;rintro e w' ⟨rfl,rfl⟩;go_wp2_with fail
 refine(HJ.o _).mono ?_;rintro e w2 ⟨rfl,a6⟩;have HB:=vn HB a6;clear a6;go_wp2;go_ret2
 exact⟨rfl,HB.o⟩
theorem Inf(E F:Nat)(neg:Bool)(w:World)(h1:2<=E)(h2:E<=11)(h3:1<=F)(h4:F<=52):
  Calls Tryz.prog 28 #[fm E F,.bool neg] w fun e w'=>e=.returned (.tuple #[.int .u64 ((sgb E F neg+((2^E-1)*2^F):Nat):Int),.int .i64 0])/\Below w.heap.size w w':=by
 have HK:=vv fun w' (hf:FmAt w' w.heap.size E F)=>qbt w.heap.size E F neg w' h1 h2 h3 h4 hf
 obtain⟨O,hO⟩:=yx (sgb E F neg+(2^E-1)*2^F);rw[<- hO] at HK ⊢;clear hO h1 h2 h3 h4;go_enter Tryz.func28,Tryz.ntmps28
 go_wp2_with fail
 refine(HK.o _ (FmAt.made w _ _ _)).mono ?_;rintro e w1 ⟨rfl,a0⟩;have HB:Hid (Below w.heap.size w w1):=vv (((Below.refl _ w).alloc lr _).trans (a0.mono (by simp)));clear a0;go_wp2;go_ret2
 exact⟨rfl,HB.o⟩
theorem NaN(E G p:Nat)(neg:Bool)(w:World)(h1:2<=E)(h2:E<=11)(h4:G<=51)(hp:p<R3.tw G):
  Calls Tryz.prog 29 #[fm E ((G:Int)+1),.bool neg,.int .u64 (p:Int)] w fun e w'=>e=.returned (.tuple #[.int .u64 ((sgb E (G+1) neg+((2^E-1)*2^(G+1)+(2^G+p)):Nat):Int),.int .i64 0])/\Below w.heap.size w w':=by
 have ecast:((G+1:Nat):Int)=(G:Int)+1:=by omega
 have a3:=formOk_in (F:=G+1) h1 h2 (by omega) (by omega);rw[ecast] at a3;have a8:=vv fun w=>Check (E:Int) ((G:Int)+1) w
 rw[R3.chk_ok a3] at a8;have HM:=vv fun w=>qbr E w (by omega)
 obtain⟨M,hM⟩:=yx (R3.tw E-1);rw[<- hM] at HM;obtain⟨Q,hQ⟩:∃Q:Nat,Q=R3.tw G:=⟨_,rfl⟩;have a4:Q<=4611686018427387904:=by rw[hQ];exact Nat.le_trans (R3.tw_le (j:=G) (k:=62) (by omega)) (by decide)
 have b0:Q*2=2^(G+1):=by rw[hQ,Nat.pow_succ];rfl
 rw[<- hQ] at hp;have HJ:=fun w=>qbV E (G+1) M (Q+p) neg w h1 h2 (by omega) (by omega) (by have:=R3.tw_pos E;unfold R3.tw at *;omega) (by omega)
 have e:M*2^(G+1)+(Q+p)=(2^E-1)*2^(G+1)+(2^G+p):=by rw[hM,hQ];rfl
 simp only[e,ecast] at HJ;obtain⟨O,hO⟩:=yx (sgb E (G+1) neg+((2^E-1)*2^(G+1)+(2^G+p)));simp only[<- hO] at HJ;have HJ:=vv HJ;rw[<- hO];have a9:Hid (IntKind.u64.wrap ((2:Int)^G)=(Q:Int)):=vv (by
  have e:((2:Int)^G)=(Q:Int):=by rw[hQ];unfold R3.tw;rw[Int.natCast_pow];rfl
  rw[e,IntKind.wrap_u64];omega)
 have dq:decide (IntKind.u64.wrap ((2:Int)^G)<=(p:Int))=false:=decide_eq_false (by rw[a9.o];omega);have b1:Hid (bits .or .u64 (Q:Int) (p:Int)=((Q+p:Nat):Int)):=vv (by
  rw[u64_or_nat _ _ (by omega) (by omega)];have h:=Nat.two_pow_add_eq_or_of_lt (i:=G) (b:=p) (by rw[hQ] at hp;exact hp) 1;rw[Nat.mul_one] at h;have e2:2^G=Q:=hQ.symm;rw[e2] at h;rw[<- h])
 have b4:(G:Int)<=51:=by omega
 have a5:=(Below.refl w.heap.size w).alloc (o:=.cells #[.int .i64 (E:Int),.int .i64 ((G:Int)+1)] 23) lr;have a1:=FmAt.made w (E:Int) ((G:Int)+1) 23;obtain⟨w0,a6⟩:=yx (w.alloc (.cells #[.int .i64 (E:Int),.int .i64 ((G:Int)+1)] 23));rw[<- a6] at a5 a1;have HF:=vv a1;have HB:=vv a5;have b2:=vv a6;have f0:=a1.c0;have f1:=a1.c1;have fl:=a1.lt;clear hM hO a6 a5 a1 e h1 h2 h4 hQ a4 b0 hp ecast a3;go_enter Tryz.func29,Tryz.ntmps29
 go_wp2_with fail
 rw[<- b2.o];refine(a8.o _).mono ?_;rintro e w1 ⟨rfl,a7⟩;have HF:=vv (HF.o.below a7);have HB:=vn HB a7;obtain⟨f0,f1,fl⟩:=HF.o;clear a7;go_wp2_with fail
 rw[a9.o];clear f0 f1 fl;refine q01 (fun w'=>w'.cell? ⟨w.heap.size,0,none⟩=some (.int .i64 (E:Int))/\w'.cell? ⟨w.heap.size,1,none⟩=some (.int .i64 ((G:Int)+1))) 9
  (.still 0 (.still 1 (.still 2 (.still 3 (.still 5 (.still 6 (.still 7 (.one 4 (.one 8 .done))))))))) (by kernel_rfl) (by kernel_rfl) (fun _ _ d _ _ h=>by cases d<;>exact h) ⟨HF.o.c0,HF.o.c1⟩ (fun hS0=>?_)
 iterate 6
  refine q00 (v:=?_) rfl (by rfl) ?_ ?_;rotate_left
  ·intro w b3;go_simp;with_reducible rfl
  simp only[Act.put,sa,sb,sc]
 iterate 1
  refine q00 (v:=?_) rfl (by rfl) ?_ ?_;rotate_left
  ·intro w b3;go_simp;with_reducible rfl
  simp only[Act.put,sa,sb,sc]
 rw[b1.o];refine q06 rfl (by rfl) (fun K hK=>?_);go_simp;refine(HM.o _).mono ?_;rintro e w' ⟨rfl,rfl⟩;go_wp2_with fail
 refine hK.out _ _ ⟨HF.o.c0,HF.o.c1⟩ (fun a2=>?_);clear hK;refine q06 rfl (by rfl) (fun K hK=>?_);go_simp;refine(HJ.o _).mono ?_;rintro e w2 ⟨rfl,a0⟩;have a0:Below w1.heap.size w1 w2:=⟨a0.os,a0.tape,a0.output,a0.size,a0.block⟩;have HF:=vv (HF.o.below a0);have HB:=vn HB a0;clear a0;go_wp2_with fail
 refine hK.out _ _ ⟨HF.o.c0,HF.o.c1⟩ (fun a2=>?_);clear hK;refine q0d ?_;go_wp2;go_ret2
 exact⟨rfl,HB.o⟩
end Go.Proofs.YtcdimmblnbkjjaaGreatDoor.Fms
namespace Go.Proofs.YtcdimmblnbkjjaaGreatDoor.Dec
open Go Go.RowKit R5
theorem q7O{c:Nat}(h1:48<=c)(h2:c<=57):decide (9<((c:Int)-48)%256)=false:=decide_eq_false (by omega)
theorem q7N{c:Nat}(h:c<256)(h1:¬(48<=c/\c<=57)):decide (9<((c:Int)-48)%256)=true:=decide_eq_true (by omega)
theorem digits(s:ByteArray)(w:World)(hsz:s.size<=65536):
  Calls Tryz.prog 83 #[.string s] w fun e w'=>e=.returned (.bool (q45 s))/\w=w':=by
 have a2:(s.size:Int)<=65536:=by omega
 clear hsz;go_enter Tryz.func83,Tryz.ntmps83
 go_wp2;go_loop [6] (fun t=>∃k:Nat,k<=s.size/\t=.int .i64 k/\(∀j (h:j<s.size),j<k->48<=s[j].toNat/\s[j].toNat<=57)) (fun t=>s.size-(intOf t).toNat)
 case atStart=>exact⟨0,Nat.zero_le _,rfl,fun j _ h=>absurd h (by omega)⟩
 case round =>
  obtain⟨k,hk,rfl,a0⟩:=hrel;have HA:=vv a0;clear a0;by_cases hks:k<s.size
  ·by_cases hd:48<=s[k].toNat/\s[k].toNat<=57
   ·have HD:=vv hd;have d:=q7O hd.1 hd.2;clear hd;go_wp2;go_round
    case rel =>
     refine⟨k+1,by omega,by go_num,fun j h hj=>?_⟩;rcases(by omega:j<k\/j=k) with h|rfl
     ·exact HA.o j _ h
     ·exact HD.o
    case measure=>simp [intOf];omega
   ·have HF:=vv (q5a hks hd);have d:=q7N (UInt8.toNat_lt _) hd;clear hd;go_wp2;go_ret
    exact⟨q3y HF.o.symm,rfl⟩
  ·have a1:k=s.size:=by omega
   subst a1;have HT:Hid (q45 s=true):=vv (q2B.2 (fun j h=>HA.o j h h));clear hk hks;go_wp2;go_ret
   exact⟨q3y HT.o.symm,rfl⟩
def farB(x:Int):Bool:=decide (x < -1073741824) || decide (1073741824<x)
theorem far(x:Int)(w:World):
  Calls Tryz.prog 84 #[.int .i64 x] w fun e w'=>e=.returned (.bool (farB x))/\w=w':=by
 by_cases h1:x < -1073741824
 ·have HF:Hid (farB x=true):=vv (by unfold farB;rw[decide_eq_true h1];rfl);have d1:decide (x < -1073741824)=true:=decide_eq_true h1;clear h1;go_enter Tryz.func84,Tryz.ntmps84
  go_wp2;go_ret
  exact⟨q3y HF.o.symm,rfl⟩
 ·have HF:Hid (farB x=decide (1073741824<x)):=vv (by unfold farB;rw[decide_eq_false h1];rfl);have d1:decide (x < -1073741824)=false:=decide_eq_false h1;clear h1;go_enter Tryz.func84,Tryz.ntmps84
  go_wp2;go_ret
  exact⟨q3y HF.o.symm,rfl⟩
def decErr(s:ByteArray)(x:Int):Int:=if 65536<s.size then 4 else if q0S s x then 0 else 100
theorem decErr_zero(s:ByteArray)(x:Int):(decErr s x==0)=q0S s x:=by
 unfold decErr;by_cases h:65536<s.size
 ·rw[if_pos h];unfold q0S;rw[decide_eq_false (p:=s.size<=65536) (by omega)];simp
 ·rw[if_neg h];cases q0S s x<;>rfl
theorem q4E{s:ByteArray}{x:Int}(h:s.size<=65536)(hd:q0S s x=false):decErr s x=100:=by
 unfold decErr;rw[if_neg (by omega),hd];rfl
theorem q3N{s:ByteArray}{x:Int}(h:s.size<=65536)(hd:q0S s x=true):decErr s x=0:=by
 unfold decErr;rw[if_neg (by omega),hd];rfl
theorem q6a{s:ByteArray}{x:Int}(h:s.size<=65536)(h0:0<s.size):q0S s x=(q45 s && !decide (q2J s 0=48) && !decide (q2J s (s.size-1)=48) && !farB x):=by
 unfold q0S farB;rw[decide_eq_true h,if_neg (by omega)];by_cases h1:x < -1073741824
 ·rw[decide_eq_true h1,decide_eq_false (p:=-1073741824<=x) (by omega)];simp
 ·rw[decide_eq_false h1,decide_eq_true (p:=-1073741824<=x) (by omega)];by_cases h2:1073741824<x
  ·rw[decide_eq_true h2,decide_eq_false (p:=x<=1073741824) (by omega)];simp
  ·rw[decide_eq_false h2,decide_eq_true (p:=x<=1073741824) (by omega)];simp
theorem q6l(neg:Bool)(s:ByteArray)(x:Int)(w:World)(h:65536<s.size)(hmax:(s.size:Int)<=4611686018427387904):
  Calls Tryz.prog 45 #[qa5 neg s x] w fun e w'=>e=.returned (.int .i64 (decErr s x))/\Below w.heap.size w w':=by
 have HV:Hid (decErr s x=4):=vv (by unfold decErr;rw[if_pos h]);have d1:decide ((65536:Int)<(s.size:Int))=true:=decide_eq_true (by omega);clear h;go_enter Tryz.func45,Tryz.ntmps45
 go_wp2;go_ret
 exact⟨q0A HV.o.symm,(Below.refl _ _).alloc lr _⟩
theorem q6k(neg:Bool)(x:Int)(w:World):
  Calls Tryz.prog 45 #[qa5 neg ⟨#[]⟩ x] w fun e w'=>e=.returned (.int .i64 (decErr ⟨#[]⟩ x))/\Below w.heap.size w w':=by
 have hV:q0S ⟨#[]⟩ x=(x==0):=by
  unfold q0S;by_cases h:x=0
  ·subst h;rfl
  ·have e:(x==0)=false:=by rw[beq_eq_false_iff_ne];exact h
   rw[e,if_pos (by rfl),decide_eq_false h];simp
 cases t:(x==0)
 ·rw[t] at hV;have HV:=vv (q4E (s:=⟨#[]⟩) (x:=x) (by decide) hV);clear hV;go_enter Tryz.func45,Tryz.ntmps45
  go_wp2;go_ret
  exact⟨q0A HV.o.symm,(Below.refl _ _).alloc lr _⟩
 ·rw[t] at hV;have HV:=vv (q3N (s:=⟨#[]⟩) (x:=x) (by decide) hV);clear hV;go_enter Tryz.func45,Tryz.ntmps45
  go_wp2;go_ret
  exact⟨q0A HV.o.symm,(Below.refl _ _).alloc lr _⟩
theorem q6j(neg:Bool)(s:ByteArray)(x:Int)(w:World)(h:s.size<=65536)(h0:0<s.size):
  Calls Tryz.prog 45 #[qa5 neg s x] w fun e w'=>e=.returned (.int .i64 (decErr s x))/\Below w.heap.size w w':=by
 have hV:=q6a (x:=x) h h0;have d1:decide ((65536:Int)<(s.size:Int))=false:=decide_eq_false (by omega);have d2:((s.size:Int)==0)=false:=by rw[beq_eq_false_iff_ne];omega
 have a8:(s.size:Int)<=65536:=by omega
 have a0:=vv fun w=>digits s w h
 have a3:=vv fun(hd:q0S s x=false)=>q4E h hd
 have a5:=vv fun(hd:q0S s x=true)=>q3N h hd
 have a6:=(Below.refl w.heap.size w).alloc (o:=.cells #[.bool neg,.string s,.int .i64 x] 25) lr;have a1:=DecBox.made w neg s x 25;obtain⟨w0,a7⟩:=yx (w.alloc (.cells #[.bool neg,.string s,.int .i64 x] 25));rw[<- a7] at a6 a1;have HB:=vv a6;have a2:=vv a7;have k1:=a1.c1;have k2:=a1.c2;have kl:=a1.lt;have a9:s.size-1<s.size:=by omega
 rw[q3p h0,q3p a9] at hV;have HV:=vv hV;clear a7 a6 a1 h hV;cases hdg:q45 s
 ·rw[hdg] at a0;have HE:=vv (a3.o (by rw[HV.o,hdg];rfl));clear hdg;go_enter Tryz.func45,Tryz.ntmps45
  go_wp2_with fail
  rw[<- a2.o];go_wp2_with fail
  refine(a0.o _).mono ?_;rintro e w' ⟨rfl,rfl⟩;go_wp2;go_ret
  exact⟨q0A HE.o.symm,HB.o⟩
 rw[hdg] at a0;by_cases e0:s[0].toNat=48
 ·have HE:=vv (a3.o (by rw[HV.o,decide_eq_true e0];simp));clear hdg;go_enter Tryz.func45,Tryz.ntmps45
  go_wp2_with fail
  rw[<- a2.o];go_wp2_with fail
  refine(a0.o _).mono ?_;rintro e w' ⟨rfl,rfl⟩;go_wp2;go_ret
  exact⟨q0A HE.o.symm,HB.o⟩
 have t0:((s[0].toNat:Int)==48)=false:=by rw[beq_eq_false_iff_ne];omega
 by_cases e1:s[s.size-1].toNat=48
 ·have HE:=vv (a3.o (by rw[HV.o,decide_eq_true e1];simp));have t1:((s[s.size-1].toNat:Int)==48)=true:=by rw[e1];rfl
  clear hdg e0 e1;go_enter Tryz.func45,Tryz.ntmps45
  go_wp2_with fail
  rw[<- a2.o];go_wp2_with fail
  refine(a0.o _).mono ?_;rintro e w' ⟨rfl,rfl⟩;go_wp2;go_ret
  exact⟨q0A HE.o.symm,HB.o⟩
 have t1:((s[s.size-1].toNat:Int)==48)=false:=by rw[beq_eq_false_iff_ne];omega
 have a4:=vv fun w=>far x w
 cases hf:farB x
 ·rw[hf] at a4;have HE:=vv (a5.o (by rw[HV.o,hdg,hf,decide_eq_false e0,decide_eq_false e1];rfl));clear hdg hf e0 e1;go_enter Tryz.func45,Tryz.ntmps45
  go_wp2_with fail
  rw[<- a2.o];go_wp2_with fail
  refine(a0.o _).mono ?_;rintro e w' ⟨rfl,rfl⟩;go_wp2_with fail
  refine(a4.o _).mono ?_;rintro e w' ⟨rfl,rfl⟩;go_wp2;go_ret
  exact⟨q0A HE.o.symm,HB.o⟩
 ·rw[hf] at a4;have HE:=vv (a3.o (by rw[HV.o,hf];simp));clear hdg hf e0 e1;go_enter Tryz.func45,Tryz.ntmps45
  go_wp2_with fail
  rw[<- a2.o];go_wp2_with fail
  refine(a0.o _).mono ?_;rintro e w' ⟨rfl,rfl⟩;go_wp2_with fail
  refine(a4.o _).mono ?_;rintro e w' ⟨rfl,rfl⟩;go_wp2;go_ret
  exact⟨q0A HE.o.symm,HB.o⟩
theorem Check(neg:Bool)(s:ByteArray)(x:Int)(w:World)(hmax:(s.size:Int)<=4611686018427387904):
  Calls Tryz.prog 45 #[qa5 neg s x] w fun e w'=>e=.returned (.int .i64 (decErr s x))/\Below w.heap.size w w':=by
 by_cases h:s.size<=65536
 ·by_cases h0:0<s.size
  ·exact q6j neg s x w h h0
  ·have e:s=⟨#[]⟩:=R16.bytes_none (by omega);rw[e];exact q6k neg x w
 ·exact q6l neg s x w (by omega) hmax
end Go.Proofs.YtcdimmblnbkjjaaGreatDoor.Dec
namespace Go.Proofs.YtcdimmblnbkjjaaGreatDoor.Nat_
open Go Go.RowKit R5
def natErr(n:Nat)(xs:List Nat):Int:=if 16384<n then 4 else if q2a n xs then 0 else 10
theorem natErr_ok{n:Nat}{xs:List Nat}(h:q2a n xs=true):natErr n xs=0:=by
 unfold natErr;have:=(R16.natOk_facts h).1;rw[if_neg (by omega),h];rfl
theorem natErr_zero(n:Nat)(xs:List Nat):(natErr n xs==0)=q2a n xs:=by
 unfold natErr;by_cases h:16384<n
 ·rw[if_pos h];unfold q2a;rw[decide_eq_false (p:=n<=16384) (by omega)];rfl
 ·rw[if_neg h];cases q2a n xs<;>rfl
theorem Check(A:Option Addr)(n c:Nat)(xs:List Nat)(w:World)(hr:Rd w A n c xs):
  Calls Tryz.prog 85 #[q4b A n c] w fun e w'=>e=.returned (.int .i64 (natErr n xs))/\Below w.heap.size w w':=by
 have a1:=hr.sm;by_cases h:16384<n
 ·have HV:Hid (natErr n xs=4):=vv (by unfold natErr;rw[if_pos h]);have d1:decide ((16384:Int)<(n:Int))=true:=decide_eq_true (by omega);clear h hr;go_enter Tryz.func85,Tryz.ntmps85
  go_wp2;go_ret
  exact⟨q0A HV.o.symm,(Below.refl _ _).alloc lr _⟩
 have d1:decide ((16384:Int)<(n:Int))=false:=decide_eq_false (by omega);have a2:(n:Int)<=16384:=by omega
 rcases Nat.eq_zero_or_pos n with h0|h0
 ·subst h0;have HV:Hid (natErr 0 xs=0):=vv rfl;clear h hr;go_enter Tryz.func85,Tryz.ntmps85
  go_wp2;go_ret
  exact⟨q0A HV.o.symm,(Below.refl _ _).alloc lr _⟩
 obtain⟨m,rfl⟩:∃m,n=m+1:=⟨n-1,by omega⟩;obtain⟨b,off,rfl,a3,a0⟩:=hr.cell h0;have hx:=a0 m (by omega);have a4:(m:Int)+1<=16384:=by omega
 have d3:((m:Int)+1==0)=false:=by rw[beq_eq_false_iff_ne];omega
 have HE:Hid (natErr (m+1) xs=if nth xs m=0 then 10 else 0):=vv (by
  unfold natErr;rw[if_neg h];unfold q2a;rw[decide_eq_true (p:=m+1<=16384) (by omega),decide_eq_false (p:=m+1=0) (by omega),Nat.add_sub_cancel];by_cases hz:nth xs m=0
  ·rw[if_pos hz,decide_eq_false (p:=nth xs m≠0) (by omega)];rfl
  ·rw[if_neg hz,decide_eq_true (p:=nth xs m≠0) hz];rfl)
 have d4:decide ((16384:Int)<(m:Int)+1)=false:=decide_eq_false (by omega);have d5:decide ((0:Int)<(m:Int)+1)=true:=decide_eq_true (by omega);clear h a0 hr h0 a2 d1 a1;by_cases hz:nth xs m=0
 ·have HF:Hid (natErr (m+1) xs=10):=vv (by rw[HE.o,if_pos hz]);have t1:(((nth xs m:Nat):Int)==0)=true:=by rw[hz];rfl
  clear hz;go_enter Tryz.func85,Tryz.ntmps85
  go_wp2;go_ret
  exact⟨q0A HF.o.symm,(Below.refl _ _).alloc lr _⟩
 ·have HF:Hid (natErr (m+1) xs=0):=vv (by rw[HE.o,if_neg hz]);have t1:(((nth xs m:Nat):Int)==0)=false:=by rw[beq_eq_false_iff_ne];omega
  clear hz;go_enter Tryz.func85,Tryz.ntmps85
  go_wp2;go_ret
  exact⟨q0A HF.o.symm,(Below.refl _ _).alloc lr _⟩
end Go.Proofs.YtcdimmblnbkjjaaGreatDoor.Nat_
namespace Go.Proofs.YtcdimmblnbkjjaaGreatDoor.Exa
open Go Go.RowKit R5
theorem none_(A:Option Addr)(n c:Nat)(w:World):
  Calls Tryz.prog 86 #[q4b A n c] w fun e w'=>e=.returned (.bool ((n:Int)==0))/\Below w.heap.size w w':=by
 go_enter Tryz.func86,Tryz.ntmps86
 go_wp2;go_ret
 exact⟨rfl,(Below.refl _ _).alloc lr _⟩
theorem far(x:Int)(w:World):
  Calls Tryz.prog 87 #[.int .i64 x] w fun e w'=>e=.returned (.bool (Dec.farB x))/\w=w':=by
 by_cases h1:x < -1073741824
 ·have HF:Hid (Dec.farB x=true):=vv (by unfold Dec.farB;rw[decide_eq_true h1];rfl);have d1:decide (x < -1073741824)=true:=decide_eq_true h1;clear h1;go_enter Tryz.func87,Tryz.ntmps87
  go_wp2;go_ret
  exact⟨q3y HF.o.symm,rfl⟩
 ·have HF:Hid (Dec.farB x=decide (1073741824<x)):=vv (by unfold Dec.farB;rw[decide_eq_false h1];rfl);have d1:decide (x < -1073741824)=false:=decide_eq_false h1;clear h1;go_enter Tryz.func87,Tryz.ntmps87
  go_wp2;go_ret
  exact⟨q3y HF.o.symm,rfl⟩
def exaErr(neg:Bool)(n:Nat)(xs:List Nat)(x:Int):Int:=
 if q2a n xs=false then Nat_.natErr n xs else if twoOk neg n xs x then 0 else 40
theorem exaErr_zero(neg:Bool)(n:Nat)(xs:List Nat)(x:Int):(exaErr neg n xs x==0)=twoOk neg n xs x:=by
 unfold exaErr;cases h:q2a n xs
 ·rw[if_pos rfl,Nat_.natErr_zero,h];unfold twoOk;rw[h];rfl
 ·rw[if_neg (by decide)];cases twoOk neg n xs x<;>rfl
theorem qaS(A:Option Addr)(c:Nat)(w:World):
  Calls Tryz.prog 86 #[q4b A 0 c] w fun e w'=>e=.returned (.bool true)/\Below w.heap.size w w':=none_ A 0 c w
theorem q8c(A:Option Addr)(n c:Nat)(w:World)(h:0<n):
  Calls Tryz.prog 86 #[q4b A n c] w fun e w'=>e=.returned (.bool false)/\Below w.heap.size w w':=by
 have e:((n:Int)==0)=false:=by rw[beq_eq_false_iff_ne];omega
 have:=none_ A n c w;rw[e] at this;exact this
theorem Check(neg:Bool)(A:Option Addr)(n c:Nat)(xs:List Nat)(x:Int)(w:World)(hr:Rd w A n c xs):
  Calls Tryz.prog 46 #[q7l neg A n c x] w fun e w'=>e=.returned (.int .i64 (exaErr neg n xs x))/\Below w.heap.size w w':=by
 have a5:=vv fun w' (h:Below w.heap.size w w')=>Nat_.Check A n c xs w' (hr.below h rfl)
 obtain⟨w0,b0⟩:=yx (w.alloc (.cells #[.bool neg,.slice A n c,.int .i64 x] 30));have b7:Below w.heap.size w w0:=by rw[b0];exact(Below.refl _ w).alloc lr _
 have b1:DyadBox w0 w.heap.size neg A n c x:=by rw[b0];exact DyadBox.made w _ _ _ _ _ _
 have HX:=vv b1;have HB:=vv b7;have a8:=vv b0;have x1:=b1.c1;have xl:=b1.lt;clear b0 b7 b1;cases hok:q2a n xs
 ·have HE:Hid (exaErr neg n xs x=Nat_.natErr n xs):=vv (by unfold exaErr;rw[if_pos hok]);obtain⟨v,hv⟩:=yx (Nat_.natErr n xs);have c1:(v != 0)=true:=by
   have:=Nat_.natErr_zero n xs;rw[<- hv,hok] at this;rw[bne,this];rfl
  rw[<- hv] at a5 HE;clear hv hok;go_enter Tryz.func46,Tryz.ntmps46
  go_wp2_with fail
  rw[<- a8.o];refine(a5.o _ HB.o).mono ?_;rintro e w1 ⟨rfl,a0⟩;have HB:=vn HB a0;clear a0;go_wp2;go_ret
  exact⟨q0A HE.o.symm,HB.o⟩
 have HE:Hid (exaErr neg n xs x=if twoOk neg n xs x then 0 else 40):=vv (by unfold exaErr;rw[if_neg (by rw[hok];decide)]);have b8:twoOk neg n xs x=(decide (x<=1073741824) && decide (-1073741824<=x) && (if n=0 then decide (x=0) && !neg else decide (nth xs 0%2=1))):=by unfold twoOk;rw[hok];rfl
 have a6:=vv b8;rw[Nat_.natErr_ok hok] at a5;have b4:=(R16.natOk_facts hok).1;have c2:(n:Int)<=16384:=by omega
 clear b8 b4 hok;rcases Nat.eq_zero_or_pos n with h0|h0
 ·subst h0;have a4:=vv fun w=>qaS A c w
  cases neg
  ·cases tx:(x==0)
   ·have HF:Hid (exaErr false 0 xs x=40):=vv (by
     have hx:x≠0:=by rw[beq_eq_false_iff_ne] at tx;exact tx
     rw[HE.o,a6.o,if_pos rfl,decide_eq_false hx];simp)
    have tx2:(x != 0)=true:=by rw[bne,tx];rfl
    clear HE a6;go_enter Tryz.func46,Tryz.ntmps46
    go_wp2_with fail
    rw[<- a8.o];refine(a5.o _ HB.o).mono ?_;rintro e w1 ⟨rfl,a0⟩;have HX:=vv (HX.o.below a0);have HB:=vn HB a0;obtain⟨x0,x1,x2,xl⟩:=HX.o;clear a0;go_wp2_with fail
    refine(a4.o _).mono ?_;rintro e w2 ⟨rfl,a1⟩;have HX:=vv (HX.o.below a1);have HB:=vn HB a1;obtain⟨x0,x1,x2,xl⟩:=HX.o;clear a1;go_wp2;go_ret
    exact⟨q0A HF.o.symm,HB.o⟩
   ·have hx:x=0:=by rw[beq_iff_eq] at tx;exact tx
    subst hx;have HF:Hid (exaErr false 0 xs 0=0):=vv (by
     rw[HE.o,a6.o,if_pos rfl];rfl)
    clear HE a6;go_enter Tryz.func46,Tryz.ntmps46
    go_wp2_with fail
    rw[<- a8.o];refine(a5.o _ HB.o).mono ?_;rintro e w1 ⟨rfl,a0⟩;have HX:=vv (HX.o.below a0);have HB:=vn HB a0;obtain⟨x0,x1,x2,xl⟩:=HX.o;clear a0;go_wp2_with fail
    refine(a4.o _).mono ?_;rintro e w2 ⟨rfl,a1⟩;have HX:=vv (HX.o.below a1);have HB:=vn HB a1;obtain⟨x0,x1,x2,xl⟩:=HX.o;clear a1;go_wp2_with fail
    refine(a4.o _).mono ?_;rintro e w3 ⟨rfl,a2⟩;have HX:=vv (HX.o.below a2);have HB:=vn HB a2;obtain⟨x0,x1,x2,xl⟩:=HX.o;clear a2;go_wp2;go_ret
    exact⟨q0A HF.o.symm,HB.o⟩
  ·have HF:Hid (exaErr true 0 xs x=40):=vv (by
    rw[HE.o,a6.o,if_pos rfl];simp)
   clear HE a6;go_enter Tryz.func46,Tryz.ntmps46
   go_wp2_with fail
   rw[<- a8.o];refine(a5.o _ HB.o).mono ?_;rintro e w1 ⟨rfl,a0⟩;have HX:=vv (HX.o.below a0);have HB:=vn HB a0;obtain⟨x0,x1,x2,xl⟩:=HX.o;clear a0;go_wp2_with fail
   refine(a4.o _).mono ?_;rintro e w2 ⟨rfl,a1⟩;have HX:=vv (HX.o.below a1);have HB:=vn HB a1;obtain⟨x0,x1,x2,xl⟩:=HX.o;clear a1;go_wp2;go_ret
   exact⟨q0A HF.o.symm,HB.o⟩
 have a4:=vv fun w=>q8c A n c w h0
 obtain⟨b,off,rfl,b9,a7⟩:=hr.cell h0;have b5:=a7 0 h0;rw[Nat.add_zero] at b5;have b2:=vv b5;have a9:=hr.nth_lt 0;have b6:=vv b9;have a3:Hid (twoOk neg n xs x=(decide (nth xs 0%2=1) && !Dec.farB x)):=vv (by
  rw[a6.o,if_neg (by omega)];unfold Dec.farB;by_cases q1:x < -1073741824
  ·rw[decide_eq_true q1,decide_eq_false (p:=-1073741824<=x) (by omega)];simp
  ·rw[decide_eq_false q1,decide_eq_true (p:=-1073741824<=x) (by omega)];by_cases q2:1073741824<x
   ·rw[decide_eq_true q2,decide_eq_false (p:=x<=1073741824) (by omega)];simp
   ·rw[decide_eq_false q2,decide_eq_true (p:=x<=1073741824) (by omega)];simp)
 have d0:decide ((0:Int)<(n:Int))=true:=decide_eq_true (by omega);clear a6 a7 hr h0 b9 b5;have b3:=vv fun w=>far x w
 obtain⟨v,hv⟩:=yx (nth xs 0);rw[<- hv] at b2 a3 a9;have c0:Hid (bits .and .u32 (v:Int) 1=((v%2:Nat):Int)):=vv (by
  have:=u32_and_nat v 1 a9 (by omega);rw[Nat.and_one_is_mod] at this;exact this)
 have c3:(0:Int)<(n:Int):=by simpa using d0
 clear hv;by_cases hp:v%2=0
 ·have HF:Hid (exaErr neg n xs x=40):=vv (by rw[HE.o,a3.o,decide_eq_false (p:=v%2=1) (by omega)];rfl);have t1:(bits .and .u32 (v:Int) 1==0)=true:=by rw[c0.o,hp];rfl
  have t2:((v:Int)%2==0)=true:=by rw[beq_iff_eq];omega
  clear hp HE a3 a9;go_enter Tryz.func46,Tryz.ntmps46
  go_wp2_with fail
  rw[<- a8.o];refine(a5.o _ HB.o).mono ?_;rintro e w1 ⟨rfl,a0⟩;have HX:=vv (HX.o.below a0);have HB:=vn HB a0;obtain⟨x0,x1,x2,xl⟩:=HX.o;clear a0;go_wp2_with fail
  refine(a4.o _).mono ?_;rintro e w2 ⟨rfl,a1⟩;have HX:=vv (HX.o.below a1);have HB:=vn HB a1;obtain⟨x0,x1,x2,xl⟩:=HX.o;clear a1;go_wp2_with fail
  refine(a4.o _).mono ?_;rintro e w3 ⟨rfl,a2⟩;have HX:=vv (HX.o.below a2);have HB:=vn HB a2;obtain⟨x0,x1,x2,xl⟩:=HX.o;clear a2;have hv:=(HB.o.cell (p:=⟨b,off,none⟩) b6.o).trans b2.o;go_wp2;go_ret
  exact⟨q0A HF.o.symm,HB.o⟩
 have t1:(bits .and .u32 (v:Int) 1==0)=false:=by rw[c0.o,beq_eq_false_iff_ne];omega
 have t2:((v:Int)%2==0)=false:=by rw[beq_eq_false_iff_ne];omega
 cases hf:Dec.farB x
 ·rw[hf] at b3;have HF:Hid (exaErr neg n xs x=0):=vv (by rw[HE.o,a3.o,hf,decide_eq_true (p:=v%2=1) (by omega)];rfl);clear hp HE a3 a9 hf;go_enter Tryz.func46,Tryz.ntmps46
  go_wp2_with fail
  rw[<- a8.o];refine(a5.o _ HB.o).mono ?_;rintro e w1 ⟨rfl,a0⟩;have HX:=vv (HX.o.below a0);have HB:=vn HB a0;obtain⟨x0,x1,x2,xl⟩:=HX.o;clear a0;go_wp2_with fail
  refine(a4.o _).mono ?_;rintro e w2 ⟨rfl,a1⟩;have HX:=vv (HX.o.below a1);have HB:=vn HB a1;obtain⟨x0,x1,x2,xl⟩:=HX.o;clear a1;go_wp2_with fail
  refine(a4.o _).mono ?_;rintro e w3 ⟨rfl,a2⟩;have HX:=vv (HX.o.below a2);have HB:=vn HB a2;obtain⟨x0,x1,x2,xl⟩:=HX.o;clear a2;have hv:=(HB.o.cell (p:=⟨b,off,none⟩) b6.o).trans b2.o;go_wp2_with fail
  refine(b3.o _).mono ?_;rintro e w' ⟨rfl,rfl⟩;go_wp2;go_ret
  exact⟨q0A HF.o.symm,HB.o⟩
 ·rw[hf] at b3;have HF:Hid (exaErr neg n xs x=40):=vv (by rw[HE.o,a3.o,hf,decide_eq_true (p:=v%2=1) (by omega)];rfl);clear hp HE a3 a9 hf;go_enter Tryz.func46,Tryz.ntmps46
  go_wp2_with fail
  rw[<- a8.o];refine(a5.o _ HB.o).mono ?_;rintro e w1 ⟨rfl,a0⟩;have HX:=vv (HX.o.below a0);have HB:=vn HB a0;obtain⟨x0,x1,x2,xl⟩:=HX.o;clear a0;go_wp2_with fail
  refine(a4.o _).mono ?_;rintro e w2 ⟨rfl,a1⟩;have HX:=vv (HX.o.below a1);have HB:=vn HB a1;obtain⟨x0,x1,x2,xl⟩:=HX.o;clear a1;go_wp2_with fail
  refine(a4.o _).mono ?_;rintro e w3 ⟨rfl,a2⟩;have HX:=vv (HX.o.below a2);have HB:=vn HB a2;obtain⟨x0,x1,x2,xl⟩:=HX.o;clear a2;have hv:=(HB.o.cell (p:=⟨b,off,none⟩) b6.o).trans b2.o;go_wp2_with fail
  refine(b3.o _).mono ?_;rintro e w' ⟨rfl,rfl⟩;go_wp2;go_ret
  exact⟨q0A HF.o.symm,HB.o⟩
end Go.Proofs.YtcdimmblnbkjjaaGreatDoor.Exa
namespace Go.Proofs.YtcdimmblnbkjjaaGreatDoor.Nat_
open Go Go.RowKit R5
theorem Rd.cap{w:World}{A:Option Addr}{n c:Nat}{xs:List Nat}(h:Rd w A n c xs):Rd w A n n xs:=⟨h.len,lr,h.sm,h.lim,h.cell⟩
theorem q6t(A:Option Addr)(n c:Nat)(xs:List Nat)(w:World)(hr:Rd w A n c xs):
  Calls Tryz.prog 88 #[.slice A n c] w fun e w'=>∃A' m,e=.returned (q4b A' m m)/\Rd w' A' m m (toL (val xs))/\(∀a,A'=some a->A=some a)/\Below w.heap.size w w':=by
 have b3:=hr.sm;have a9:=hr.len;have b4:=hr.le;have a2:=(Below.refl w.heap.size w).alloc (o:=.cells #[.slice none 0 0] 28) lr;have a4:=NatCell.made w 28;obtain⟨w0,a5⟩:=yx (w.alloc (.cells #[.slice none 0 0] 28));rw[<- a5] at a2 a4;have a3:=hr.below a2 rfl;have b0:=vv a5;have HB:=vv a2;have b5:=vv a3;have a8:=vv hr;have c0:=a4.c0;have fz:=a4.fz;have nl:=a4.lt;clear a5 a4;go_enter Tryz.func88,Tryz.ntmps88
 go_wp2_with fail
 rw[<- b0.o];go_loop [3] (fun t=>∃k:Nat,k<=n/\t=.int .i64 k/\∀i,k<=i->nth xs i=0) (fun t=>(intOf t).toNat)
 case atStart=>exact⟨n,lr,rfl,fun i hi=>q1i xs i (by omega)⟩
 case round =>
  obtain⟨k,hk,rfl,hz⟩:=hrel;have fin:∀m,m<=n->(∀i,m<=i->nth xs i=0)->(m=0\/nth xs (m-1)≠0)->Rd w0 A m c (toL (val xs)):=by
   intro m hm h0 h1;have e:=q1J hr.lim (n:=m) h0 (h1.imp id fun h=>⟨by omega,h⟩);rw[<- e];exact a3.take hm
  have Fin:=vv fin;clear fin;rcases Nat.eq_zero_or_pos k with rfl|b1
  ·have a6:=vv (Fin.o 0 (Nat.zero_le _) hz (.inl rfl));have a1:=vv (HB.o.setCell (p:=⟨w.heap.size,0,none⟩) lr (.slice none 0 0));have a0:(w0.setCell ⟨w.heap.size,0,none⟩ (.slice none 0 0)).cell? ⟨w.heap.size,0,none⟩=some (.slice none 0 0):=q0u c0;clear hz a3 hr a2;go_wp2;refine bodyPost_ret (v:=q4b none 0 0) (by simp [results,Tryz.results88,go_sem,a0]) rfl ⟨none,0,rfl,?_,fun a h=>(by cases h),a1.o⟩;have e:toL (val xs)=[]:=List.eq_nil_of_length_eq_zero a6.o.len;rw[e];exact Rd.nil _
  ·obtain⟨m,rfl⟩:∃m,k=m+1:=⟨k-1,by omega⟩;have b2:=a8.o;obtain⟨b,off,rfl,hb,a0⟩:=a3.cell (by omega);have hx:=a0 m (by omega);clear a0;by_cases h0:nth xs m=0
   ·have h1:(((nth xs m:Nat):Int)==0)=true:=by rw[h0];rfl
    have H0:=vv h0;clear h0 a3 hr a2;go_wp2;go_round
    case rel=>exact⟨m,by omega,by go_num,fun i hi=>by
     rcases Nat.eq_or_lt_of_le hi with rfl|h
     ·exact H0.o
     ·exact hz i (by omega)⟩
    case measure=>simp [intOf]
   ·have h1:(((nth xs m:Nat):Int)==0)=false:=by rw[beq_eq_false_iff_ne];omega
    have a6:=vv (Rd.cap (Fin.o (m+1) (by omega) hz (.inr h0)));have b6:b<w.heap.size:=by
     obtain⟨b',off',e,h,_⟩:=a8.o.cell (by omega);cases e;exact h
    have a1:=vv (HB.o.setCell (p:=⟨w.heap.size,0,none⟩) lr (.slice (some ⟨b,off,none⟩) (m+1) (m+1)));have a0:(w0.setCell ⟨w.heap.size,0,none⟩ (.slice (some ⟨b,off,none⟩) (m+1) (m+1))).cell? ⟨w.heap.size,0,none⟩=some (.slice (some ⟨b,off,none⟩) (m+1) (m+1)):=q0u c0;have a7:Hid (Rd (w0.setCell ⟨w.heap.size,0,none⟩ (.slice (some ⟨b,off,none⟩) (m+1) (m+1))) (some ⟨b,off,none⟩) (m+1) (m+1) (toL (val xs))):=vv (a6.o.other _ _ _ (fun a e=>by cases e;show b≠w.heap.size;omega));clear h0 hz a3 hr a2 b2;go_wp2;exact bodyPost_ret (v:=q4b (some ⟨b,off,none⟩) (m+1) (m+1)) (by simp [results,Tryz.results88,go_sem,a0]) rfl ⟨some ⟨b,off,none⟩,m+1,rfl,a7.o,fun a h=>by simpa using h,a1.o⟩
theorem Of1(w:World):
  Calls Tryz.prog 47 #[.int .u64 1] w fun e w'=>∃A,e=.returned (q4b A 1 1)/\Rd w' A 1 1 (toL 1)/\Below w.heap.size w w':=by
 go_enter Tryz.func47,Tryz.ntmps47
 go_wp2_with fail
 obtain⟨o1,o2⟩:=R1.two_words (w.alloc (.cells #[.slice none 0 0] 28)) 1 0 (by omega) (by omega) 34;have hN:=(NatCell.made w 28).below o2;have hB:=(Below.refl w.heap.size w).alloc (o:=.cells #[.slice none 0 0] 28) lr;have HN:=vv hN;have HB:=vv (hB.trans (o2.mono (by simp)));have hs:(w.alloc (.cells #[.slice none 0 0] 28)).heap.size=w.heap.size+1:=by simp
 rw[hs] at o1;clear o2 hN hB hs;refine(q6t (some ⟨w.heap.size+1,0,none⟩) 2 2 [1,0] _ o1).mono ?_;rintro e w1 ⟨A',m,rfl,hR,hA,a1⟩;have hm:m=1:=hR.words.symm;subst hm;have a5:Hid (Rd w1 A' 1 1 (toL 1)):=vv hR;have a2:=vv (HN.o.below a1);have a6:=vn HB a1;have c0:=a2.o.c0;have fz:=a2.o.fz;have lt:=a2.o.lt;have a3:Hid (Rd (w1.setCell ⟨w.heap.size,0,none⟩ (.slice A' 1 1)) A' 1 1 (toL 1)):=vv (a5.o.other _ _ _ (fun a e=>by have:=hA a e;cases this;simp));have a4:Hid (Below w.heap.size w (w1.setCell ⟨w.heap.size,0,none⟩ (.slice A' 1 1))):=vv (a6.o.setCell lr _);have a0:(w1.setCell ⟨w.heap.size,0,none⟩ (.slice A' 1 1)).cell? ⟨w.heap.size,0,none⟩=some (.slice A' 1 1):=q0u c0;clear a1 hR hA o1;go_wp2;exact bodyPost_ret (v:=q4b A' 1 1) (by simp [results,Tryz.results47,go_sem,a0]) rfl ⟨A',rfl,a3.o,a4.o⟩
end Go.Proofs.YtcdimmblnbkjjaaGreatDoor.Nat_
namespace Go.Proofs.YtcdimmblnbkjjaaGreatDoor.Rtp
open Go Go.RowKit R5
theorem q8U{W:List Nat}{N:Nat}(hl:Lim W)(hv:val W=N)(hw:W.length=words N):W=toL N:=
 q3j hw fun i _=>by rw[q0V,<- hv,q3b hl]
theorem q2Y(N:Nat):((bl N+7)/8+3)/4=words N:=by
 have h1:=A.bl_words N;have h2:N<4294967296^(((bl N+7)/8+3)/4):=by
  rw[qaG];exact Nat.lt_of_lt_of_le (A.lt_bytes N) (Nat.pow_le_pow_right (by decide) (by omega))
 have h3:=q17 h2;omega
theorem q8l(g o:Nat)(u:Int)(w:World)(h:IntAt w g o u)(sN:bl u.natAbs<=4294967296):
  Calls Tryz.prog 243 #[.pointer (some ⟨g,o,none⟩)] w fun e w'=>∃A n,e=.returned (q4b A n n)/\Rd w' A n n (toL u.natAbs)/\Fr w.heap.size A/\Below w.heap.size w w':=by
 obtain⟨w0,a4⟩:=yx (w.alloc (.cells #[.slice none 0 0] 28));have b0:Below w.heap.size w w0:=by rw[a4];exact(Below.refl _ w).alloc lr _
 have c0:NatCell w0 w.heap.size:=by rw[a4];exact NatCell.made _ _
 have b3:=vv (A.Bytes g o u w0 (h.below b0) sN);have b4:=vv (q2Y u.natAbs);obtain⟨N,hN⟩:=yx (u.natAbs);rw[<- hN] at b3 b4 sN ⊢;have c8:=vv a4;have b5:=vv b0;have c9:=vv c0;have d0:=vv sN;clear h a4 b0 c0 sN hN;go_enter Tryz.func243,Tryz.ntmps243
 go_wp2_with fail
 rw[<- c8.o];refine b3.o.mono ?_;rintro e w1 ⟨B,m,rfl,hm,b6,a6⟩;have b7:=vv b6;have d1:=vv a6;have b8:=vv (c9.o.below a6);have a7:Hid (w.heap.size<w1.heap.size):=vv b8.o.lt;obtain⟨L,hL⟩:=yx ((m+3)/4);have d2:Hid (L=words N):=vv (by rw[hL,hm];exact b4.o);have e7:m<=4294967296:=by have:=d0.o;omega
 have b9:L<=35184372088832:=by omega
 have e8:(L:Int)<=35184372088832:=by omega
 have d3:((m:Int)+3)/4=(L:Int):=by omega
 have e9:(m:Int)<=4294967296:=by omega
 have f0:=A.mk L b9;have HL:=vv hL;have H1:Hid (Own (w1.alloc (.cells (madeCells #[.int .u32 0] L) 34)) w1.heap.size 34 (List.replicate L 0)):=vv (Own.made w1 L 34);have H3:Hid (Below w1.heap.size w1 (w1.alloc (.cells (madeCells #[.int .u32 0] L) 34))):=vv ((Below.refl _ w1).alloc lr _);clear b6 a6 hL hm;go_wp2;clear d3;go_loopw [17] (fun t wr=>∃(i:Nat) (W:List Nat),t=.int .i64 i/\i<=m/\Own wr w1.heap.size 34 W/\W.length=L/\val W=hi N (m-i)/\Below w1.heap.size w1 wr) (fun t _=>m-(intOf t).toNat)
 case atStart=>exact⟨0,List.replicate L 0,rfl,Nat.zero_le _,H1.o,List.length_replicate,by rw[q0h,Nat.sub_zero,q79 b7.o.lt],H3.o⟩
 case round =>
  obtain⟨i,W,rfl,d4,a0,a5,a2,hB⟩:=hrel;have a8:=vv a0;have c2:=vv a5;have HB:=vv hB;by_cases him:i<m
  ·obtain⟨k,hk⟩:=yx (m-1-i);have c3:val W=hi N (k+1):=by rw[a2];congr 1;omega
   have f1:(m:Int)-1-(i:Int)=(k:Int):=by omega
   obtain⟨b,off,e,c4,c5⟩:=b7.o.cell (by omega);subst e;have c6:=(hB.cell (p:=⟨b,off+i,none⟩) c4).trans (c5 i him);rw[<- hk] at c6;obtain⟨q,hq⟩:=yx (k/4);have f2:q<L:=by have:=HL.o;omega
   have a9:q<W.length:=by omega
   have f3:(k:Int)/4=(q:Int):=by omega
   have d5:(k:Int)<=4294967296:=by omega
   have d6:(q:Int)<(L:Int):=by omega
   obtain⟨r,hr⟩:=yx (k%4);have f4:(k:Int).tmod 4=(r:Int):=by rw[Int.tmod_eq_emod_of_nonneg (by omega)];omega
   have f5:IntKind.i64.wrap (q:Int)=(q:Int):=by rw[IntKind.wrap_i64];omega
   have f6:(0:Int)<=(q:Int):=by omega
   obtain⟨s1,s2,s3,s4⟩:=q3o a0.2 a9 (show k=4*q+r by omega) (by omega) c3;have c7:=a0.cell a9;have f7:=a0.frozen q;have f8:=a0.lt;have HS:=vv (a0.set (x:=nth W q+bt N k*256^r) a9 s2 rfl);have d7:=q8I N k;obtain⟨C,hC⟩:=yx (bt N k);obtain⟨x,hx⟩:=yx (nth W q);rw[<- hC,<- hx] at s1 s2 s4 HS;rw[<- hC] at s3 d7 c6;rw[<- hx] at c7;have f9:IntKind.u32.wrap (C:Int)=(C:Int):=by rw[IntKind.wrap_u32];omega
   obtain⟨D,hD⟩:=yx (C*256^r);rw[<- hD] at s1 s2 s3 s4 HS;obtain⟨s,hs⟩:=yx (8*r);have g0:IntKind.i64.wrap (8*(r:Int))=(s:Int):=by rw[IntKind.wrap_i64];omega
   have g1:(0:Int)<=(s:Int):=by omega
   have d8:(s:Int)<=32:=by omega
   have g2:IntKind.u32.wrap ((C:Int)*2^s)=(D:Int):=by
    have e:(C:Int)*2^s=(D:Int):=by
     have e2:(2:Int)^s=((256^r:Nat):Int):=by rw[hs,Int.natCast_pow,Int.pow_mul];rfl
     rw[e2,hD,Int.natCast_mul]
    rw[e,IntKind.wrap_u32];omega
   have d9:Hid (hi N k=hi N (m-(i+1))):=vv (by rw[hk];congr 1;omega);have e0:=vv s4;clear c4 c5 hB a0 c3 a2 a5 hr hq hk hC hx hD hs s2 s3 s4;go_wp2;refine q01 (fun w'=>w'.cell? ⟨w1.heap.size,q,none⟩=some (.int .u32 (x:Int))) 13
    (.still 0 (.still 1 (.still 2 (.still 3 (.still 4 (.still 5 (.still 6 (.still 7 (.still 8 (.still 9 (.still 10 (.still 11 (.still 12 .done))))))))))))) (by kernel_rfl) (by kernel_rfl) (fun _ _ d _ _ h=>by cases d<;>exact h) c7 (fun hS0=>?_)
   iterate 13
    refine q00 (v:=?_) rfl (by rfl) ?_ ?_;rotate_left
    ·intro w g3;go_simp;with_reducible rfl
    simp only[Act.put,sa,sb,sc]
   refine q0d ?_;go_wp2;go_roundw
   case rel=>exact⟨i+1,W.set q (x+D),by go_num,by omega,HS.o,by rw[List.length_set];exact c2.o,e0.o.trans d9.o,(HB.o.drew).setCell lr _⟩
   case measure=>simp [intOf];omega
  ·obtain rfl:i=m:=by omega
   rw[Nat.sub_self,q54] at a2;have g4:=vv a2;have b1:=b8.o.below hB;have c1:=b1.c0;have l1:=b1.lt;have fz1:=b1.fz;have b2:(i:Int)<=(i:Int):=Int.le_refl _;have e1:=vv (q8U a0.2 a2 (by rw[a5];exact d2.o));obtain⟨w9,a3⟩:=yx (wr.setCell ⟨w.heap.size,0,none⟩ (.slice (some ⟨w1.heap.size,0,none⟩) L L));have a1:w9.cell? ⟨w.heap.size,0,none⟩=some (.slice (some ⟨w1.heap.size,0,none⟩) L L):=by rw[a3];exact q0u c1
   have e3:Hid (Rd w9 (some ⟨w1.heap.size,0,none⟩) L L (toL N)):=vv (by
    rw[<- e1.o,a3];exact(a8.o.setOther (by show w1.heap.size≠w.heap.size;have:=a7.o;omega) _).rd c2.o.symm lr b9)
   have e4:Hid (Below w.heap.size w w9):=vv (by
    rw[a3];exact(b5.o.trans ((d1.o.mono b5.o.size).trans (HB.o.mono (by have:=a7.o;omega)))).setCell lr _)
   have e5:=vv a3;have e6:=vv a1;clear a0 a2 a5 hB him d4 b2 a3 a1;go_wp2;rw[<- e5.o];have a1:=e6.o;exact bodyPost_ret (v:=q4b (some ⟨w1.heap.size,0,none⟩) L L) (by simp [results,Tryz.results243,go_sem,a1]) rfl ⟨_,_,rfl,e3.o,Fr.at_ (by show w.heap.size<=w1.heap.size;have:=a7.o;omega),e4.o⟩
end Go.Proofs.YtcdimmblnbkjjaaGreatDoor.Rtp
namespace Go.Proofs.YtcdimmblnbkjjaaGreatDoor.Lex
open Go Go.RowKit R5
theorem q0Q{neg:Bool}{n:Nat}{xs:List Nat}{x:Int}(h:twoOk neg n xs x=true)(hn:n=0):x=0/\neg=false:=by
 unfold twoOk at h;rw[if_pos hn] at h;simp only[Bool.and_eq_true,decide_eq_true_eq,Bool.not_eq_true'] at h;exact h.2
theorem zero_or(p:Nat):(p=0/\((p:Int)==0)=true)\/(p≠0/\((p:Int)==0)=false):=by
 rcases Nat.eq_zero_or_pos p with h|h
 ·exact .inl ⟨h,by rw[h];rfl⟩
 ·exact .inr ⟨by omega,by rw[beq_eq_false_iff_ne];omega⟩
theorem q7Y(p:Nat):(p<=2251799813685247/\decide ((p:Int)<=2251799813685247)=true)\/(¬p<=2251799813685247/\decide ((p:Int)<=2251799813685247)=false):=by
 rcases Nat.lt_or_ge 2251799813685247 p with h|h
 ·exact .inr ⟨by omega,decide_eq_false (by omega)⟩
 ·exact .inl ⟨h,decide_eq_true (by omega)⟩
theorem qak(kind:Nat)(neg dneg:Bool)(s:ByteArray)(x:Int)(hneg:Bool)(A:Option Addr)(n c:Nat)(xs:List Nat)(hx:Int)(p:Nat)(w:World)(hr:Rd w A n c xs)(hmax:(s.size:Int)<=4611686018427387904)(he:s.toList.isEmpty=false)(hd:dneg=false):
  Calls Tryz.prog 25 #[numV kind neg dneg s x hneg A n c hx p] w fun e w'=>e=.returned (.int .i64 (q05 (q1o kind neg dneg s x hneg n xs hx p)))/\Below w.heap.size w w':=by
 obtain⟨dec,a2⟩:=yx (q0S s x);obtain⟨two,a1⟩:=yx (twoOk hneg n xs hx);obtain⟨nn,a0⟩:=yx (R11.noTwoB hneg n hx);obtain⟨V,hV⟩:=yx (q1o kind neg dneg s x hneg n xs hx p);have HD:=vv fun w=>Dec.Check dneg s x w hmax
 have HT:=vv fun w' (h:Below w.heap.size w w')=>Exa.Check hneg A n c xs hx w' (hr.below h rfl)
 have td:=Dec.decErr_zero s x;have tt:=Exa.exaErr_zero hneg n xs hx;obtain⟨zd,a7⟩:=yx (Dec.decErr s x);obtain⟨zt,a8⟩:=yx (Exa.exaErr hneg n xs hx);rw[<- a7,<- a2] at td;rw[<- a7] at HD;rw[<- a8,<- a1] at tt;rw[<- a8] at HT;rw[<- hV];unfold q1o at hV;rw[<- a2,<- a1,<- a0] at hV;have HV:=vv hV;have HO:=vv a0;have b1:=vv a1;obtain⟨w0,a5⟩:=yx (w.alloc (.cells #[.int .u8 (kind:Int),.bool neg,.bool dneg,.string s,.int .i64 x,.bool hneg,.slice A n c,.int .i64 hx,.int .u64 (p:Int)] 33));have b2:Below w.heap.size w w0:=by rw[a5];exact(Below.refl _ w).alloc lr _
 have b3:NumBox w0 w.heap.size kind neg dneg s x hneg A n c hx p:=by rw[a5];exact NumBox.made w _ _ _ _ _ _ _ _ _ _ _ _
 have HN:=vv b3;have HB:=vv b2;have b4:=vv a5;have a9:=vv ((Below.refl w.heap.size w).alloc (o:=.cells #[.int .u8 (kind:Int),.bool neg,.bool dneg,.string s,.int .i64 x,.bool hneg,.slice A n c,.int .i64 hx,.int .u64 (p:Int)] 33) lr);have b5:=hr.sm;clear a5 b2 b3 hr a2 a1 a0 hV a7 a8 hmax;obtain⟨c0,c1,c2,c3,c4,c5,c6,c7,c8,cl⟩:=HN.o;subst hd;have HE:Hid (q1O false s x=false):=vv (by unfold q1O;rw[he];rfl);go_enter Tryz.func25,Tryz.ntmps25
 by_cases hn:n=0
 focus
  have tn:((n:Int)==0)=true:=by rw[hn];rfl
  have a6:=vv hn;cases th:(hx==0)
  focus
   have a3:hx≠0:=by rw[beq_eq_false_iff_ne] at th;exact th
   have HO:Hid (nn=false):=vv (by rw[HO.o];unfold R11.noTwoB;rw[decide_eq_false a3];simp);have HZ:Hid (two=true->n≠0):=vv (fun ht _=>by rw[b1.o] at ht;exact a3 (q0Q ht hn).1);clear hn a3
  rotate_left 1
  focus
   have b0:hx=0:=by rw[beq_iff_eq] at th;exact th
   cases hneg
   focus
    have HO:Hid (nn=true):=vv (by rw[HO.o];unfold R11.noTwoB;rw[decide_eq_true hn,decide_eq_true b0];rfl);clear b0 hn
   rotate_left 1
   focus
    have HO:Hid (nn=false):=vv (by rw[HO.o];unfold R11.noTwoB;simp);have HZ:Hid (two=true->n≠0):=vv (fun ht _=>by rw[b1.o] at ht;exact absurd (q0Q ht hn).2 (by decide));clear hn b0
 rotate_left 3
 focus
  have tn:((n:Int)==0)=false:=by rw[beq_eq_false_iff_ne];omega
  have HO:Hid (nn=false):=vv (by rw[HO.o];unfold R11.noTwoB;rw[decide_eq_false hn];rfl);have HZ:Hid (two=true->n≠0):=vv (fun _=>hn);clear hn
 all_goals
  rcases(by omega:kind=1\/kind=2\/kind=3\/kind=4\/(kind≠1/\kind≠2/\kind≠3/\kind≠4)) with hk|hk|hk|hk|⟨q1,q2,q3,q4⟩
  ·have HK:=vv hk;have t1:((kind:Int)==1)=true:=by rw[hk];rfl
   clear hk;go_wp2_with fail
   rw[<- b4.o];refine(HD.o _).mono ?_;rintro e w1 ⟨rfl,a4⟩;have HN:=vv (HN.o.below a4);have HB:=vn HB a4;clear a4 c0 c1 c2 c3 c4 c5 c6 c7 c8 cl;obtain⟨c0,c1,c2,c3,c4,c5,c6,c7,c8,cl⟩:=HN.o;cases dec<;>cases neg<;>rcases zero_or p with ⟨hp,tp⟩|⟨hp,tp⟩
   all_goals
    have HP:=vv hp;clear hp;go_wp2;go_ret
    exact⟨q0A (by rw[HV.o,HE.o,HO.o];first|(simp [q05,HK.o];done)|(simp [q05,HK.o,HP.o];done)|(simp [q05,HK.o,HP.o,a6.o];done)|(simp [q05,HK.o,HZ.o rfl];done)|(simp [q05,HK.o,HP.o,HZ.o rfl];done)|(simp [q05,HK.o,HZ.o trivial];done)|(simp [q05,HK.o,HP.o,HZ.o trivial];done)),HB.o⟩
  ·have HK:=vv hk;have t1:((kind:Int)==1)=false:=by rw[beq_eq_false_iff_ne];omega
   have t2:((kind:Int)==2)=true:=by rw[hk];rfl
   clear hk;go_wp2_with fail
   rw[<- b4.o];refine(HT.o _ HB.o).mono ?_;rintro e w1 ⟨rfl,a4⟩;have HN:=vv (HN.o.below a4);have HB:=vn HB a4;clear a4 c0 c1 c2 c3 c4 c5 c6 c7 c8 cl;obtain⟨c0,c1,c2,c3,c4,c5,c6,c7,c8,cl⟩:=HN.o;cases two<;>(try cases hneg)<;>cases neg
   all_goals
    go_wp2;go_ret
    exact⟨q0A (by rw[HV.o,HE.o,HO.o];first|(simp [q05,HK.o];done)|(simp [q05,HK.o,HP.o];done)|(simp [q05,HK.o,HP.o,a6.o];done)|(simp [q05,HK.o,HZ.o rfl];done)|(simp [q05,HK.o,HP.o,HZ.o rfl];done)|(simp [q05,HK.o,HZ.o trivial];done)|(simp [q05,HK.o,HP.o,HZ.o trivial];done)),HB.o⟩
  ·have HK:=vv hk;have t1:((kind:Int)==1)=false:=by rw[beq_eq_false_iff_ne];omega
   have t2:((kind:Int)==2)=false:=by rw[beq_eq_false_iff_ne];omega
   have t3:((kind:Int)==3)=true:=by rw[hk];rfl
   clear hk;all_goals
    go_wp2;go_ret
    exact⟨q0A (by rw[HV.o,HE.o,HO.o];first|(simp [q05,HK.o];done)|(simp [q05,HK.o,HP.o];done)|(simp [q05,HK.o,HP.o,a6.o];done)|(simp [q05,HK.o,HZ.o rfl];done)|(simp [q05,HK.o,HP.o,HZ.o rfl];done)|(simp [q05,HK.o,HZ.o trivial];done)|(simp [q05,HK.o,HP.o,HZ.o trivial];done)),a9.o⟩
  ·have HK:=vv hk;have t1:((kind:Int)==1)=false:=by rw[beq_eq_false_iff_ne];omega
   have t2:((kind:Int)==2)=false:=by rw[beq_eq_false_iff_ne];omega
   have t3:((kind:Int)==3)=false:=by rw[beq_eq_false_iff_ne];omega
   have t4:((kind:Int)==4)=true:=by rw[hk];rfl
   clear hk;all_goals
    go_wp2;go_ret
    exact⟨q0A (by rw[HV.o,HE.o,HO.o];first|(simp [q05,HK.o];done)|(simp [q05,HK.o,HP.o];done)|(simp [q05,HK.o,HP.o,a6.o];done)|(simp [q05,HK.o,HZ.o rfl];done)|(simp [q05,HK.o,HP.o,HZ.o rfl];done)|(simp [q05,HK.o,HZ.o trivial];done)|(simp [q05,HK.o,HP.o,HZ.o trivial];done)),a9.o⟩
  ·have t1:((kind:Int)==1)=false:=by rw[beq_eq_false_iff_ne];omega
   have t2:((kind:Int)==2)=false:=by rw[beq_eq_false_iff_ne];omega
   have t3:((kind:Int)==3)=false:=by rw[beq_eq_false_iff_ne];omega
   have t4:((kind:Int)==4)=false:=by rw[beq_eq_false_iff_ne];omega
   all_goals
    go_wp2;go_ret
    exact⟨q0A (by rw[HV.o,HE.o,HO.o];simp [q05,q1,q2,q3,q4]),a9.o⟩
theorem qaj(kind:Nat)(neg dneg:Bool)(s:ByteArray)(x:Int)(hneg:Bool)(A:Option Addr)(n c:Nat)(xs:List Nat)(hx:Int)(p:Nat)(w:World)(hr:Rd w A n c xs)(hmax:(s.size:Int)<=4611686018427387904)(he:s.toList.isEmpty=true)(hd:dneg=false)(tx:(x==0)=false):
  Calls Tryz.prog 25 #[numV kind neg dneg s x hneg A n c hx p] w fun e w'=>e=.returned (.int .i64 (q05 (q1o kind neg dneg s x hneg n xs hx p)))/\Below w.heap.size w w':=by
 obtain⟨dec,a2⟩:=yx (q0S s x);obtain⟨two,a1⟩:=yx (twoOk hneg n xs hx);obtain⟨nn,a0⟩:=yx (R11.noTwoB hneg n hx);obtain⟨V,hV⟩:=yx (q1o kind neg dneg s x hneg n xs hx p);have HD:=vv fun w=>Dec.Check dneg s x w hmax
 have HT:=vv fun w' (h:Below w.heap.size w w')=>Exa.Check hneg A n c xs hx w' (hr.below h rfl)
 have td:=Dec.decErr_zero s x;have tt:=Exa.exaErr_zero hneg n xs hx;obtain⟨zd,a7⟩:=yx (Dec.decErr s x);obtain⟨zt,a8⟩:=yx (Exa.exaErr hneg n xs hx);rw[<- a7,<- a2] at td;rw[<- a7] at HD;rw[<- a8,<- a1] at tt;rw[<- a8] at HT;rw[<- hV];unfold q1o at hV;rw[<- a2,<- a1,<- a0] at hV;have HV:=vv hV;have HO:=vv a0;have b1:=vv a1;obtain⟨w0,a5⟩:=yx (w.alloc (.cells #[.int .u8 (kind:Int),.bool neg,.bool dneg,.string s,.int .i64 x,.bool hneg,.slice A n c,.int .i64 hx,.int .u64 (p:Int)] 33));have b2:Below w.heap.size w w0:=by rw[a5];exact(Below.refl _ w).alloc lr _
 have b3:NumBox w0 w.heap.size kind neg dneg s x hneg A n c hx p:=by rw[a5];exact NumBox.made w _ _ _ _ _ _ _ _ _ _ _ _
 have HN:=vv b3;have HB:=vv b2;have b4:=vv a5;have a9:=vv ((Below.refl w.heap.size w).alloc (o:=.cells #[.int .u8 (kind:Int),.bool neg,.bool dneg,.string s,.int .i64 x,.bool hneg,.slice A n c,.int .i64 hx,.int .u64 (p:Int)] 33) lr);have b5:=hr.sm;clear a5 b2 b3 hr a2 a1 a0 hV a7 a8 hmax;obtain⟨c0,c1,c2,c3,c4,c5,c6,c7,c8,cl⟩:=HN.o;subst hd;have HE:Hid (q1O false s x=false):=vv (by unfold q1O;rw[he,tx];rfl);go_enter Tryz.func25,Tryz.ntmps25
 by_cases hn:n=0
 focus
  have tn:((n:Int)==0)=true:=by rw[hn];rfl
  have a6:=vv hn;cases th:(hx==0)
  focus
   have a3:hx≠0:=by rw[beq_eq_false_iff_ne] at th;exact th
   have HO:Hid (nn=false):=vv (by rw[HO.o];unfold R11.noTwoB;rw[decide_eq_false a3];simp);have HZ:Hid (two=true->n≠0):=vv (fun ht _=>by rw[b1.o] at ht;exact a3 (q0Q ht hn).1);clear hn a3
  rotate_left 1
  focus
   have b0:hx=0:=by rw[beq_iff_eq] at th;exact th
   cases hneg
   focus
    have HO:Hid (nn=true):=vv (by rw[HO.o];unfold R11.noTwoB;rw[decide_eq_true hn,decide_eq_true b0];rfl);clear b0 hn
   rotate_left 1
   focus
    have HO:Hid (nn=false):=vv (by rw[HO.o];unfold R11.noTwoB;simp);have HZ:Hid (two=true->n≠0):=vv (fun ht _=>by rw[b1.o] at ht;exact absurd (q0Q ht hn).2 (by decide));clear hn b0
 rotate_left 3
 focus
  have tn:((n:Int)==0)=false:=by rw[beq_eq_false_iff_ne];omega
  have HO:Hid (nn=false):=vv (by rw[HO.o];unfold R11.noTwoB;rw[decide_eq_false hn];rfl);have HZ:Hid (two=true->n≠0):=vv (fun _=>hn);clear hn
 all_goals
  rcases(by omega:kind=1\/kind=2\/kind=3\/kind=4\/(kind≠1/\kind≠2/\kind≠3/\kind≠4)) with hk|hk|hk|hk|⟨q1,q2,q3,q4⟩
  ·have HK:=vv hk;have t1:((kind:Int)==1)=true:=by rw[hk];rfl
   clear hk;go_wp2_with fail
   rw[<- b4.o];refine(HD.o _).mono ?_;rintro e w1 ⟨rfl,a4⟩;have HN:=vv (HN.o.below a4);have HB:=vn HB a4;clear a4 c0 c1 c2 c3 c4 c5 c6 c7 c8 cl;obtain⟨c0,c1,c2,c3,c4,c5,c6,c7,c8,cl⟩:=HN.o;cases dec<;>cases neg<;>rcases zero_or p with ⟨hp,tp⟩|⟨hp,tp⟩
   all_goals
    have HP:=vv hp;clear hp;go_wp2;go_ret
    exact⟨q0A (by rw[HV.o,HE.o,HO.o];first|(simp [q05,HK.o];done)|(simp [q05,HK.o,HP.o];done)|(simp [q05,HK.o,HP.o,a6.o];done)|(simp [q05,HK.o,HZ.o rfl];done)|(simp [q05,HK.o,HP.o,HZ.o rfl];done)|(simp [q05,HK.o,HZ.o trivial];done)|(simp [q05,HK.o,HP.o,HZ.o trivial];done)),HB.o⟩
  ·have HK:=vv hk;have t1:((kind:Int)==1)=false:=by rw[beq_eq_false_iff_ne];omega
   have t2:((kind:Int)==2)=true:=by rw[hk];rfl
   clear hk;go_wp2_with fail
   rw[<- b4.o];refine(HT.o _ HB.o).mono ?_;rintro e w1 ⟨rfl,a4⟩;have HN:=vv (HN.o.below a4);have HB:=vn HB a4;clear a4 c0 c1 c2 c3 c4 c5 c6 c7 c8 cl;obtain⟨c0,c1,c2,c3,c4,c5,c6,c7,c8,cl⟩:=HN.o;cases two<;>(try cases hneg)<;>cases neg
   all_goals
    go_wp2;go_ret
    exact⟨q0A (by rw[HV.o,HE.o,HO.o];first|(simp [q05,HK.o];done)|(simp [q05,HK.o,HP.o];done)|(simp [q05,HK.o,HP.o,a6.o];done)|(simp [q05,HK.o,HZ.o rfl];done)|(simp [q05,HK.o,HP.o,HZ.o rfl];done)|(simp [q05,HK.o,HZ.o trivial];done)|(simp [q05,HK.o,HP.o,HZ.o trivial];done)),HB.o⟩
  ·have HK:=vv hk;have t1:((kind:Int)==1)=false:=by rw[beq_eq_false_iff_ne];omega
   have t2:((kind:Int)==2)=false:=by rw[beq_eq_false_iff_ne];omega
   have t3:((kind:Int)==3)=true:=by rw[hk];rfl
   clear hk;all_goals
    go_wp2;go_ret
    exact⟨q0A (by rw[HV.o,HE.o,HO.o];first|(simp [q05,HK.o];done)|(simp [q05,HK.o,HP.o];done)|(simp [q05,HK.o,HP.o,a6.o];done)|(simp [q05,HK.o,HZ.o rfl];done)|(simp [q05,HK.o,HP.o,HZ.o rfl];done)|(simp [q05,HK.o,HZ.o trivial];done)|(simp [q05,HK.o,HP.o,HZ.o trivial];done)),a9.o⟩
  ·have HK:=vv hk;have t1:((kind:Int)==1)=false:=by rw[beq_eq_false_iff_ne];omega
   have t2:((kind:Int)==2)=false:=by rw[beq_eq_false_iff_ne];omega
   have t3:((kind:Int)==3)=false:=by rw[beq_eq_false_iff_ne];omega
   have t4:((kind:Int)==4)=true:=by rw[hk];rfl
   clear hk;all_goals
    go_wp2;go_ret
    exact⟨q0A (by rw[HV.o,HE.o,HO.o];first|(simp [q05,HK.o];done)|(simp [q05,HK.o,HP.o];done)|(simp [q05,HK.o,HP.o,a6.o];done)|(simp [q05,HK.o,HZ.o rfl];done)|(simp [q05,HK.o,HP.o,HZ.o rfl];done)|(simp [q05,HK.o,HZ.o trivial];done)|(simp [q05,HK.o,HP.o,HZ.o trivial];done)),a9.o⟩
  ·have t1:((kind:Int)==1)=false:=by rw[beq_eq_false_iff_ne];omega
   have t2:((kind:Int)==2)=false:=by rw[beq_eq_false_iff_ne];omega
   have t3:((kind:Int)==3)=false:=by rw[beq_eq_false_iff_ne];omega
   have t4:((kind:Int)==4)=false:=by rw[beq_eq_false_iff_ne];omega
   all_goals
    go_wp2;go_ret
    exact⟨q0A (by rw[HV.o,HE.o,HO.o];simp [q05,q1,q2,q3,q4]),a9.o⟩
theorem qai(kind:Nat)(neg dneg:Bool)(s:ByteArray)(x:Int)(hneg:Bool)(A:Option Addr)(n c:Nat)(xs:List Nat)(hx:Int)(p:Nat)(w:World)(hr:Rd w A n c xs)(hmax:(s.size:Int)<=4611686018427387904)(he:s.toList.isEmpty=true)(hd:dneg=false)(tx:(x==0)=true):
  Calls Tryz.prog 25 #[numV kind neg dneg s x hneg A n c hx p] w fun e w'=>e=.returned (.int .i64 (q05 (q1o kind neg dneg s x hneg n xs hx p)))/\Below w.heap.size w w':=by
 obtain⟨dec,a2⟩:=yx (q0S s x);obtain⟨two,a1⟩:=yx (twoOk hneg n xs hx);obtain⟨nn,a0⟩:=yx (R11.noTwoB hneg n hx);obtain⟨V,hV⟩:=yx (q1o kind neg dneg s x hneg n xs hx p);have HD:=vv fun w=>Dec.Check dneg s x w hmax
 have HT:=vv fun w' (h:Below w.heap.size w w')=>Exa.Check hneg A n c xs hx w' (hr.below h rfl)
 have td:=Dec.decErr_zero s x;have tt:=Exa.exaErr_zero hneg n xs hx;obtain⟨zd,a7⟩:=yx (Dec.decErr s x);obtain⟨zt,a8⟩:=yx (Exa.exaErr hneg n xs hx);rw[<- a7,<- a2] at td;rw[<- a7] at HD;rw[<- a8,<- a1] at tt;rw[<- a8] at HT;rw[<- hV];unfold q1o at hV;rw[<- a2,<- a1,<- a0] at hV;have HV:=vv hV;have HO:=vv a0;have b1:=vv a1;obtain⟨w0,a5⟩:=yx (w.alloc (.cells #[.int .u8 (kind:Int),.bool neg,.bool dneg,.string s,.int .i64 x,.bool hneg,.slice A n c,.int .i64 hx,.int .u64 (p:Int)] 33));have b2:Below w.heap.size w w0:=by rw[a5];exact(Below.refl _ w).alloc lr _
 have b3:NumBox w0 w.heap.size kind neg dneg s x hneg A n c hx p:=by rw[a5];exact NumBox.made w _ _ _ _ _ _ _ _ _ _ _ _
 have HN:=vv b3;have HB:=vv b2;have b4:=vv a5;have a9:=vv ((Below.refl w.heap.size w).alloc (o:=.cells #[.int .u8 (kind:Int),.bool neg,.bool dneg,.string s,.int .i64 x,.bool hneg,.slice A n c,.int .i64 hx,.int .u64 (p:Int)] 33) lr);have b5:=hr.sm;clear a5 b2 b3 hr a2 a1 a0 hV a7 a8 hmax;obtain⟨c0,c1,c2,c3,c4,c5,c6,c7,c8,cl⟩:=HN.o;subst hd;have HE:Hid (q1O false s x=true):=vv (by unfold q1O;rw[he,tx];rfl);go_enter Tryz.func25,Tryz.ntmps25
 by_cases hn:n=0
 focus
  have tn:((n:Int)==0)=true:=by rw[hn];rfl
  have a6:=vv hn;cases th:(hx==0)
  focus
   have a3:hx≠0:=by rw[beq_eq_false_iff_ne] at th;exact th
   have HO:Hid (nn=false):=vv (by rw[HO.o];unfold R11.noTwoB;rw[decide_eq_false a3];simp);have HZ:Hid (two=true->n≠0):=vv (fun ht _=>by rw[b1.o] at ht;exact a3 (q0Q ht hn).1);clear hn a3
  rotate_left 1
  focus
   have b0:hx=0:=by rw[beq_iff_eq] at th;exact th
   cases hneg
   focus
    have HO:Hid (nn=true):=vv (by rw[HO.o];unfold R11.noTwoB;rw[decide_eq_true hn,decide_eq_true b0];rfl);clear b0 hn
   rotate_left 1
   focus
    have HO:Hid (nn=false):=vv (by rw[HO.o];unfold R11.noTwoB;simp);have HZ:Hid (two=true->n≠0):=vv (fun ht _=>by rw[b1.o] at ht;exact absurd (q0Q ht hn).2 (by decide));clear hn b0
 rotate_left 3
 focus
  have tn:((n:Int)==0)=false:=by rw[beq_eq_false_iff_ne];omega
  have HO:Hid (nn=false):=vv (by rw[HO.o];unfold R11.noTwoB;rw[decide_eq_false hn];rfl);have HZ:Hid (two=true->n≠0):=vv (fun _=>hn);clear hn
 all_goals
  rcases(by omega:kind=1\/kind=2\/kind=3\/kind=4\/(kind≠1/\kind≠2/\kind≠3/\kind≠4)) with hk|hk|hk|hk|⟨q1,q2,q3,q4⟩
  ·have HK:=vv hk;have t1:((kind:Int)==1)=true:=by rw[hk];rfl
   clear hk;go_wp2_with fail
   rw[<- b4.o];refine(HD.o _).mono ?_;rintro e w1 ⟨rfl,a4⟩;have HN:=vv (HN.o.below a4);have HB:=vn HB a4;clear a4 c0 c1 c2 c3 c4 c5 c6 c7 c8 cl;obtain⟨c0,c1,c2,c3,c4,c5,c6,c7,c8,cl⟩:=HN.o;cases dec<;>cases neg<;>rcases zero_or p with ⟨hp,tp⟩|⟨hp,tp⟩
   all_goals
    have HP:=vv hp;clear hp;go_wp2;go_ret
    exact⟨q0A (by rw[HV.o,HE.o,HO.o];first|(simp [q05,HK.o];done)|(simp [q05,HK.o,HP.o];done)|(simp [q05,HK.o,HP.o,a6.o];done)|(simp [q05,HK.o,HZ.o rfl];done)|(simp [q05,HK.o,HP.o,HZ.o rfl];done)|(simp [q05,HK.o,HZ.o trivial];done)|(simp [q05,HK.o,HP.o,HZ.o trivial];done)),HB.o⟩
  ·have HK:=vv hk;have t1:((kind:Int)==1)=false:=by rw[beq_eq_false_iff_ne];omega
   have t2:((kind:Int)==2)=true:=by rw[hk];rfl
   clear hk;go_wp2_with fail
   rw[<- b4.o];refine(HT.o _ HB.o).mono ?_;rintro e w1 ⟨rfl,a4⟩;have HN:=vv (HN.o.below a4);have HB:=vn HB a4;clear a4 c0 c1 c2 c3 c4 c5 c6 c7 c8 cl;obtain⟨c0,c1,c2,c3,c4,c5,c6,c7,c8,cl⟩:=HN.o;cases two<;>(try cases hneg)<;>cases neg<;>rcases zero_or p with ⟨hp,tp⟩|⟨hp,tp⟩
   all_goals
    have HP:=vv hp;clear hp;go_wp2;go_ret
    exact⟨q0A (by rw[HV.o,HE.o,HO.o];first|(simp [q05,HK.o];done)|(simp [q05,HK.o,HP.o];done)|(simp [q05,HK.o,HP.o,a6.o];done)|(simp [q05,HK.o,HZ.o rfl];done)|(simp [q05,HK.o,HP.o,HZ.o rfl];done)|(simp [q05,HK.o,HZ.o trivial];done)|(simp [q05,HK.o,HP.o,HZ.o trivial];done)),HB.o⟩
  ·have HK:=vv hk;have t1:((kind:Int)==1)=false:=by rw[beq_eq_false_iff_ne];omega
   have t2:((kind:Int)==2)=false:=by rw[beq_eq_false_iff_ne];omega
   have t3:((kind:Int)==3)=true:=by rw[hk];rfl
   clear hk;rcases zero_or p with ⟨hp,tp⟩|⟨hp,tp⟩;all_goals
    have HP:=vv hp;clear hp;go_wp2;go_ret
    exact⟨q0A (by rw[HV.o,HE.o,HO.o];first|(simp [q05,HK.o];done)|(simp [q05,HK.o,HP.o];done)|(simp [q05,HK.o,HP.o,a6.o];done)|(simp [q05,HK.o,HZ.o rfl];done)|(simp [q05,HK.o,HP.o,HZ.o rfl];done)|(simp [q05,HK.o,HZ.o trivial];done)|(simp [q05,HK.o,HP.o,HZ.o trivial];done)),a9.o⟩
  ·have HK:=vv hk;have t1:((kind:Int)==1)=false:=by rw[beq_eq_false_iff_ne];omega
   have t2:((kind:Int)==2)=false:=by rw[beq_eq_false_iff_ne];omega
   have t3:((kind:Int)==3)=false:=by rw[beq_eq_false_iff_ne];omega
   have t4:((kind:Int)==4)=true:=by rw[hk];rfl
   clear hk;rcases q7Y p with ⟨hp,tp⟩|⟨hp,tp⟩;all_goals
    have HP:=vv hp;clear hp;go_wp2;go_ret
    exact⟨q0A (by rw[HV.o,HE.o,HO.o];first|(simp [q05,HK.o];done)|(simp [q05,HK.o,HP.o];done)|(simp [q05,HK.o,HP.o,a6.o];done)|(simp [q05,HK.o,HZ.o rfl];done)|(simp [q05,HK.o,HP.o,HZ.o rfl];done)|(simp [q05,HK.o,HZ.o trivial];done)|(simp [q05,HK.o,HP.o,HZ.o trivial];done)),a9.o⟩
  ·have t1:((kind:Int)==1)=false:=by rw[beq_eq_false_iff_ne];omega
   have t2:((kind:Int)==2)=false:=by rw[beq_eq_false_iff_ne];omega
   have t3:((kind:Int)==3)=false:=by rw[beq_eq_false_iff_ne];omega
   have t4:((kind:Int)==4)=false:=by rw[beq_eq_false_iff_ne];omega
   all_goals
    go_wp2;go_ret
    exact⟨q0A (by rw[HV.o,HE.o,HO.o];simp [q05,q1,q2,q3,q4]),a9.o⟩
theorem qah(kind:Nat)(neg dneg:Bool)(s:ByteArray)(x:Int)(hneg:Bool)(A:Option Addr)(n c:Nat)(xs:List Nat)(hx:Int)(p:Nat)(w:World)(hr:Rd w A n c xs)(hmax:(s.size:Int)<=4611686018427387904)(hd:dneg=true):
  Calls Tryz.prog 25 #[numV kind neg dneg s x hneg A n c hx p] w fun e w'=>e=.returned (.int .i64 (q05 (q1o kind neg dneg s x hneg n xs hx p)))/\Below w.heap.size w w':=by
 obtain⟨dec,a2⟩:=yx (q0S s x);obtain⟨two,a1⟩:=yx (twoOk hneg n xs hx);obtain⟨nn,a0⟩:=yx (R11.noTwoB hneg n hx);obtain⟨V,hV⟩:=yx (q1o kind neg dneg s x hneg n xs hx p);have HD:=vv fun w=>Dec.Check dneg s x w hmax
 have HT:=vv fun w' (h:Below w.heap.size w w')=>Exa.Check hneg A n c xs hx w' (hr.below h rfl)
 have td:=Dec.decErr_zero s x;have tt:=Exa.exaErr_zero hneg n xs hx;obtain⟨zd,a7⟩:=yx (Dec.decErr s x);obtain⟨zt,a8⟩:=yx (Exa.exaErr hneg n xs hx);rw[<- a7,<- a2] at td;rw[<- a7] at HD;rw[<- a8,<- a1] at tt;rw[<- a8] at HT;rw[<- hV];unfold q1o at hV;rw[<- a2,<- a1,<- a0] at hV;have HV:=vv hV;have HO:=vv a0;have b1:=vv a1;obtain⟨w0,a5⟩:=yx (w.alloc (.cells #[.int .u8 (kind:Int),.bool neg,.bool dneg,.string s,.int .i64 x,.bool hneg,.slice A n c,.int .i64 hx,.int .u64 (p:Int)] 33));have b2:Below w.heap.size w w0:=by rw[a5];exact(Below.refl _ w).alloc lr _
 have b3:NumBox w0 w.heap.size kind neg dneg s x hneg A n c hx p:=by rw[a5];exact NumBox.made w _ _ _ _ _ _ _ _ _ _ _ _
 have HN:=vv b3;have HB:=vv b2;have b4:=vv a5;have a9:=vv ((Below.refl w.heap.size w).alloc (o:=.cells #[.int .u8 (kind:Int),.bool neg,.bool dneg,.string s,.int .i64 x,.bool hneg,.slice A n c,.int .i64 hx,.int .u64 (p:Int)] 33) lr);have b5:=hr.sm;clear a5 b2 b3 hr a2 a1 a0 hV a7 a8 hmax;obtain⟨c0,c1,c2,c3,c4,c5,c6,c7,c8,cl⟩:=HN.o;subst hd;have HE:Hid (q1O true s x=false):=vv (by unfold q1O;rfl);go_enter Tryz.func25,Tryz.ntmps25
 by_cases hn:n=0
 focus
  have tn:((n:Int)==0)=true:=by rw[hn];rfl
  have a6:=vv hn;cases th:(hx==0)
  focus
   have a3:hx≠0:=by rw[beq_eq_false_iff_ne] at th;exact th
   have HO:Hid (nn=false):=vv (by rw[HO.o];unfold R11.noTwoB;rw[decide_eq_false a3];simp);have HZ:Hid (two=true->n≠0):=vv (fun ht _=>by rw[b1.o] at ht;exact a3 (q0Q ht hn).1);clear hn a3
  rotate_left 1
  focus
   have b0:hx=0:=by rw[beq_iff_eq] at th;exact th
   cases hneg
   focus
    have HO:Hid (nn=true):=vv (by rw[HO.o];unfold R11.noTwoB;rw[decide_eq_true hn,decide_eq_true b0];rfl);clear b0 hn
   rotate_left 1
   focus
    have HO:Hid (nn=false):=vv (by rw[HO.o];unfold R11.noTwoB;simp);have HZ:Hid (two=true->n≠0):=vv (fun ht _=>by rw[b1.o] at ht;exact absurd (q0Q ht hn).2 (by decide));clear hn b0
 rotate_left 3
 focus
  have tn:((n:Int)==0)=false:=by rw[beq_eq_false_iff_ne];omega
  have HO:Hid (nn=false):=vv (by rw[HO.o];unfold R11.noTwoB;rw[decide_eq_false hn];rfl);have HZ:Hid (two=true->n≠0):=vv (fun _=>hn);clear hn
 all_goals
  rcases(by omega:kind=1\/kind=2\/kind=3\/kind=4\/(kind≠1/\kind≠2/\kind≠3/\kind≠4)) with hk|hk|hk|hk|⟨q1,q2,q3,q4⟩
  ·have HK:=vv hk;have t1:((kind:Int)==1)=true:=by rw[hk];rfl
   clear hk;go_wp2_with fail
   rw[<- b4.o];refine(HD.o _).mono ?_;rintro e w1 ⟨rfl,a4⟩;have HN:=vv (HN.o.below a4);have HB:=vn HB a4;clear a4 c0 c1 c2 c3 c4 c5 c6 c7 c8 cl;obtain⟨c0,c1,c2,c3,c4,c5,c6,c7,c8,cl⟩:=HN.o;cases dec<;>cases neg<;>rcases zero_or p with ⟨hp,tp⟩|⟨hp,tp⟩
   all_goals
    have HP:=vv hp;clear hp;go_wp2;go_ret
    exact⟨q0A (by rw[HV.o,HE.o,HO.o];first|(simp [q05,HK.o];done)|(simp [q05,HK.o,HP.o];done)|(simp [q05,HK.o,HP.o,a6.o];done)|(simp [q05,HK.o,HZ.o rfl];done)|(simp [q05,HK.o,HP.o,HZ.o rfl];done)|(simp [q05,HK.o,HZ.o trivial];done)|(simp [q05,HK.o,HP.o,HZ.o trivial];done)),HB.o⟩
  ·have HK:=vv hk;have t1:((kind:Int)==1)=false:=by rw[beq_eq_false_iff_ne];omega
   have t2:((kind:Int)==2)=true:=by rw[hk];rfl
   clear hk;go_wp2_with fail
   rw[<- b4.o];refine(HT.o _ HB.o).mono ?_;rintro e w1 ⟨rfl,a4⟩;have HN:=vv (HN.o.below a4);have HB:=vn HB a4;clear a4 c0 c1 c2 c3 c4 c5 c6 c7 c8 cl;obtain⟨c0,c1,c2,c3,c4,c5,c6,c7,c8,cl⟩:=HN.o;cases two<;>(try cases hneg)<;>cases neg
   all_goals
    go_wp2;go_ret
    exact⟨q0A (by rw[HV.o,HE.o,HO.o];first|(simp [q05,HK.o];done)|(simp [q05,HK.o,HP.o];done)|(simp [q05,HK.o,HP.o,a6.o];done)|(simp [q05,HK.o,HZ.o rfl];done)|(simp [q05,HK.o,HP.o,HZ.o rfl];done)|(simp [q05,HK.o,HZ.o trivial];done)|(simp [q05,HK.o,HP.o,HZ.o trivial];done)),HB.o⟩
  ·have HK:=vv hk;have t1:((kind:Int)==1)=false:=by rw[beq_eq_false_iff_ne];omega
   have t2:((kind:Int)==2)=false:=by rw[beq_eq_false_iff_ne];omega
   have t3:((kind:Int)==3)=true:=by rw[hk];rfl
   clear hk;all_goals
    go_wp2;go_ret
    exact⟨q0A (by rw[HV.o,HE.o,HO.o];first|(simp [q05,HK.o];done)|(simp [q05,HK.o,HP.o];done)|(simp [q05,HK.o,HP.o,a6.o];done)|(simp [q05,HK.o,HZ.o rfl];done)|(simp [q05,HK.o,HP.o,HZ.o rfl];done)|(simp [q05,HK.o,HZ.o trivial];done)|(simp [q05,HK.o,HP.o,HZ.o trivial];done)),a9.o⟩
  ·have HK:=vv hk;have t1:((kind:Int)==1)=false:=by rw[beq_eq_false_iff_ne];omega
   have t2:((kind:Int)==2)=false:=by rw[beq_eq_false_iff_ne];omega
   have t3:((kind:Int)==3)=false:=by rw[beq_eq_false_iff_ne];omega
   have t4:((kind:Int)==4)=true:=by rw[hk];rfl
   clear hk;all_goals
    go_wp2;go_ret
    exact⟨q0A (by rw[HV.o,HE.o,HO.o];first|(simp [q05,HK.o];done)|(simp [q05,HK.o,HP.o];done)|(simp [q05,HK.o,HP.o,a6.o];done)|(simp [q05,HK.o,HZ.o rfl];done)|(simp [q05,HK.o,HP.o,HZ.o rfl];done)|(simp [q05,HK.o,HZ.o trivial];done)|(simp [q05,HK.o,HP.o,HZ.o trivial];done)),a9.o⟩
  ·have t1:((kind:Int)==1)=false:=by rw[beq_eq_false_iff_ne];omega
   have t2:((kind:Int)==2)=false:=by rw[beq_eq_false_iff_ne];omega
   have t3:((kind:Int)==3)=false:=by rw[beq_eq_false_iff_ne];omega
   have t4:((kind:Int)==4)=false:=by rw[beq_eq_false_iff_ne];omega
   all_goals
    go_wp2;go_ret
    exact⟨q0A (by rw[HV.o,HE.o,HO.o];simp [q05,q1,q2,q3,q4]),a9.o⟩
theorem Check(kind:Nat)(neg dneg:Bool)(s:ByteArray)(x:Int)(hneg:Bool)(A:Option Addr)(n c:Nat)(xs:List Nat)(hx:Int)(p:Nat)(w:World)(hr:Rd w A n c xs)(hmax:(s.size:Int)<=4611686018427387904):
  Calls Tryz.prog 25 #[numV kind neg dneg s x hneg A n c hx p] w fun e w'=>e=.returned (.int .i64 (q05 (q1o kind neg dneg s x hneg n xs hx p)))/\Below w.heap.size w w':=by
 cases hd:dneg
 ·cases he:s.toList.isEmpty
  ·exact qak kind neg false s x hneg A n c xs hx p w hr hmax he rfl
  ·cases tx:(x==0)
   ·exact qaj kind neg false s x hneg A n c xs hx p w hr hmax he rfl tx
   ·exact qai kind neg false s x hneg A n c xs hx p w hr hmax he rfl tx
 ·exact qah kind neg true s x hneg A n c xs hx p w hr hmax rfl
end Go.Proofs.YtcdimmblnbkjjaaGreatDoor.Lex
namespace Go.Proofs.YtcdimmblnbkjjaaGreatDoor.Rtp
open Go Go.RowKit R5
theorem whole(Ad:Option Addr)(n c N:Nat)(w:World)(hr:Rd w Ad n c (toL N))(hn:n<=1000000):
  Calls Tryz.prog 184 #[q4b Ad n c] w (q3s (N:Int) w):=by
 obtain⟨w0,a5⟩:=yx (w.alloc (.cells #[.slice Ad n c] 28));have b0:Below w.heap.size w w0:=by rw[a5];exact(Below.refl _ w).alloc lr _
 have c0:w0.cell? ⟨w.heap.size,0,none⟩=some (.slice Ad n c):=by rw[a5];simp only[World.cell?];rw[heap_alloc_new];rfl
 have l0:w.heap.size<w0.heap.size:=by rw[a5];simp
 obtain⟨m,hm⟩:=yx (4*n);have c5:m<=35184372088832:=by omega
 have g8:=A.mk8 m c5;have e7:4*(n:Int)=(m:Int):=by omega
 have g9:(m:Int)<=4000000:=by omega
 have i0:(n:Int)<=1000000:=by omega
 have c6:N<256^m:=by
  have:=q0o N;rw[hr.words,qaG,<- hm] at this;exact this
 have HM:=vv hm;have e8:=vv c6;have HR:=vv hr;have e9:=vv a5;have c7:=vv b0;have i1:=vv c0;have i2:=vv l0;have s0:w0.heap.size=w.heap.size+1:=by rw[a5];simp
 have h1:=q3r.made w0 m 5;have h3:=(Below.refl w0.heap.size w0).alloc (o:=.cells (madeCells #[.int .u8 0] m) 5) lr;rw[s0] at h1 h3;have H1:=vv h1;have H3:=vv h3;have i3:=vv s0;clear h1 h3 s0;clear hr a5 b0 hm c6;go_enter Tryz.func184,Tryz.ntmps184
 go_wp2;rw[<- e9.o];clear e7 c0 l0;go_loopw [15] (fun t wr=>∃(i:Nat) (U:List Nat),t=.int .i64 i/\i<=n/\q3r wr (w.heap.size+1) 5 U/\U.length=m/\(∀j,m-4*i<=j->j<m->nth U j=bt N (m-1-j))/\Below (w.heap.size+1) w0 wr) (fun t _=>n-(intOf t).toNat)
 case atStart=>exact⟨0,List.replicate m 0,rfl,Nat.zero_le _,H1.o,List.length_replicate,fun j h1 h2=>absurd h1 (by omega),H3.o⟩
 case round =>
  obtain⟨i,U,rfl,c8,a0,b1,b2,hB⟩:=hrel;have b3:=vv a0;have c9:=vv b1;have d0:=vv b2;have HB:=vv hB;by_cases him:i<n
  ·obtain⟨b,off,e,d1,d2⟩:=HR.o.cell (by omega);subst e;have d3:b<w.heap.size+1:=by omega
   have f0:=(hB.cell (p:=⟨b,off+i,none⟩) d3).trans ((c7.o.cell (p:=⟨b,off+i,none⟩) d1).trans (d2 i him));have d4:nth (toL N) i<4294967296:=HR.o.nth_lt i;have a1:=q1I (q1B N) i 0 (by omega);have a2:=q1I (q1B N) i 1 (by omega);have a3:=q1I (q1B N) i 2 (by omega);have a4:=q1I (q1B N) i 3 (by omega);rw[q03] at a1 a2 a3 a4;rw[Nat.pow_zero,Nat.div_one] at a1;rw[Nat.pow_one] at a2;rw[show 256^2=65536 from rfl] at a3;rw[show 256^3=16777216 from rfl] at a4;obtain⟨x,hx⟩:=yx (nth (toL N) i);obtain⟨C0,b4⟩:=yx (bt N (4*i+0));obtain⟨C1,b6⟩:=yx (bt N (4*i+1));obtain⟨C2,b7⟩:=yx (bt N (4*i+2));obtain⟨C3,b8⟩:=yx (bt N (4*i+3));rw[<- hx] at f0 d4 a1 a2 a3 a4;rw[<- b4] at a1;rw[<- b6] at a2;rw[<- b7] at a3;rw[<- b8] at a4;have v0:(x:Int)%256=(C0:Int):=by omega
   have v1:(x:Int)/256%256=(C1:Int):=by omega
   have v2:(x:Int)/65536%256=(C2:Int):=by omega
   have v3:(x:Int)/16777216=(C3:Int):=by omega
   obtain⟨a,ha⟩:=yx (m-4*i);have f5:4<=a:=by have:=HM.o;omega
   have f6:a<=m:=by omega
   obtain⟨p,hp⟩:=yx (a-4);have i4:(m:Int)-4*(i:Int)=(a:Int):=by have:=HM.o;omega
   have q1:(a:Int)-1=((p+3:Nat):Int):=by omega
   have q2:(a:Int)-2=((p+2:Nat):Int):=by omega
   have q3:(a:Int)-3=((p+1:Nat):Int):=by omega
   have q4:(a:Int)-4=(p:Int):=by omega
   obtain⟨p1,d5⟩:=yx (p+3);obtain⟨p2,d6⟩:=yx (p+2);obtain⟨p3,d7⟩:=yx (p+1);rw[<- d5] at q1;rw[<- d6] at q2;rw[<- d7] at q3;have m1:(p1:Int)<(m:Int):=by omega
   have m2:(p2:Int)<(m:Int):=by omega
   have m3:(p3:Int)<(m:Int):=by omega
   have m4:(p:Int)<(m:Int):=by omega
   obtain⟨w1,a6⟩:=yx (wr.setCell ⟨w.heap.size+1,p1,none⟩ (.int .u8 (C0:Int)));obtain⟨w2,a7⟩:=yx (w1.setCell ⟨w.heap.size+1,p2,none⟩ (.int .u8 (C1:Int)));obtain⟨w3,a8⟩:=yx (w2.setCell ⟨w.heap.size+1,p3,none⟩ (.int .u8 (C2:Int)));have o1:q3r w1 (w.heap.size+1) 5 (U.set p1 C0):=by rw[a6];exact a0.set (by omega) rfl
   have o2:q3r w2 (w.heap.size+1) 5 ((U.set p1 C0).set p2 C1):=by rw[a7];exact o1.set (by rw[List.length_set];omega) rfl
   have o3:q3r w3 (w.heap.size+1) 5 (((U.set p1 C0).set p2 C1).set p3 C2):=by rw[a8];exact o2.set (by simp only[List.length_set];omega) rfl
   have HS:=vv (o3.set (i:=p) (x:=C3) (by simp only[List.length_set];omega) rfl);have c1:=a0.cell (i:=p1) (by omega);have f1:=a0.frozen p1;have l1:=a0.lt;have c2:=o1.cell (i:=p2) (by simp only[List.length_set];omega);have f2:=o1.frozen p2;have l2:=o1.lt;have c3:=o2.cell (i:=p3) (by simp only[List.length_set];omega);have f3:=o2.frozen p3;have l3:=o2.lt;have c4:=o3.cell (i:=p) (by simp only[List.length_set];omega);have f4:=o3.frozen p;have l4:=o3.lt;have f7:Hid (Below (w.heap.size+1) w0 (w3.setCell ⟨w.heap.size+1,p,none⟩ (.int .u8 (C3:Int)))):=vv (by
    rw[a8,a7,a6];exact(((hB.setCell lr _).setCell lr _).setCell lr _).setCell lr _)
   have f8:Hid (∀j,m-4*(i+1)<=j->j<m->nth ((((U.set p1 C0).set p2 C1).set p3 C2).set p C3) j=bt N (m-1-j)):=vv (fun j h1 h2=>by
    rw[q0M _ p C3 j (by simp only[List.length_set];omega),q0M _ p3 C2 j (by simp only[List.length_set];omega),q0M _ p2 C1 j (by simp only[List.length_set];omega),q0M _ p1 C0 j (by omega)];have hm:=HM.o;by_cases e4:j=p
    ·rw[if_pos e4,b8];congr 1;omega
    rw[if_neg e4];by_cases e3:j=p3
    ·rw[if_pos e3,b7];congr 1;omega
    rw[if_neg e3];by_cases e2:j=p2
    ·rw[if_pos e2,b6];congr 1;omega
    rw[if_neg e2];by_cases e1:j=p1
    ·rw[if_pos e1,b4];congr 1;omega
    rw[if_neg e1];exact d0.o j (by omega) h2)
   obtain⟨z1,d8⟩:=yx (nth U p1);obtain⟨z2,d9⟩:=yx (nth (U.set p1 C0) p2);obtain⟨z3,e0⟩:=yx (nth ((U.set p1 C0).set p2 C1) p3);obtain⟨z4,e5⟩:=yx (nth (((U.set p1 C0).set p2 C1).set p3 C2) p);rw[<- d8] at c1;rw[<- d9] at c2;rw[<- e0] at c3;rw[<- e5] at c4;clear d8 d9 e0 e5;have f9:=vv a6;have g0:=vv a7;have g1:=vv a8;have i6:(x:Int)<=4294967295:=by omega
   have i7:(i:Int)<(n:Int):=by omega
   have i8:(i:Int)<=1000000:=by omega
   have g2:(a:Int)<=4000000:=by omega
   clear d1 d3 d2 hB a0 b2 b1 hx b4 b6 b7 b8 a1 a2 a3 a4 d4 ha hp d5 d6 d7 a6 a7 a8 o1 o2 o3 c8 him f5 f6;go_wp2_with (first|rw[<- f9.o]|rw[<- g0.o]|rw[<- g1.o])
   go_roundw
   case rel=>exact⟨i+1,_,by go_num,by omega,HS.o,by simp only[List.length_set];exact c9.o,f8.o,f7.o⟩
   case measure=>simp [intOf];omega
  ·obtain rfl:i=n:=by omega
   have g3:Hid (Bd wr (some ⟨w.heap.size+1,0,none⟩) m m N):=vv (b3.o.bd c9.o.symm lr c5 e8.o (fun j h=>d0.o j (by have:=HM.o;omega) h));have b9:Hid (Below w.heap.size w wr):=vv (c7.o.trans (hB.mono (by omega)));obtain⟨w5,a9⟩:=yx (wr.alloc (.cells #[.bool false,.slice none 0 0] 143));have b5:Below wr.heap.size wr w5:=by rw[a9];exact(Below.refl _ wr).alloc lr _
   have i5:IntAt w5 wr.heap.size 0 0:=by rw[a9];exact IntAt.zero wr _
   have g4:=vv (A.SetBytes wr.heap.size 0 0 _ m m N w5 i5 (g3.o.below b5 rfl) (by omega));have i9:=vv i5;have g5:=vv a9;have e6:=vn b9 b5;clear a0 b2 b1 hB him c8 a9 b5 i5;go_wp2_with fail
   rw[<- g5.o];refine g4.o.mono ?_;rintro e w6 ⟨rfl,hI,hF⟩;have g6:=vv hI;have g7:Hid (Below w.heap.size w w6):=vv (Fm.below e6.o hF e6.o.size b9.o.size);clear hI hF;go_wp2;go_ret
   exact⟨_,rfl,b9.o.size,g6.o,g7.o⟩
end Go.Proofs.YtcdimmblnbkjjaaGreatDoor.Rtp
