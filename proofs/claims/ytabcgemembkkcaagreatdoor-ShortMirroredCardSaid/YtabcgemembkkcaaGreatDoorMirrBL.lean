/- Lemmas. -/
import Derived.Test.YtabcgemembkkcaaGreatDoorMirrBI
import Derived.Lib.ItoaLen
import Derived.Lib.AppendIntMem
import Derived.Lib.RepeatB
set_option linter.all false
open Go.Proofs.Tryz
namespace Go.Proofs.YtabcgemembkkcaaGreatDoor
variable{w:World}{g base n:Nat}{t e:TypeId}{U:List Nat}{v:Value}{xs:List Value}
namespace Bld
open Go Go.RowKit R5
end Bld
namespace Hx
open Go Go.RowKit R5 Scn Fms Exa
def hx(d:Nat):UInt8:=([48,49,50,51,52,53,54,55,56,57,97,98,99,100,101,102]:List UInt8).getD d 0
def hexL(N:Nat):Nat->List UInt8
 | 0=>[]
 | k+1=>hx (N/16^k%16)::hexL N k
def qaW(neg:Bool)(l:List UInt8)(x:Int):List UInt8:=(if neg then[45] else[])++([48,120]++l.take 1++(if 1<l.length then 46::l.drop 1 else[])++112::Lib.itoa x)
def oddN(M:Nat):Nat:=if M=0 then 0 else M/2^tz M
def qd7(M:Nat)(p:Int):Int:=if M=0 then 0 else p+(tz M:Int)
def qd8(neg:Bool)(M:Nat):Bool:=if M=0 then false else neg
def qdX(neg g:Bool)(N:Nat)(x:Int)(w:World)(e:Ending)(w':World):Prop:=
 ∃A m,e=.returned (.tuple #[q14 g A m m x,.bool neg,.int .i64 0])/\Rd w' A m m (toL N)/\Fr w.heap.size A/\Below w.heap.size w w'
def qdg(E F b:Nat):List UInt8:=[48,120]++hexL b ((E+F+4)/4)
def up4(s:Nat):Nat:=(4-(s-1)%4)%4
def qcM(neg:Bool)(N:Nat)(x:Int):List UInt8:=
 if N=0 then qaW neg [48] 0 else qaW neg (hexL (N*2^up4 (bl N)) ((bl N+up4 (bl N)+3)/4)) (x+(bl N:Int)-1)
end Hx
namespace B
open AB
open Go Go.RowKit Scn Hx
def fgN(b N i:Nat):Nat:=(hx (N/b^i%b)).toNat
def qdB(b N t:Nat):List Nat:=(List.range t).map (fgN b N)
def qdi(b N:Nat):Nat->List Nat
 | 0=>[]
 | k+1=>fgN b N k::qdi b N k
structure HasLen(b N k:Nat):Prop where
 lt:N<b^k
 ge:0<k->b^(k-1)<=N
theorem HasLen.uniq{b N k l:Nat}(hb:2<=b)(h:HasLen b N k)(h':HasLen b N l):k=l:=by
 rcases k1w k l with e|e|e
 ·have a:=h'.ge (by omega);have c:b^k<=b^(l-1):=k04 (by omega) (by omega);have:=h.lt;omega
 ·exact e
 ·have a:=h.ge (by omega);have c:b^l<=b^(k-1):=k04 (by omega) (by omega);have:=h'.lt;omega
structure BlkOk(b p:Nat):Prop where
 two:2<=b
 le:b<=16
 one:1<=p
 few:p<=9
 lo:∀q,q<p->b^q<=4294967295/b
 hi:4294967295/b<b^p
 top:b^p<4294967296
theorem q74(h:q2f w g t U):w.heap[g]?=some (.cells (u8s U).toArray t (0,0)):=by
 obtain⟨c,a,d,b⟩:=h;rw[a];congr 2;apply Array.ext_getElem?;intro i;by_cases hi:i<U.length
 ·rw[b i hi,List.getElem?_toArray,q6z U hi]
 ·rw[Array.getElem?_eq_none (by omega),List.getElem?_toArray,List.getElem?_eq_none (by simp [u8s];omega)]
theorem own8_row(h:q2f w g t U)(hn:U.length=n)(hg:base<=g)(hm:n<=maxLen):w.ownsRow base t 1 (.slice (some ⟨g,0,none⟩) n n) n (u8s U):=⟨by simp [u8s,hn],.inr ⟨g,n,(u8s U).toArray,rfl,hg,q74 h,lr,hm,by simp [u8s,hn],by rw[List.toList_toArray];exact k0w (by simp [u8s,hn])⟩⟩
theorem mk8'(n:Nat)(h:n<=35184372088832)(w:World):(Instr.makeSlice 229 (.int .i64 (n:Int)) (.int .i64 (n:Int))).run Tryz.prog w=.ok (.slice (some ⟨w.heap.size,0,none⟩) n n) (w.alloc (.cells (madeCells #[.int .u8 0] n) 5)):=run_make_row' (P:=Tryz.prog) 229 5 (.int .u8 0) 1 underlying229 inf8' rfl .i64 .i64 n (by omega) (by omega) w
def vlen(v:Value):Nat:=match v with|.slice _ n _=>n|_=>0
theorem vlen_row(h:w.ownsRow base e 1 v n xs):vlen v=n:=by
 rcases h.2 with ⟨rfl,a⟩|⟨g,cap,b,rfl,_⟩
 ·exact a.symm
 ·rfl
theorem q3W(h:w.ownsRow base e 1 v n xs):∃A cap,v=.slice A n cap:=by
 rcases h.2 with ⟨a,rfl⟩|⟨g,cap,c,b,_⟩
 ·exact⟨none,0,a⟩
 ·exact⟨_,_,b⟩
theorem len_row(h:w.ownsRow base e 1 v n xs):∀W:World,(Builtin.len_ #[229] 3 #[v]).run Tryz.prog W=.ok (.int .i64 (n:Int)) W:=by obtain⟨A,c,rfl⟩:=q3W h;intro W;simp [Builtin.len_,go_sem,underlying229]
theorem row8_lt(h:w.ownsRow base e 1 v n xs):∀b,v.ownBlock=some b->base<=b/\b<w.heap.size:=by
 intro b a;rcases h.2 with ⟨rfl,i⟩|⟨g,cap,f,rfl,c,d,_⟩
 ·simp [Value.ownBlock] at a
 ·simp [Value.ownBlock] at a;subst a;exact⟨c,(Array.getElem?_eq_some_iff.1 d).1⟩
end B
namespace Bld
open Go Go.RowKit R5
end Bld
namespace Rpt
open Go Go.RowKit R5 Scn
abbrev qcP:ByteArray:=⟨#[48]⟩
def nts(c:Nat):ByteArray:=⟨(List.replicate c 48).toArray⟩
abbrev K0:ByteArray:=⟨#[48,48,48,48,48,48,48,48,48,48,48,48,48,48,48,48,48,48,48,48,48,48,48,48,48,48,48,48,48,48,48,48,48,48,48,48,48,48,48,48,48,48,48,48,48,48,48,48,48,48,48,48,48,48,48,48,48,48,48,48,48,48,48,48]⟩
abbrev cs(q:Nat):List Value:=Lib.byteCells (List.replicate q 48)
end Rpt
namespace Hx
open Go Go.RowKit R5 Scn Fms Exa
end Hx
end Go.Proofs.YtabcgemembkkcaaGreatDoor
