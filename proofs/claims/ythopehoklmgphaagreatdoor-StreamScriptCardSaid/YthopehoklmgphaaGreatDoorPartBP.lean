/- Lemmas. -/
import Derived.Test.YthopehoklmgphaaGreatDoorPartBN
set_option linter.all false
open Go.Proofs.Tryz
namespace Go.Proofs.YthopehoklmgphaaGreatDoor
namespace Bld
open Go Go.RowKit R5
end Bld
namespace Hx
open Go Go.RowKit R5 Scn Fms Exa
def hx(d:Nat):UInt8:=([48,49,50,51,52,53,54,55,56,57,97,98,99,100,101,102]:List UInt8).getD d 0
def qef(N:Nat):Nat->List UInt8
 | 0=>[]
 | k+1=>hx (N/16^k%16)::qef N k
end Hx
namespace B
open AB
open Go Go.RowKit Scn Hx
def fgN(b N i:Nat):Nat:=(hx (N/b^i%b)).toNat
def qfp(b N t:Nat):List Nat:=(List.range t).map (fgN b N)
def qfc(b N:Nat):Nat->List Nat
 | 0=>[]
 | k+1=>fgN b N k::qfc b N k
structure HasLen(b N k:Nat):Prop where
 lt:N<b^k
 ge:0<k->b^(k-1)<=N
theorem HasLen.uniq{b N k l:Nat}(hb:2<=b)(h:HasLen b N k)(h':HasLen b N l):k=l:=by
 rcases k2p k l with e|e|e
 ·have a:=h'.ge (by omega);have c:b^k<=b^(l-1):=k05 (by omega) (by omega);have:=h.lt;omega
 ·exact e
 ·have a:=h.ge (by omega);have c:b^l<=b^(k-1):=k05 (by omega) (by omega);have:=h'.lt;omega
structure BlkOk(b p:Nat):Prop where
 two:2<=b
 le:b<=16
 one:1<=p
 few:p<=9
 lo:∀q,q<p->b^q<=4294967295/b
 hi:4294967295/b<b^p
 top:b^p<4294967296
theorem q8U{w:World}{g:Nat}{t:TypeId}{U:List Nat}(h:q2M w g t U):w.heap[g]?=some (.cells (u8s U).toArray t (0,0)):=by
 obtain⟨c,a,d,b⟩:=h;rw[a];congr 2;apply Array.ext_getElem?;intro i;by_cases hi:i<U.length
 ·rw[b i hi,k1J,q8s U hi]
 ·rw[k1Q (by omega),k1J,k1h (by simp [u8s];omega)]
theorem own8_row{w:World}{g base n:Nat}{t:TypeId}{U:List Nat}(h:q2M w g t U)(hn:U.length=n)(hg:base<=g)(hm:n<=maxLen):w.ownsRow base t 1 (.slice (some ⟨g,0,none⟩) n n) n (u8s U):=⟨by simp [u8s,hn],.inr ⟨g,n,(u8s U).toArray,rfl,hg,q8U h,lr,hm,by simp [u8s,hn],by rw[List.toList_toArray];exact k0x (by simp [u8s,hn])⟩⟩
theorem mk8'(n:Nat)(h:n<=35184372088832)(w:World):(Instr.makeSlice 56 (.int .i64 (n:Int)) (.int .i64 (n:Int))).run Tryz.prog w=.ok (.slice (some ⟨w.heap.size,0,none⟩) n n) (w.alloc (.cells (madeCells #[.int .u8 0] n) 5)):=run_make_row' (P:=Tryz.prog) 56 5 (.int .u8 0) 1 underlying56 q7X rfl .i64 .i64 n (by omega) (by omega) w
def vlen(v:Value):Nat:=match v with|.slice _ n _=>n|_=>0
end B
end Go.Proofs.YthopehoklmgphaaGreatDoor
