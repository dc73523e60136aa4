/- Lemmas. -/
import Derived.Test.YtabcgemembkkcaaGreatDoorMirrBM
set_option linter.all false
set_option maxRecDepth 100000
open Go.Proofs.Tryz
namespace Go.Proofs.YtabcgemembkkcaaGreatDoor
namespace Hx
open Go Go.RowKit R5 Scn Fms Exa
abbrev qcz:ByteArray:=⟨#[48,49,50,51,52,53,54,55,56,57,97,98,99,100,101,102]⟩
def atL(s:ByteArray)(i:Nat):Int:=if i=0 then fig ⟨#[48]⟩ s 0 else if i=1 then fig ⟨#[120]⟩ s 1 else fig qcz s i
def q4h(s:ByteArray):Nat->Nat
 | 0=>0
 | k+1=>q4h s k*16+(fig qcz s (2+k)).toNat
abbrev ldV(r:Nat)(i:Nat)(c:Int):Ending:=.returned (.tuple #[.int .u64 (r:Int),.int .i64 (i:Int),.int .i64 c])
def LdE(E F:Nat)(s:ByteArray)(d:Nat)(e:Ending):Prop:=
 (∃i,i<2+d/\(∀j,j<i->0<=atL s j)/\atL s i<0/\e=ldV 0 i 12) \/
 ((∀j,j<2+d->0<=atL s j) /\((2+d<s.size/\e=ldV 0 (2+d) 12) \/
   (s.size<=2+d/\q09 E F (q4h s (d))≠0/\e=ldV 0 2 6) \/
   (s.size<=2+d/\q09 E F (q4h s (d))=0/\e=ldV (q4h s (d)) 0 0)))
def ldM(d:Nat)(a:Act)(w:World):Nat:=match a.tmps.getD 8 undef with
 | .pointer (some p)=>(match w.cell? p with|some (.int _ z)=>2+d-z.toNat|_=>0)
 | _=>0
end Hx
namespace R12
open Go Go.RowKit R5 Scn Fms Hx
def qdR(n:Nat):ByteArray:=⟨#[Hx.hx n]⟩
def wt(c:Nat):Int:=Lib.indexByte qcz.data.toList (low c).toUInt8
def hit(c k:Nat):Bool:=c==(Hx.hx k).toNat || (decide (9<k) && c==(Hx.hx k).toNat-32)
end R12
namespace R3
open Go Go.RowKit R5 Scn Fms
set_option maxHeartbeats 1000000 in
theorem Fits(E F:Int)(b:Nat)(w:World)(hb:b<18446744073709551616):Calls Tryz.prog 37 #[fm E F,.int .u64 (b:Int)] w fun e w'=>e=.returned (.int .i64 (q09 E F b))/\Below w.heap.size w w':=by
 have j:=vv fun w=>Check E F w
 have M:Blk (w.alloc (.cells #[.int .i64 E,.int .i64 F] 23)) w.heap.size 23 [.int .i64 E,.int .i64 F]:=Blk.made w 23 [.int .i64 E,.int .i64 F];obtain⟨N,p⟩:=yx (w.alloc (.cells #[.int .i64 E,.int .i64 F] 23));have g:Ctx w [(w.heap.size,23,[.int .i64 E,.int .i64 F])] N:=by rw[p];exact(Ctx.nil w).new _ _ rfl
 have l:=g.get 0 rfl |>.cell 0;have m:=g.get 0 rfl |>.cell 1;have D:=g.get 0 rfl |>.lt;simp only[List.getElem?_cons_zero,List.getElem?_cons_succ] at l m;have s:=vv g;have G:=vv p;clear p M g;cases hok:R3.formOk E F with
 | false =>have n:Hid (q09 E F b=5):=vv (by unfold q09;rw[hok];rfl);rw[chk_no hok] at j;clear hok hb;go_enter func37,ntmps37;go_wp2_with fail;rw[<- G.o];go_wp2_with fail;refine(j.o _).mono ?_;rintro e O ⟨rfl,i⟩;have Q:=vv (s.o.step i).low;clear i;go_wp2;go_ret;exact⟨q0U n.o.symm,Q.o⟩
 | true =>
  obtain⟨a,c,rfl,rfl,H,R,I,S⟩:=formOk_nat hok;rw[chk_ok hok] at j;have T:=vv fun w (h:a+c<63)=>Pow (1+a+c) w (by omega)
  have V:(a:Int)<=11:=by omega
  have W:(c:Int)<=52:=by omega
  have J:q09 (a:Int) (c:Int) b=if 2^(1+a+c)<=b then 6 else 0:=by
   unfold q09;rw[hok,k0n rfl];by_cases h:2^(1+a+c)<=b
   ·have:1+a+c<bl b:=by
     rcases k0y (1+a+c) (bl b) with k|k
     ·exact k
     ·have:=q0J b;have:=k04 (show 0<2 by decide) k;omega
    rw[k0n h,k0n (by omega)]
   ·have:=q0A (k2u h);rw[k0o h,k0o (by omega)]
  have n:=vv J;have t:IntKind.i64.wrap ((a:Int)+(c:Int))=(a:Int)+(c:Int):=IntWalk.i64_in _ (by omega);have u:IntKind.i64.wrap (1+(a:Int))=1+(a:Int):=IntWalk.i64_in _ (by omega);have v:IntKind.i64.wrap (1+(a:Int)+(c:Int))=1+(a:Int)+(c:Int):=IntWalk.i64_in _ (by omega);have X:=vv (And.intro t (And.intro u v));have K:=vv hb;have Y:=vv (And.intro H I);clear hok hb t u v J H R I S;go_enter func37,ntmps37;go_wp2_with fail;rw[<- G.o];go_wp2_with fail;refine(j.o _).mono ?_;rintro e O ⟨rfl,i⟩;have d:=vv (s.o.step i);clear i l m D;have l:=d.o.get 0 rfl |>.cell 0;have m:=d.o.get 0 rfl |>.cell 1;have D:=d.o.get 0 rfl |>.lt;simp only[List.getElem?_cons_zero,List.getElem?_cons_succ] at l m;by_cases hlt:a+c<63
  ·have L:(a:Int)+(c:Int)<63:=by omega
   have q:=vv fun w=>T.o w hlt
   obtain⟨P,r⟩:=yx (R3.tw (1+a+c));rw[<- r] at q;have x:2^(1+a+c)=P:=r.symm;have y:Hid (q09 (a:Int) (c:Int) b=if P<=b then 6 else 0):=vv (by rw[n.o,x]);have z:((1+a+c:Nat):Int)=1+(a:Int)+(c:Int):=by omega
   rw[z] at q;clear r x z;go_wp2_with fail;refine(q.o _).mono ?_;rintro e w' ⟨rfl,rfl⟩;rcases k0y b P with C|C
   ·have U:¬(P:Int)<=(b:Int):=by omega
    have t2:(b:Int)<(P:Int):=by omega
    have f:=vv (show q09 (a:Int) (c:Int) b=0 by rw[y.o,k0o (by omega)]);go_wp2;go_ret;exact⟨q0U f.o.symm,d.o.low⟩
   ·have U:(P:Int)<=(b:Int):=by omega
    have f:=vv (show q09 (a:Int) (c:Int) b=6 by rw[y.o,k0n C]);go_wp2;go_ret;exact⟨q0U f.o.symm,d.o.low⟩
  ·have L:¬(a:Int)+(c:Int)<63:=by omega
   have Z:(63:Int)<=(a:Int)+(c:Int):=by omega
   have f:Hid (q09 (a:Int) (c:Int) b=0):=vv (by
    have e:a+c=63:=by omega
    rw[n.o,k0o];have:=K.o;rw[show 1+a+c=64 by omega,show(2:Nat)^64=18446744073709551616 from rfl];omega)
   go_wp2;go_ret;exact⟨q0U f.o.symm,d.o.low⟩
end R3
namespace R12
open Go Go.RowKit R5 Scn Fms Hx
def RlI(E F:Nat)(s:ByteArray)(d:Nat)(w:World)(x i:Value)(wr:World):Prop:=
 ∃k:Nat,k<=2+d/\i=.int .i64 (k:Int)/\x=.int .u64 ((q4h s (k-2):Nat):Int)/\(∀j,j<k->0<=atL s j)/\Ctx w [(w.heap.size,23,[.int .i64 (E:Int),.int .i64 (F:Int)])] wr
end R12
end Go.Proofs.YtabcgemembkkcaaGreatDoor
