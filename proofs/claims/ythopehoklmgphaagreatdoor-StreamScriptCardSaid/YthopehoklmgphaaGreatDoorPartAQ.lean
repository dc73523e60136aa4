/- Lemmas. -/
import Derived.Test.YthopehoklmgphaaGreatDoorPartAH
import Derived.Test.YthopehoklmgphaaGreatDoorPartAD
import Derived.Lib.Bytealg
import Derived.Lib.ParseIntB
import Derived.Lib.SlTrimSet
import Derived.Lib.TrimU
set_option linter.all false
open Bool renaming false->qa
namespace Go.Proofs.YthopehoklmgphaaGreatDoor
namespace Scn
open Go
def zeros:List Nat:=[48,1632,1776,1984,2406,2534,2662,3664,6112,65296,66720,120782]
def digitL:List Nat->Nat->Option Nat
 | [],_=>none
 | z::l,r=>if z<=r/\r<=z+9 then some (r-z) else digitL l r
def drop(r:ByteArray)(n:Nat):ByteArray:=r.extract n r.size
theorem drop_size(r:ByteArray)(n:Nat):(drop r n).size=r.size-n:=by simp [drop]
def pre(r:ByteArray)(p:List UInt8):Bool:=Lib.hasPrefix r.data.toList p
def ten(t:ByteArray):Nat × Nat:=
 if t.size=0 then(0,0) else
 match digitL zeros (Utf8.decode t 0).1 with
 | some d=>(d,(Utf8.decode t 0).2)
 | none=>(0,0)
def hexd(c:Nat):Option Nat:=
 if 48<=c/\c<=57 then some (c-48) else if 97<=c/\c<=102 then some (c-87) else if 65<=c/\c<=70 then some (c-55) else none
def sixteen(t:ByteArray):Nat × Nat:=
 if t.size=0 then(0,0) else
 match hexd (t.get! 0).toNat with
 | some d=>(d,1)
 | none=>(0,0)
structure St where
 rest:ByteArray
 pos:Nat
 code:Nat
def St.skip(s:St)(n:Nat):St:=⟨drop s.rest n,s.pos+n,s.code⟩
def St.put(s:St)(c:Nat):St:=⟨s.rest,s.pos,c⟩
def St.has(s:St)(p:List UInt8):Bool:=s.code==0 && pre s.rest p
def lower(c:Nat):Nat:=if 65<=c/\c<=90 then c+32 else c
def foldL:List UInt8->List UInt8->Bool
 | _,[]=>true
 | [],_=>qa
 | c::l,p::q=>lower c.toNat==p.toNat && foldL l q
def St.fold(s:St)(p:List UInt8):Bool:=s.code==0 && foldL s.rest.data.toList p
def dec1(s:ByteArray):Nat × Nat:=if s.size=0 then(65533,0) else Utf8.decode s 0
def St.fail(s:St)(c:Nat):St:=
 if s.code=0 then(if(dec1 s.rest).1=65533/\(dec1 s.rest).2=1 then s.put 114 else s.put c) else s
def q4B(D:ByteArray->Nat × Nat):Nat->St->List Nat->List Nat × St
 | 0,s,l=>(l,s)
 | f+1,s,l =>
  if(D s.rest).2=0 then(l,s) else
  if pre (s.skip (D s.rest).2).rest [95] then
   if(D (drop (s.skip (D s.rest).2).rest 1)).2=0 then(l++[(D s.rest).1],(s.skip (D s.rest).2).put 112)
   else q4B D f ((s.skip (D s.rest).2).skip 1) (l++[(D s.rest).1])
  else q4B D f (s.skip (D s.rest).2) (l++[(D s.rest).1])
def St.row(D:ByteArray->Nat × Nat)(s:St):List Nat × St:=
 if s.code≠0 then([],s) else if pre s.rest [95] then([],s.put 112) else q4B D (s.rest.size+1) s []
def St.must(D:ByteArray->Nat × Nat)(s:St):List Nat × St:=
 if(s.row D).1=[] then([],(s.row D).2.fail 111) else s.row D
def St.minus(s:St):Bool × St:=
 if s.has [43] then(qa,s.skip 1) else if s.has [45] then(true,s.skip 1) else if s.has [226,136,146] then(true,s.skip 3) else(qa,s)
def St.mantissa(D:ByteArray->Nat × Nat)(s:St):List Nat × Nat × St:=
 let a:=s.row D
 if a.2.has [46] then
  let b:=(a.2.skip 1).row D
  (a.1++b.1,b.1.length,if a.1.length+b.1.length=0 then b.2.fail 111 else b.2)
 else(a.1,0,if a.1=[] then a.2.fail 111 else a.2)
def expo(l:List Nat)(n:Nat):Nat:=l.foldl (fun n d=>min (10*n+d) 68719476736) n
def St.exponent(s:St)(q4R:List UInt8):Int × St:=
 if s.fold q4R then
  let m:=(s.skip q4R.length).minus
  let r:=m.2.must ten
  (if m.1 then -(expo r.1 0:Int) else(expo r.1 0:Int),r.2)
 else(0,s)
def q2u(x:Int):Int:=max (-1073741824) (min x 1073741824)
structure Num where
 kind:Nat
 neg:Bool
 dneg:Bool
 digits:List UInt8
 exp:Int
 hneg:Bool
 mant:Nat
 hexp:Int
 payload:Nat
def Num.none_:Num:=⟨0,qa,qa,[],0,qa,0,0,0⟩
def St.decimal(s:St)(neg:Bool):Num × St:=
 let m:=s.mantissa ten
 let e:=m.2.2.exponent [101]
 let t:=(m.1.map fun d=>UInt8.ofNat (d+48)).dropWhile (·==48)
 let u:=(t.reverse.dropWhile (·==48)).reverse
 (⟨1,neg,neg,u,if u=[] then 0 else q2u (e.1-m.2.1+t.length-u.length),qa,0,0,0⟩,e.2)
def qbM(l:List Nat):Nat:=l.foldl (fun n d=>16*n+d) 0
def St.hex(s:St)(neg:Bool):Num × St:=
 let m:=s.mantissa sixteen
 let e:=m.2.2.exponent [112]
 let n:=qbM m.1
 (if n=0 then⟨2,neg,qa,[],0,qa,0,0,0⟩ else⟨2,neg,qa,[],0,neg,n/2^tz n,q2u (e.1-4*m.2.1+tz n),0⟩,e.2)
def q8n:List UInt8:=[48,49,50,51,52,53,54,55,56,57]
def q0G(r:ByteArray):List UInt8:=r.data.toList.takeWhile fun b=>q8n.contains b
def q12(l:List UInt8):Nat:=l.foldl (fun n b=>10*n+(b.toNat-48)) 0
def St.payload(s:St):Nat × St:=
 if s.has [40] then
  let u:=s.skip 1
  let t:=q0G u.rest
  if t=[] then(0,u.fail 111) else
  if 2251799813685247<q12 t then(0,u.put 115) else
  let v:=u.skip t.length
  (q12 t,if v.has [41] then v.skip 1 else v.fail 113)
 else(0,s)
def St.number(s:St):Num × St:=
 let m:=s.minus
 let neg:=m.1
 let u:=m.2
 if pre u.rest [95] then(Num.none_,u.put 112) else
 if u.fold [48,120] then(u.skip 2).hex neg else
 if 0<(ten u.rest).2\/pre u.rest [46]=true then u.decimal neg else
 if u.fold [105,110,102,105,110,105,116,121] then(⟨3,neg,qa,[],0,qa,0,0,0⟩,u.skip 8) else
 if u.fold [105,110,102] then(⟨3,neg,qa,[],0,qa,0,0,0⟩,u.skip 3) else
 if u.fold [110,97,110] then(⟨4,neg,qa,[],0,qa,0,0,(u.skip 3).payload.1⟩,(u.skip 3).payload.2) else
 (Num.none_,u.fail 110)
def read(t:ByteArray):Num × Nat × Nat:=
 if 65536<t.size then(Num.none_,3,0) else
 let r:=(St.mk t 0 0).number
 let u:=if r.2.code=0/\r.2.rest.size≠0 then r.2.fail 113 else r.2
 if u.code=0 then(r.1,0,0) else(Num.none_,u.code,u.pos)
theorem q44(D:ByteArray->Nat × Nat):∀(f:Nat) (s:St) (l:List Nat),(q4B D f s l).1.length<=l.length+f/\(q4B D f s l).2.rest.size<=s.rest.size
 | 0,s,l=>⟨lr,lr⟩
 | f+1,s,l=>by
  have hs:∀(u:St) (n:Nat),(u.skip n).rest.size<=u.rest.size:=fun u n=>by show(drop u.rest n).size<=_;rw[drop_size];omega
  unfold q4B;split
  ·exact⟨by show l.length<=_;omega,lr⟩
  ·split
   ·split
    ·refine⟨by simp,?_⟩;exact hs s _
    ·have h:=q44 D f ((s.skip (D s.rest).2).skip 1) (l++[(D s.rest).1]);have h1:=hs s (D s.rest).2;have h2:=hs (s.skip (D s.rest).2) 1;rw[k0p,k2g] at h;exact⟨by omega,by omega⟩
   ·have h:=q44 D f (s.skip (D s.rest).2) (l++[(D s.rest).1]);have h1:=hs s (D s.rest).2;rw[k0p,k2g] at h;exact⟨by omega,by omega⟩
theorem q40(D:ByteArray->Nat × Nat)(s:St):(s.row D).1.length<=s.rest.size+1/\(s.row D).2.rest.size<=s.rest.size:=by
 unfold St.row;split
 ·exact⟨by simp,lr⟩
 ·split
  ·exact⟨by simp,lr⟩
  ·have h:=q44 D (s.rest.size+1) s [];rw[k1p] at h;exact⟨by omega,h.2⟩
theorem qaG(D:ByteArray->Nat × Nat)(s:St):(s.mantissa D).1.length<=2*(s.rest.size+1):=by
 have a:=q40 D s;have b:=q40 D ((s.row D).2.skip 1);have c:((s.row D).2.skip 1).rest.size<=(s.row D).2.rest.size:=by show(drop (s.row D).2.rest 1).size<=_;rw[drop_size];omega
 unfold St.mantissa;dsimp only;split
 ·rw[k0p];omega
 ·show(s.row D).1.length<=_;omega
theorem q3f{α:Type}(p:α->Bool)(l:List α):(l.dropWhile p).length<=l.length:=(List.dropWhile_suffix p).length_le
theorem qcy(s:St)(neg:Bool):(s.decimal neg).1.digits.length<=2*(s.rest.size+1):=by have h:=qaG ten s;unfold St.decimal;dsimp only;rw[k24];refine k06 (q3f _ _) ?_;rw[k24];refine k06 (q3f _ _) ?_;rw[k1l];exact h
theorem q92(s:St):s.minus.2.rest.size<=s.rest.size:=by
 have a:∀(n:Nat),(s.skip n).rest.size<=s.rest.size:=fun n=>by show(drop s.rest n).size<=_;rw[drop_size];omega
 unfold St.minus;split
 ·exact a 1
 ·split
  ·exact a 1
  ·split
   ·exact a 3
   ·exact lr
theorem q7M(s:St):s.number.1.digits.length<=2*(s.rest.size+1):=by
 have b:=q92 s;have c:=qcy s.minus.2 s.minus.1;have a:([]:List UInt8).length<=2*(s.rest.size+1):=by simp
 unfold St.number;dsimp only;split
 ·exact a
 ·split
  ·unfold St.hex;dsimp only;split<;>exact a
  ·split
   ·omega
   ·split
    ·exact a
    ·split
     ·exact a
     ·split<;>exact a
theorem qar(t:ByteArray):(read t).1.digits.length<=131074:=by
 unfold read;split
 ·show([]:List UInt8).length<=_;simp
 ·have h:=q7M (St.mk t 0 0);dsimp only;obtain⟨u,a⟩:∃u:St,u=if(St.mk t 0 0).number.2.code=0/\(St.mk t 0 0).number.2.rest.size≠0 then(St.mk t 0 0).number.2.fail 113 else(St.mk t 0 0).number.2:=⟨_,rfl⟩;rw[<- a];split
  ·show((St.mk t 0 0).number).1.digits.length<=_;have:(St.mk t 0 0).rest.size=t.size:=rfl;omega
  ·show([]:List UInt8).length<=_;simp
end Scn
namespace Lx
open Go Scn
def grow(B:Nat)(l:List Nat)(n:Nat):Nat:=l.foldl (fun n d=>min (10*n+d) B) n
theorem q7e{A B:Nat}(hAB:A<=B):∀(l:List Nat) (n:Nat),grow A l (min n A)=min (grow B l n) A
 | [],n=>rfl
 | d::l,n=>by have e1:grow A (d::l) (min n A)=grow A l (min (10*min n A+d) A):=rfl;have e2:grow B (d::l) n=grow B l (min (10*n+d) B):=rfl;rw[e1,e2,show min (10*min n A+d) A=min (min (10*n+d) B) A by omega];exact q7e hAB l _
theorem qb1(l:List Nat):expo l 0=min (grow 1099511627776 l 0) 68719476736:=by have e:=q7e (A:=68719476736) (B:=1099511627776) (by decide) l 0;rw[<- e];rfl
theorem clip_two(l:List Nat)(neg:Bool)(z:Int)(h1:-1048576<=z)(h2:z<=1048576):q2u ((if neg then -(grow 1099511627776 l 0:Int) else(grow 1099511627776 l 0:Int))+z)=q2u ((if neg then -(expo l 0:Int) else(expo l 0:Int))+z):=by have e:=qb1 l;unfold q2u;cases neg<;>simp only[k1t,if_false,if_true]<;>omega
theorem lower_letter(x c:Nat)(hx:x<256)(h1:97<=c)(h2:c<=122):lower x=c↔x=c\/x=c-32:=by unfold lower;split<;>omega
theorem lower_other(x c:Nat)(h:c<65\/122<c\/(90<c/\c<97)):lower x=c↔x=c:=by unfold lower;split<;>omega
def qbY(l:List Nat):List Nat × Nat:=
 let t:=l.dropWhile (·==0)
 let u:=(t.reverse.dropWhile (·==0)).reverse
 (u,t.length-u.length)
theorem q7j{α β:Type}(f:α->β)(p:β->Bool)(l:List α):(l.map f).dropWhile p=(l.dropWhile (p ∘ f)).map f:=by
 induction l with
 | nil=>rfl
 | cons a l ih =>
  simp only[List.map_cons,List.dropWhile_cons,Function.comp];split
  ·exact ih
  ·rfl
theorem q4X(d:Nat)(h:d<16):(UInt8.ofNat (d+48)==48)=(d==0):=by
 have:∀d:Fin 16,(UInt8.ofNat (d.val+48)==48)=(d.val==0):=by decide
 exact this ⟨d,h⟩
theorem q1O{α:Type}{p q:α->Bool}:∀(l:List α),(∀x∈l,p x=q x)->l.dropWhile p=l.dropWhile q
 | [],_=>rfl
 | a::l,h=>by
  have ha:=h a (List.mem_cons_self);simp only[List.dropWhile_cons,ha];split
  ·exact q1O l (fun x hx=>h x (List.mem_cons_of_mem _ hx))
  ·rfl
theorem q7F(l:List Nat)(h:∀d∈l,d<16):((l.map fun d=>UInt8.ofNat (d+48)).dropWhile (·==48))=(l.dropWhile (·==0)).map (fun d=>UInt8.ofNat (d+48)) /\((((l.map fun d=>UInt8.ofNat (d+48)).dropWhile (·==48)).reverse.dropWhile (·==48)).reverse)=(qbY l).1.map (fun d=>UInt8.ofNat (d+48)):=by
 have a:((l.map fun d=>UInt8.ofNat (d+48)).dropWhile (·==48))=(l.dropWhile (·==0)).map (fun d=>UInt8.ofNat (d+48)):=by rw[q7j];congr 1;exact q1O l (fun d hd=>q4X d (h d hd))
 refine⟨a,?_⟩;rw[a,<- List.map_reverse,q7j,<- List.map_reverse];unfold qbY;congr 2;refine q1O _ (fun d hd=>q4X d (h d ?_));exact(k2a (fun x:Nat=>x==0) (l:=l)).subset (List.mem_reverse.1 hd)
end Lx
end Go.Proofs.YthopehoklmgphaaGreatDoor
