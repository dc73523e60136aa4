/- Lemmas. -/
import Derived.Test.YtcdimmblnbkjjaaGreatDoorPartAH
import Derived.Test.YtcdimmblnbkjjaaGreatDoorPartAD
import Derived.Lib.Bytealg
import Derived.Lib.Strings
import Derived.Lib.ParseIntB
import Derived.Lib.SlTrimSet
import Derived.Lib.TrimU
import Derived.Laws.RangeAny
set_option linter.all false
namespace Go.Proofs.YtcdimmblnbkjjaaGreatDoor.Scn
open Go
def q13:List Nat:=[48,1632,1776,1984,2406,2534,2662,3664,6112,65296,66720,120782]
def q0Y:List Nat->Nat->Option Nat
 | [],_=>none
 | z::l,r=>if z<=r/\r<=z+9 then some (r-z) else q0Y l r
def drop(r:ByteArray)(n:Nat):ByteArray:=r.extract n r.size
theorem drop_size(r:ByteArray)(n:Nat):(drop r n).size=r.size-n:=by simp [drop]
def pre(r:ByteArray)(p:List UInt8):Bool:=Lib.hasPrefix r.data.toList p
def ten(t:ByteArray):Nat × Nat:=
 if t.size=0 then(0,0) else
 match q0Y q13 (Utf8.decode t 0).1 with
 | some d=>(d,(Utf8.decode t 0).2)
 | none=>(0,0)
def q7J(c:Nat):Option Nat:=
 if 48<=c/\c<=57 then some (c-48) else if 97<=c/\c<=102 then some (c-87) else if 65<=c/\c<=70 then some (c-55) else none
def q14(t:ByteArray):Nat × Nat:=
 if t.size=0 then(0,0) else
 match q7J (t.get! 0).toNat with
 | some d=>(d,1)
 | none=>(0,0)
structure St where
 rest:ByteArray
 pos:Nat
 code:Nat
def St.skip(s:St)(n:Nat):St:=⟨drop s.rest n,s.pos+n,s.code⟩
def St.put(s:St)(c:Nat):St:=⟨s.rest,s.pos,c⟩
def St.has(s:St)(p:List UInt8):Bool:=s.code==0 && pre s.rest p
def q3C(c:Nat):Nat:=if 65<=c/\c<=90 then c+32 else c
def q59:List UInt8->List UInt8->Bool
 | _,[]=>true
 | [],_=>false
 | c::l,p::q=>q3C c.toNat==p.toNat && q59 l q
def St.fold(s:St)(p:List UInt8):Bool:=s.code==0 && q59 s.rest.data.toList p
def qa6(s:ByteArray):Nat × Nat:=if s.size=0 then(65533,0) else Utf8.decode s 0
def St.fail(s:St)(c:Nat):St:=
 if s.code=0 then(if(qa6 s.rest).1=65533/\(qa6 s.rest).2=1 then s.put 114 else s.put c) else s
def q3x(D:ByteArray->Nat × Nat):Nat->St->List Nat->List Nat × St
 | 0,s,l=>(l,s)
 | f+1,s,l =>
  if(D s.rest).2=0 then(l,s) else
  if pre (s.skip (D s.rest).2).rest [95] then
   if(D (drop (s.skip (D s.rest).2).rest 1)).2=0 then(l++[(D s.rest).1],(s.skip (D s.rest).2).put 112)
   else q3x D f ((s.skip (D s.rest).2).skip 1) (l++[(D s.rest).1])
  else q3x D f (s.skip (D s.rest).2) (l++[(D s.rest).1])
def St.row(D:ByteArray->Nat × Nat)(s:St):List Nat × St:=
 if s.code≠0 then([],s) else if pre s.rest [95] then([],s.put 112) else q3x D (s.rest.size+1) s []
def St.must(D:ByteArray->Nat × Nat)(s:St):List Nat × St:=
 if(s.row D).1=[] then([],(s.row D).2.fail 111) else s.row D
def St.minus(s:St):Bool × St:=
 if s.has [43] then(false,s.skip 1) else if s.has [45] then(true,s.skip 1) else if s.has [226,136,146] then(true,s.skip 3) else(false,s)
def St.mantissa(D:ByteArray->Nat × Nat)(s:St):List Nat × Nat × St:=
 let a:=s.row D
 if a.2.has [46] then
  let b:=(a.2.skip 1).row D
  (a.1++b.1,b.1.length,if a.1.length+b.1.length=0 then b.2.fail 111 else b.2)
 else(a.1,0,if a.1=[] then a.2.fail 111 else a.2)
def q67(l:List Nat)(n:Nat):Nat:=l.foldl (fun n d=>min (10*n+d) 68719476736) n
def St.exponent(s:St)(letter:List UInt8):Int × St:=
 if s.fold letter then
  let m:=(s.skip letter.length).minus
  let r:=m.2.must ten
  (if m.1 then -(q67 r.1 0:Int) else(q67 r.1 0:Int),r.2)
 else(0,s)
def q7w(x:Int):Int:=max (-1073741824) (min x 1073741824)
structure Num where
 kind:Nat
 neg:Bool
 dneg:Bool
 digits:List UInt8
 exp:Int
 hneg:Bool
 mant:Nat
 hexp:Int
 payload:Nat
def Num.none_:Num:=⟨0,false,false,[],0,false,0,0,0⟩
def St.decimal(s:St)(neg:Bool):Num × St:=
 let m:=s.mantissa ten
 let e:=m.2.2.exponent [101]
 let t:=(m.1.map fun d=>UInt8.ofNat (d+48)).dropWhile (·==48)
 let u:=(t.reverse.dropWhile (·==48)).reverse
 (⟨1,neg,neg,u,if u=[] then 0 else q7w (e.1-m.2.1+t.length-u.length),false,0,0,0⟩,e.2)
def q9k(l:List Nat):Nat:=l.foldl (fun n d=>16*n+d) 0
def St.hex(s:St)(neg:Bool):Num × St:=
 let m:=s.mantissa q14
 let e:=m.2.2.exponent [112]
 let n:=q9k m.1
 (if n=0 then⟨2,neg,false,[],0,false,0,0,0⟩ else⟨2,neg,false,[],0,neg,n/2^tz n,q7w (e.1-4*m.2.1+tz n),0⟩,e.2)
def qa3:List UInt8:=[48,49,50,51,52,53,54,55,56,57]
def q15(r:ByteArray):List UInt8:=r.data.toList.takeWhile fun b=>qa3.contains b
def q26(l:List UInt8):Nat:=l.foldl (fun n b=>10*n+(b.toNat-48)) 0
def St.payload(s:St):Nat × St:=
 if s.has [40] then
  let u:=s.skip 1
  let t:=q15 u.rest
  if t=[] then(0,u.fail 111) else
  if 2251799813685247<q26 t then(0,u.put 115) else
  let v:=u.skip t.length
  (q26 t,if v.has [41] then v.skip 1 else v.fail 113)
 else(0,s)
def St.number(s:St):Num × St:=
 let m:=s.minus
 let neg:=m.1
 let u:=m.2
 if pre u.rest [95] then(Num.none_,u.put 112) else
 if u.fold [48,120] then(u.skip 2).hex neg else
 if 0<(ten u.rest).2\/pre u.rest [46]=true then u.decimal neg else
 if u.fold [105,110,102,105,110,105,116,121] then(⟨3,neg,false,[],0,false,0,0,0⟩,u.skip 8) else
 if u.fold [105,110,102] then(⟨3,neg,false,[],0,false,0,0,0⟩,u.skip 3) else
 if u.fold [110,97,110] then(⟨4,neg,false,[],0,false,0,0,(u.skip 3).payload.1⟩,(u.skip 3).payload.2) else
 (Num.none_,u.fail 110)
def q3z(t:ByteArray):Num × Nat × Nat:=
 if 65536<t.size then(Num.none_,3,0) else
 let r:=(St.mk t 0 0).number
 let u:=if r.2.code=0/\r.2.rest.size≠0 then r.2.fail 113 else r.2
 if u.code=0 then(r.1,0,0) else(Num.none_,u.code,u.pos)
theorem q36(D:ByteArray->Nat × Nat):∀(f:Nat) (s:St) (l:List Nat),(q3x D f s l).1.length<=l.length+f/\(q3x D f s l).2.rest.size<=s.rest.size
 | 0,s,l=>⟨lr,lr⟩
 | f+1,s,l=>by
  have hs:∀(u:St) (n:Nat),(u.skip n).rest.size<=u.rest.size:=fun u n=>by show(drop u.rest n).size<=_;rw[drop_size];omega
  unfold q3x;split
  ·exact⟨by show l.length<=_;omega,lr⟩
  ·split
   ·split
    ·refine⟨by simp,?_⟩;exact hs s _
    ·have h:=q36 D f ((s.skip (D s.rest).2).skip 1) (l++[(D s.rest).1]);have h1:=hs s (D s.rest).2;have h2:=hs (s.skip (D s.rest).2) 1;rw[List.length_append,List.length_singleton] at h;exact⟨by omega,by omega⟩
   ·have h:=q36 D f (s.skip (D s.rest).2) (l++[(D s.rest).1]);have h1:=hs s (D s.rest).2;rw[List.length_append,List.length_singleton] at h;exact⟨by omega,by omega⟩
theorem q35(D:ByteArray->Nat × Nat)(s:St):(s.row D).1.length<=s.rest.size+1/\(s.row D).2.rest.size<=s.rest.size:=by
 unfold St.row;split
 ·exact⟨by simp,lr⟩
 ·split
  ·exact⟨by simp,lr⟩
  ·have h:=q36 D (s.rest.size+1) s [];rw[List.length_nil] at h;exact⟨by omega,h.2⟩
theorem q8h(D:ByteArray->Nat × Nat)(s:St):(s.mantissa D).1.length<=2*(s.rest.size+1):=by
 have h1:=q35 D s;have h2:=q35 D ((s.row D).2.skip 1);have h3:((s.row D).2.skip 1).rest.size<=(s.row D).2.rest.size:=by show(drop (s.row D).2.rest 1).size<=_;rw[drop_size];omega
 unfold St.mantissa;dsimp only;split
 ·rw[List.length_append];omega
 ·show(s.row D).1.length<=_;omega
theorem q2r{α:Type}(p:α->Bool)(l:List α):(l.dropWhile p).length<=l.length:=(List.dropWhile_suffix p).length_le
theorem qa4(s:St)(neg:Bool):(s.decimal neg).1.digits.length<=2*(s.rest.size+1):=by
 have h:=q8h ten s;unfold St.decimal;dsimp only;rw[List.length_reverse];refine Nat.le_trans (q2r _ _) ?_;rw[List.length_reverse];refine Nat.le_trans (q2r _ _) ?_;rw[List.length_map];exact h
theorem q6X(s:St):s.minus.2.rest.size<=s.rest.size:=by
 have hs:∀(n:Nat),(s.skip n).rest.size<=s.rest.size:=fun n=>by show(drop s.rest n).size<=_;rw[drop_size];omega
 unfold St.minus;split
 ·exact hs 1
 ·split
  ·exact hs 1
  ·split
   ·exact hs 3
   ·exact lr
theorem q5X(s:St):s.number.1.digits.length<=2*(s.rest.size+1):=by
 have h1:=q6X s;have h2:=qa4 s.minus.2 s.minus.1;have hz:([]:List UInt8).length<=2*(s.rest.size+1):=by simp
 unfold St.number;dsimp only;split
 ·exact hz
 ·split
  ·unfold St.hex;dsimp only;split<;>exact hz
  ·split
   ·omega
   ·split
    ·exact hz
    ·split
     ·exact hz
     ·split<;>exact hz
theorem q84(t:ByteArray):(q3z t).1.digits.length<=131074:=by
 unfold q3z;split
 ·show([]:List UInt8).length<=_;simp
 ·have h:=q5X (St.mk t 0 0);dsimp only;obtain⟨u,hu⟩:∃u:St,u=if(St.mk t 0 0).number.2.code=0/\(St.mk t 0 0).number.2.rest.size≠0 then(St.mk t 0 0).number.2.fail 113 else(St.mk t 0 0).number.2:=⟨_,rfl⟩;rw[<- hu];split
  ·show((St.mk t 0 0).number).1.digits.length<=_;have:(St.mk t 0 0).rest.size=t.size:=rfl;omega
  ·show([]:List UInt8).length<=_;simp
end Go.Proofs.YtcdimmblnbkjjaaGreatDoor.Scn
