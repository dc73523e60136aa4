/- Lemmas. -/
import Derived.Test.YtppgcnhlpnmieaaGreatDoorPartAG
import Derived.Test.YtppgcnhlpnmieaaGreatDoorPartAD
import Derived.Lib.Bytealg
import Derived.Lib.Strings
import Derived.Lib.ParseIntB
import Derived.Lib.SlTrimSet
import Derived.Lib.TrimU
import Derived.Laws.RangeAny
set_option linter.all false
namespace Go.Proofs.YtppgcnhlpnmieaaGreatDoor.Scn
open Go
def q10:List Nat:=[48,1632,1776,1984,2406,2534,2662,3664,6112,65296,66720,120782]
def q1c:List Nat->Nat->Option Nat
 | [],_=>none
 | z::l,r=>if z<=r/\r<=z+9 then some (r-z) else q1c l r
def drop(r:ByteArray)(n:Nat):ByteArray:=r.extract n r.size
theorem drop_size(r:ByteArray)(n:Nat):(drop r n).size=r.size-n:=by simp [drop]
def pre(r:ByteArray)(p:List UInt8):Bool:=Lib.hasPrefix r.data.toList p
def ten(t:ByteArray):Nat × Nat:=
 if t.size=0 then(0,0) else
 match q1c q10 (Utf8.decode t 0).1 with
 | some d=>(d,(Utf8.decode t 0).2)
 | none=>(0,0)
def q60(c:Nat):Option Nat:=
 if 48<=c/\c<=57 then some (c-48) else if 97<=c/\c<=102 then some (c-87) else if 65<=c/\c<=70 then some (c-55) else none
def q0O(t:ByteArray):Nat × Nat:=
 if t.size=0 then(0,0) else
 match q60 (t.get! 0).toNat with
 | some d=>(d,1)
 | none=>(0,0)
structure St where
 rest:ByteArray
 pos:Nat
 code:Nat
def St.skip(s:St)(n:Nat):St:=⟨drop s.rest n,s.pos+n,s.code⟩
def St.put(s:St)(c:Nat):St:=⟨s.rest,s.pos,c⟩
def St.has(s:St)(p:List UInt8):Bool:=s.code==0 && pre s.rest p
def q4k(c:Nat):Nat:=if 65<=c/\c<=90 then c+32 else c
def q6r:List UInt8->List UInt8->Bool
 | _,[]=>true
 | [],_=>false
 | c::l,p::q=>q4k c.toNat==p.toNat && q6r l q
def St.fold(s:St)(p:List UInt8):Bool:=s.code==0 && q6r s.rest.data.toList p
def qbv(s:ByteArray):Nat × Nat:=if s.size=0 then(65533,0) else Utf8.decode s 0
def St.fail(s:St)(c:Nat):St:=
 if s.code=0 then(if(qbv s.rest).1=65533/\(qbv s.rest).2=1 then s.put 114 else s.put c) else s
def q5u(D:ByteArray->Nat × Nat):Nat->St->List Nat->List Nat × St
 | 0,s,l=>(l,s)
 | f+1,s,l =>
  if(D s.rest).2=0 then(l,s) else
  if pre (s.skip (D s.rest).2).rest [95] then
   if(D (drop (s.skip (D s.rest).2).rest 1)).2=0 then(l++[(D s.rest).1],(s.skip (D s.rest).2).put 112)
   else q5u D f ((s.skip (D s.rest).2).skip 1) (l++[(D s.rest).1])
  else q5u D f (s.skip (D s.rest).2) (l++[(D s.rest).1])
def St.row(D:ByteArray->Nat × Nat)(s:St):List Nat × St:=
 if s.code≠0 then([],s) else if pre s.rest [95] then([],s.put 112) else q5u D (s.rest.size+1) s []
def St.must(D:ByteArray->Nat × Nat)(s:St):List Nat × St:=
 if(s.row D).1=[] then([],(s.row D).2.fail 111) else s.row D
def St.minus(s:St):Bool × St:=
 if s.has [43] then(false,s.skip 1) else if s.has [45] then(true,s.skip 1) else if s.has [226,136,146] then(true,s.skip 3) else(false,s)
def St.mantissa(D:ByteArray->Nat × Nat)(s:St):List Nat × Nat × St:=
 let a:=s.row D
 if a.2.has [46] then
  let b:=(a.2.skip 1).row D
  (a.1++b.1,b.1.length,if a.1.length+b.1.length=0 then b.2.fail 111 else b.2)
 else(a.1,0,if a.1=[] then a.2.fail 111 else a.2)
def q61(l:List Nat)(n:Nat):Nat:=l.foldl (fun n d=>min (10*n+d) 68719476736) n
def St.exponent(s:St)(letter:List UInt8):Int × St:=
 if s.fold letter then
  let m:=(s.skip letter.length).minus
  let r:=m.2.must ten
  (if m.1 then -(q61 r.1 0:Int) else(q61 r.1 0:Int),r.2)
 else(0,s)
def q7F(x:Int):Int:=max (-1073741824) (min x 1073741824)
structure Num where
 kind:Nat
 neg:Bool
 dneg:Bool
 digits:List UInt8
 exp:Int
 hneg:Bool
 mant:Nat
 hexp:Int
 payload:Nat
def Num.none_:Num:=⟨0,false,false,[],0,false,0,0,0⟩
def St.decimal(s:St)(neg:Bool):Num × St:=
 let m:=s.mantissa ten
 let e:=m.2.2.exponent [101]
 let t:=(m.1.map fun d=>UInt8.ofNat (d+48)).dropWhile (·==48)
 let u:=(t.reverse.dropWhile (·==48)).reverse
 (⟨1,neg,neg,u,if u=[] then 0 else q7F (e.1-m.2.1+t.length-u.length),false,0,0,0⟩,e.2)
def q62(l:List Nat):Nat:=l.foldl (fun n d=>16*n+d) 0
def St.hex(s:St)(neg:Bool):Num × St:=
 let m:=s.mantissa q0O
 let e:=m.2.2.exponent [112]
 let n:=q62 m.1
 (if n=0 then⟨2,neg,false,[],0,false,0,0,0⟩ else⟨2,neg,false,[],0,neg,n/2^tz n,q7F (e.1-4*m.2.1+tz n),0⟩,e.2)
def qbu:List UInt8:=[48,49,50,51,52,53,54,55,56,57]
def q1y(r:ByteArray):List UInt8:=r.data.toList.takeWhile fun b=>qbu.contains b
def q2M(l:List UInt8):Nat:=l.foldl (fun n b=>10*n+(b.toNat-48)) 0
def St.payload(s:St):Nat × St:=
 if s.has [40] then
  let u:=s.skip 1
  let t:=q1y u.rest
  if t=[] then(0,u.fail 111) else
  if 2251799813685247<q2M t then(0,u.put 115) else
  let v:=u.skip t.length
  (q2M t,if v.has [41] then v.skip 1 else v.fail 113)
 else(0,s)
def St.number(s:St):Num × St:=
 let m:=s.minus
 let neg:=m.1
 let u:=m.2
 if pre u.rest [95] then(Num.none_,u.put 112) else
 if u.fold [48,120] then(u.skip 2).hex neg else
 if 0<(ten u.rest).2\/pre u.rest [46]=true then u.decimal neg else
 if u.fold [105,110,102,105,110,105,116,121] then(⟨3,neg,false,[],0,false,0,0,0⟩,u.skip 8) else
 if u.fold [105,110,102] then(⟨3,neg,false,[],0,false,0,0,0⟩,u.skip 3) else
 if u.fold [110,97,110] then(⟨4,neg,false,[],0,false,0,0,(u.skip 3).payload.1⟩,(u.skip 3).payload.2) else
 (Num.none_,u.fail 110)
def q6H(t:ByteArray):Num × Nat × Nat:=
 if 65536<t.size then(Num.none_,3,0) else
 let r:=(St.mk t 0 0).number
 let u:=if r.2.code=0/\r.2.rest.size≠0 then r.2.fail 113 else r.2
 if u.code=0 then(r.1,0,0) else(Num.none_,u.code,u.pos)
end Go.Proofs.YtppgcnhlpnmieaaGreatDoor.Scn
