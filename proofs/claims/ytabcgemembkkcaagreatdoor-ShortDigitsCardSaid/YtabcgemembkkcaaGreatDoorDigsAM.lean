/- Lemmas. -/
import Derived.Test.YtabcgemembkkcaaGreatDoorDigsAG
import Derived.Test.YtabcgemembkkcaaGreatDoorDigsAC
import Derived.Lib.Bytealg
import Derived.Lib.ParseIntB
import Derived.Lib.SlTrimSet
import Derived.Lib.TrimU
set_option linter.all false
namespace Go.Proofs.YtabcgemembkkcaaGreatDoor
namespace Scn
open Go
def zeros:List Nat:=[48,1632,1776,1984,2406,2534,2662,3664,6112,65296,66720,120782]
def q6n:List Nat->Nat->Option Nat
 | [],_=>none
 | z::l,r=>if z<=r/\r<=z+9 then some (r-z) else q6n l r
def drop(r:ByteArray)(n:Nat):ByteArray:=r.extract n r.size
theorem drop_size(r:ByteArray)(n:Nat):(drop r n).size=r.size-n:=by simp [drop]
def pre(r:ByteArray)(p:List UInt8):Bool:=Lib.hasPrefix r.data.toList p
def ten(t:ByteArray):Nat × Nat:=
 if t.size=0 then(0,0) else
 match q6n zeros (Utf8.decode t 0).1 with
 | some d=>(d,(Utf8.decode t 0).2)
 | none=>(0,0)
def qe3(c:Nat):Option Nat:=
 if 48<=c/\c<=57 then some (c-48) else if 97<=c/\c<=102 then some (c-87) else if 65<=c/\c<=70 then some (c-55) else none
def qdm(t:ByteArray):Nat × Nat:=
 if t.size=0 then(0,0) else
 match qe3 (t.get! 0).toNat with
 | some d=>(d,1)
 | none=>(0,0)
structure St where
 rest:ByteArray
 pos:Nat
 code:Nat
def St.skip(s:St)(n:Nat):St:=⟨drop s.rest n,s.pos+n,s.code⟩
def St.put(s:St)(c:Nat):St:=⟨s.rest,s.pos,c⟩
def St.has(s:St)(p:List UInt8):Bool:=s.code==0 && pre s.rest p
def qdz(c:Nat):Nat:=if 65<=c/\c<=90 then c+32 else c
def qcB:List UInt8->List UInt8->Bool
 | _,[]=>true
 | [],_=>false
 | c::l,p::q=>qdz c.toNat==p.toNat && qcB l q
def St.fold(s:St)(p:List UInt8):Bool:=s.code==0 && qcB s.rest.data.toList p
def qe5(s:ByteArray):Nat × Nat:=if s.size=0 then(65533,0) else Utf8.decode s 0
def St.fail(s:St)(c:Nat):St:=
 if s.code=0 then(if(qe5 s.rest).1=65533/\(qe5 s.rest).2=1 then s.put 114 else s.put c) else s
def St.minus(s:St):Bool × St:=
 if s.has [43] then(false,s.skip 1) else if s.has [45] then(true,s.skip 1) else if s.has [226,136,146] then(true,s.skip 3) else(false,s)
def qfa(l:List Nat)(n:Nat):Nat:=l.foldl (fun n d=>min (10*n+d) 68719476736) n
def qfe(x:Int):Int:=max (-1073741824) (min x 1073741824)
def qdh(l:List Nat):Nat:=l.foldl (fun n d=>16*n+d) 0
def qez:List UInt8:=[48,49,50,51,52,53,54,55,56,57]
def qb9(r:ByteArray):List UInt8:=r.data.toList.takeWhile fun b=>qez.contains b
def q78(l:List UInt8):Nat:=l.foldl (fun n b=>10*n+(b.toNat-48)) 0
def St.payload(s:St):Nat × St:=
 if s.has [40] then
  let u:=s.skip 1
  let t:=qb9 u.rest
  if t=[] then(0,u.fail 111) else
  if 2251799813685247<q78 t then(0,u.put 115) else
  let v:=u.skip t.length
  (q78 t,if v.has [41] then v.skip 1 else v.fail 113)
 else(0,s)
end Scn
end Go.Proofs.YtabcgemembkkcaaGreatDoor
