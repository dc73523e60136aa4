/- Lemmas. -/
import Derived.Test.YtabcgemembkkcaaGreatDoorDigsBG
set_option linter.all false
open Go.Proofs.Tryz
open Option renaming none->qa,some->qb
open Go renaming Value->qc,World->qd
namespace Go.Proofs.YtabcgemembkkcaaGreatDoor
variable{w w':qd}{g:Nat}{t:TypeId}{cs l:List qc}{v0 v1 v2 v3 v4 v5 v6 v7 v8:qc}{R:Prop}
namespace Scn
open Go Go.RowKit
def txt(U:List Nat):ByteArray:=⟨(U.map UInt8.ofNat).toArray⟩
theorem q2J{base n:Nat}{v:qc}{U:List Nat}(h:w.ownsRow base 5 1 v n (u8s U))(hU:∀x∈U,x<256):(convert 229 9 v).run Tryz.prog w=.ok (.string (txt U)) w:=by
 have b:=q96 h;obtain⟨m,d⟩:=h;rcases d with ⟨rfl,rfl⟩|⟨g,cap,l,rfl,o,f,p,q,r,i⟩
 ·have:U=[]:=k1G b;subst this;exact run_convert_bytes_nil w 229 5 underlying229 underlying5 0 0 _ underlying9
 ·have e:=run_convert_bytes_back (P:=Tryz.prog) w 229 9 5 ⟨g,0,qa⟩ cap (U.map UInt8.ofNat) underlying229 underlying5 underlying9 (fun j hj=>by
   have a:j<U.length:=by simpa using hj
   have k:Addr.add ⟨g,0,qa⟩ j=⟨g,j,qa⟩:=by cases j with|zero=>rfl|succ j=>simp [Addr.add]
   have c:(u8s U)[j]?=qb (.int .u8 ((U[j]:Nat):Int)):=by simp [u8s,k0n a]
   have hx:=hU _ (k2F a);rw[<- i,k1d,k0p (by omega)] at c;rw[k];simp only[World.cell?,f];rw[List.getElem_map];have:(UInt8.ofNat U[j]).toNat=U[j]:=by rw[UInt8.toNat_ofNat'];exact k0E hx
   rw[this]
   simpa using c)
  rw[k1U,b] at e;exact e
def qf7(L:List Nat)(k:Nat):List Nat:=(L.take k).map (·+48)++L.drop k
def Blk(w:qd)(g:Nat)(t:TypeId)(cs:List qc):Prop:=w.heap[g]?=qb (.cells cs.toArray t (0,0))
theorem Blk.cell(h:Blk w g t cs)(j:Nat):w.cell? ⟨g,j,qa⟩=cs[j]?:=by simp only[World.cell?];rw[show w.heap[g]?=_ from h];simp
theorem Blk.fz(h:Blk w g t cs)(j:Nat):w.frozen? ⟨g,j,qa⟩=false:=by simp only[World.frozen?];rw[show w.heap[g]?=_ from h];simp
theorem Blk.lt(h:Blk w g t cs):g<w.heap.size:=(k0P.1 (show w.heap[g]?=_ from h)).1
theorem Blk.made(w:qd)(t:TypeId)(cs:List qc):Blk (w.alloc (.cells cs.toArray t)) w.heap.size t cs:=heap_alloc_new w _
theorem Blk.grown(h:Blk w g t cs){row:Option Nat}(hb:w.grownBy w' row)(hr:row≠qb g):Blk w' g t cs:=(hb.block g h.lt (fun e=>hr e.symm)).trans h
theorem Blk.below(h:Blk w g t cs)(hb:Below w.heap.size w w'):Blk w' g t cs:=(hb.block g h.lt).trans h
theorem Blk.other(h:Blk w g t cs){p:Addr}(hp:p.block≠g)(v:qc):Blk (w.setCell p v) g t cs:=(Below.heap_setCell w p v g (fun e=>hp e.symm)).trans h
theorem q00{P:Program}{ops:Array Oper}{rest:List Oper}{o:Oper}{a:Act}{Q:Exit->Act->qd->Prop}(hgd:o.guard=qa)(ty:TypeId)(x y:Operand)(ho:o.op=.store ty x y)
  (g:Nat) (cells:List qc) (hx:a.eval x=.pointer (qb ⟨g,0,qa⟩)) (hy:a.eval y=.agg cells.toArray)
  (t:TypeId) (old:List qc) (hg:Blk w g t old) (hi:(P.info? ty).map (·.size)=qb cells.length)
  (hold:old.length=cells.length) (h1:cells.all (·.oneCell')=true)
  (h:∀w',Blk w' g t cells->w.grownBy w' (qb g)->wpList P ops Q rest (a.put o.dst undef) w'):wpList P ops Q (o::rest) a w:=by
 refine wpList_store_row hgd ty x y ho g cells.toArray hx hy t old.toArray hg (by simpa using hi) (by simpa using hold) (by simpa using h1) (h _ (setRow_heap w g _ _ t _ hg) ⟨rfl,rfl,rfl,by simp [World.setRow],fun i hi b=>?_⟩);unfold World.setRow;rw[k2t,k0r (fun e=>b (by rw[e]))]
def qeX:List qc:=[.int .u8 0,.bool false,.bool false,.string ⟨#[]⟩,.int .i64 0,.bool false,.slice qa 0 0,.int .i64 0,.int .u64 0]
theorem Blk.num(h:Blk w g t [v0,v1,v2,v3,v4,v5,v6,v7,v8]):w.cell? ⟨g,0,qa⟩=qb v0/\w.cell? ⟨g,1,qa⟩=qb v1/\w.cell? ⟨g,2,qa⟩=qb v2/\w.cell? ⟨g,3,qa⟩=qb v3/\w.cell? ⟨g,4,qa⟩=qb v4/\w.cell? ⟨g,5,qa⟩=qb v5/\w.cell? ⟨g,6,qa⟩=qb v6/\w.cell? ⟨g,7,qa⟩=qb v7/\w.cell? ⟨g,8,qa⟩=qb v8:=⟨h.cell 0,h.cell 1,h.cell 2,h.cell 3,h.cell 4,h.cell 5,h.cell 6,h.cell 7,h.cell 8⟩
theorem Blk.c1(h:Blk w g t (v0::l)):w.cell? ⟨g,0,qa⟩=qb v0:=h.cell 0
theorem Blk.c2(h:Blk w g t (v0::v1::l)):w.cell? ⟨g,0,qa⟩=qb v0/\w.cell? ⟨g,1,qa⟩=qb v1:=⟨h.cell 0,h.cell 1⟩
theorem Blk.c3(h:Blk w g t (v0::v1::v2::l)):w.cell? ⟨g,0,qa⟩=qb v0/\w.cell? ⟨g,1,qa⟩=qb v1/\w.cell? ⟨g,2,qa⟩=qb v2:=⟨h.cell 0,h.cell 1,h.cell 2⟩
theorem Blk.c4(h:Blk w g t (v0::v1::v2::v3::l)):w.cell? ⟨g,0,qa⟩=qb v0/\w.cell? ⟨g,1,qa⟩=qb v1/\w.cell? ⟨g,2,qa⟩=qb v2/\w.cell? ⟨g,3,qa⟩=qb v3:=⟨h.cell 0,h.cell 1,h.cell 2,h.cell 3⟩
theorem Blk.c7(h:Blk w g t (v0::v1::v2::v3::v4::v5::v6::l)):w.cell? ⟨g,0,qa⟩=qb v0/\w.cell? ⟨g,1,qa⟩=qb v1/\w.cell? ⟨g,2,qa⟩=qb v2/\w.cell? ⟨g,3,qa⟩=qb v3/\w.cell? ⟨g,4,qa⟩=qb v4/\w.cell? ⟨g,5,qa⟩=qb v5/\w.cell? ⟨g,6,qa⟩=qb v6:=⟨h.cell 0,h.cell 1,h.cell 2,h.cell 3,h.cell 4,h.cell 5,h.cell 6⟩
theorem Blk.c8(h:Blk w g t (v0::v1::v2::v3::v4::v5::v6::v7::l)):w.cell? ⟨g,0,qa⟩=qb v0/\w.cell? ⟨g,1,qa⟩=qb v1/\w.cell? ⟨g,2,qa⟩=qb v2/\w.cell? ⟨g,3,qa⟩=qb v3/\w.cell? ⟨g,4,qa⟩=qb v4/\w.cell? ⟨g,5,qa⟩=qb v5/\w.cell? ⟨g,6,qa⟩=qb v6/\w.cell? ⟨g,7,qa⟩=qb v7:=⟨h.cell 0,h.cell 1,h.cell 2,h.cell 3,h.cell 4,h.cell 5,h.cell 6,h.cell 7⟩
theorem Blk.f1(h:Blk w g t (v0::l)):w.cell? ⟨g,0,qa⟩=qb v0/\g<w.heap.size:=⟨h.cell 0,h.lt⟩
theorem Blk.f2(h:Blk w g t (v0::v1::l)):w.cell? ⟨g,0,qa⟩=qb v0/\w.cell? ⟨g,1,qa⟩=qb v1/\g<w.heap.size:=⟨h.cell 0,h.cell 1,h.lt⟩
theorem Blk.f3(h:Blk w g t (v0::v1::v2::l)):w.cell? ⟨g,0,qa⟩=qb v0/\w.cell? ⟨g,1,qa⟩=qb v1/\w.cell? ⟨g,2,qa⟩=qb v2/\g<w.heap.size:=⟨h.cell 0,h.cell 1,h.cell 2,h.lt⟩
theorem Blk.f4(h:Blk w g t (v0::v1::v2::v3::l)):w.cell? ⟨g,0,qa⟩=qb v0/\w.cell? ⟨g,1,qa⟩=qb v1/\w.cell? ⟨g,2,qa⟩=qb v2/\w.cell? ⟨g,3,qa⟩=qb v3/\g<w.heap.size:=⟨h.cell 0,h.cell 1,h.cell 2,h.cell 3,h.lt⟩
theorem Blk.f7(h:Blk w g t (v0::v1::v2::v3::v4::v5::v6::l)):w.cell? ⟨g,0,qa⟩=qb v0/\w.cell? ⟨g,1,qa⟩=qb v1/\w.cell? ⟨g,2,qa⟩=qb v2/\w.cell? ⟨g,3,qa⟩=qb v3/\w.cell? ⟨g,4,qa⟩=qb v4/\w.cell? ⟨g,5,qa⟩=qb v5/\w.cell? ⟨g,6,qa⟩=qb v6/\g<w.heap.size:=⟨h.cell 0,h.cell 1,h.cell 2,h.cell 3,h.cell 4,h.cell 5,h.cell 6,h.lt⟩
theorem Blk.f8(h:Blk w g t (v0::v1::v2::v3::v4::v5::v6::v7::l)):w.cell? ⟨g,0,qa⟩=qb v0/\w.cell? ⟨g,1,qa⟩=qb v1/\w.cell? ⟨g,2,qa⟩=qb v2/\w.cell? ⟨g,3,qa⟩=qb v3/\w.cell? ⟨g,4,qa⟩=qb v4/\w.cell? ⟨g,5,qa⟩=qb v5/\w.cell? ⟨g,6,qa⟩=qb v6/\w.cell? ⟨g,7,qa⟩=qb v7/\g<w.heap.size:=⟨h.cell 0,h.cell 1,h.cell 2,h.cell 3,h.cell 4,h.cell 5,h.cell 6,h.cell 7,h.lt⟩
theorem Blk.f9(h:Blk w g t (v0::v1::v2::v3::v4::v5::v6::v7::v8::l)):w.cell? ⟨g,0,qa⟩=qb v0/\w.cell? ⟨g,1,qa⟩=qb v1/\w.cell? ⟨g,2,qa⟩=qb v2/\w.cell? ⟨g,3,qa⟩=qb v3/\w.cell? ⟨g,4,qa⟩=qb v4/\w.cell? ⟨g,5,qa⟩=qb v5/\w.cell? ⟨g,6,qa⟩=qb v6/\w.cell? ⟨g,7,qa⟩=qb v7/\w.cell? ⟨g,8,qa⟩=qb v8/\g<w.heap.size:=⟨h.cell 0,h.cell 1,h.cell 2,h.cell 3,h.cell 4,h.cell 5,h.cell 6,h.cell 7,h.cell 8,h.lt⟩
theorem Blk.n1(h:Blk w g t (v0::l))(r:R):w.cell? ⟨g,0,qa⟩=qb v0/\R:=⟨h.cell 0,r⟩
theorem Blk.n3(h:Blk w g t (v0::v1::v2::l))(r:R):w.cell? ⟨g,0,qa⟩=qb v0/\w.cell? ⟨g,1,qa⟩=qb v1/\w.cell? ⟨g,2,qa⟩=qb v2/\R:=⟨h.cell 0,h.cell 1,h.cell 2,r⟩
theorem Blk.n4(h:Blk w g t (v0::v1::v2::v3::l))(r:R):w.cell? ⟨g,0,qa⟩=qb v0/\w.cell? ⟨g,1,qa⟩=qb v1/\w.cell? ⟨g,2,qa⟩=qb v2/\w.cell? ⟨g,3,qa⟩=qb v3/\R:=⟨h.cell 0,h.cell 1,h.cell 2,h.cell 3,r⟩
theorem Blk.n8(h:Blk w g t (v0::v1::v2::v3::v4::v5::v6::v7::l))(r:R):w.cell? ⟨g,0,qa⟩=qb v0/\w.cell? ⟨g,1,qa⟩=qb v1/\w.cell? ⟨g,2,qa⟩=qb v2/\w.cell? ⟨g,3,qa⟩=qb v3/\w.cell? ⟨g,4,qa⟩=qb v4/\w.cell? ⟨g,5,qa⟩=qb v5/\w.cell? ⟨g,6,qa⟩=qb v6/\w.cell? ⟨g,7,qa⟩=qb v7/\R:=⟨h.cell 0,h.cell 1,h.cell 2,h.cell 3,h.cell 4,h.cell 5,h.cell 6,h.cell 7,r⟩
end Scn
namespace Scn
open Go Go.RowKit R5 Rtp
end Scn
end Go.Proofs.YtabcgemembkkcaaGreatDoor
