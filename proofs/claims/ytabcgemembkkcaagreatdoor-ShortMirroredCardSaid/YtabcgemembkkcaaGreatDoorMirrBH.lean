/- Lemmas. -/
import Derived.Test.YtabcgemembkkcaaGreatDoorMirrBG
set_option linter.all false
open Go.Proofs.Tryz
open Go renaming Value->qa,World->qb
namespace Go.Proofs.YtabcgemembkkcaaGreatDoor
variable{w w':qb}{g:Nat}{t:TypeId}{cs:List qa}
namespace Scn
open Go Go.RowKit
def txt(U:List Nat):ByteArray:=⟨(U.map UInt8.ofNat).toArray⟩
theorem q61{base n:Nat}{v:qa}{U:List Nat}(h:w.ownsRow base 5 1 v n (u8s U))(hU:∀x∈U,x<256):(convert 229 9 v).run Tryz.prog w=.ok (.string (txt U)) w:=by
 have b:=q8v h;obtain⟨m,d⟩:=h;rcases d with ⟨rfl,rfl⟩|⟨g,cap,l,rfl,o,f,p,q,r,i⟩
 ·have:U=[]:=k1u b;subst this;exact run_convert_bytes_nil w 229 5 underlying229 underlying5 0 0 _ underlying9
 ·have e:=run_convert_bytes_back (P:=Tryz.prog) w 229 9 5 ⟨g,0,none⟩ cap (U.map UInt8.ofNat) underlying229 underlying5 underlying9 (fun j hj=>by
   have a:j<U.length:=by simpa using hj
   have k:Addr.add ⟨g,0,none⟩ j=⟨g,j,none⟩:=by cases j with|zero=>rfl|succ j=>simp [Addr.add]
   have c:(u8s U)[j]?=some (.int .u8 ((U[j]:Nat):Int)):=by simp [u8s,List.getElem?_eq_getElem a]
   have hx:=hU _ (k2s a);rw[<- i,List.getElem?_take,k0n (by omega)] at c;rw[k];simp only[World.cell?,f];rw[List.getElem_map];have:(UInt8.ofNat U[j]).toNat=U[j]:=by rw[UInt8.toNat_ofNat'];exact k0u hx
   rw[this]
   simpa using c)
  rw[k1T,b] at e;exact e
def qdP(L:List Nat)(k:Nat):List Nat:=(L.take k).map (·+48)++L.drop k
def Blk(w:qb)(g:Nat)(t:TypeId)(cs:List qa):Prop:=w.heap[g]?=some (.cells cs.toArray t (0,0))
theorem Blk.cell(h:Blk w g t cs)(j:Nat):w.cell? ⟨g,j,none⟩=cs[j]?:=by simp only[World.cell?];rw[show w.heap[g]?=_ from h];simp
theorem Blk.fz(h:Blk w g t cs)(j:Nat):w.frozen? ⟨g,j,none⟩=false:=by simp only[World.frozen?];rw[show w.heap[g]?=_ from h];simp
theorem Blk.lt(h:Blk w g t cs):g<w.heap.size:=(Array.getElem?_eq_some_iff.1 (show w.heap[g]?=_ from h)).1
theorem Blk.made(w:qb)(t:TypeId)(cs:List qa):Blk (w.alloc (.cells cs.toArray t)) w.heap.size t cs:=heap_alloc_new w _
theorem Blk.grown(h:Blk w g t cs){row:Option Nat}(hb:w.grownBy w' row)(hr:row≠some g):Blk w' g t cs:=(hb.block g h.lt (fun e=>hr e.symm)).trans h
theorem Blk.below(h:Blk w g t cs)(hb:Below w.heap.size w w'):Blk w' g t cs:=(hb.block g h.lt).trans h
theorem Blk.other(h:Blk w g t cs){p:Addr}(hp:p.block≠g)(v:qa):Blk (w.setCell p v) g t cs:=(Below.heap_setCell w p v g (fun e=>hp e.symm)).trans h
theorem q00{P:Program}{ops:Array Oper}{rest:List Oper}{o:Oper}{a:Act}{Q:Exit->Act->qb->Prop}(hgd:o.guard=none)(ty:TypeId)(x y:Operand)(ho:o.op=.store ty x y)
  (g:Nat) (cells:List qa) (hx:a.eval x=.pointer (some ⟨g,0,none⟩)) (hy:a.eval y=.agg cells.toArray)
  (t:TypeId) (old:List qa) (hg:Blk w g t old) (hi:(P.info? ty).map (·.size)=some cells.length)
  (hold:old.length=cells.length) (h1:cells.all (·.oneCell')=true)
  (h:∀w',Blk w' g t cells->w.grownBy w' (some g)->wpList P ops Q rest (a.put o.dst undef) w'):wpList P ops Q (o::rest) a w:=by
 refine wpList_store_row hgd ty x y ho g cells.toArray hx hy t old.toArray hg (by simpa using hi) (by simpa using hold) (by simpa using h1) (h _ (setRow_heap w g _ _ t _ hg) ⟨rfl,rfl,rfl,by simp [World.setRow],fun i hi b=>?_⟩);unfold World.setRow;rw[Array.getElem?_modify,k0o (fun e=>b (by rw[e]))]
def qdG:List qa:=[.int .u8 0,.bool false,.bool false,.string ⟨#[]⟩,.int .i64 0,.bool false,.slice none 0 0,.int .i64 0,.int .u64 0]
theorem Blk.num{v0 v1 v2 v3 v4 v5 v6 v7 v8:qa}(h:Blk w g t [v0,v1,v2,v3,v4,v5,v6,v7,v8]):w.cell? ⟨g,0,none⟩=some v0/\w.cell? ⟨g,1,none⟩=some v1/\w.cell? ⟨g,2,none⟩=some v2/\w.cell? ⟨g,3,none⟩=some v3/\w.cell? ⟨g,4,none⟩=some v4/\w.cell? ⟨g,5,none⟩=some v5/\w.cell? ⟨g,6,none⟩=some v6/\w.cell? ⟨g,7,none⟩=some v7/\w.cell? ⟨g,8,none⟩=some v8:=⟨h.cell 0,h.cell 1,h.cell 2,h.cell 3,h.cell 4,h.cell 5,h.cell 6,h.cell 7,h.cell 8⟩
end Scn
namespace Scn
open Go Go.RowKit R5 Rtp
end Scn
end Go.Proofs.YtabcgemembkkcaaGreatDoor
