/- Lemmas. -/
import Derived.Test.YtcdimmblnbkjjaaGreatDoorPartBH
import Derived.Test.YtcdimmblnbkjjaaGreatDoorPartBF
import Derived.Test.YtcdimmblnbkjjaaGreatDoorPartAZ
set_option linter.all false
namespace Go.Proofs.YtcdimmblnbkjjaaGreatDoor.Hx
open Go Go.RowKit R5 Scn Fms Exa
def RdP(bits flags:Nat)(w:World)(e:Ending)(w':World):Prop:=
 e=.returned (.tuple #[.int .u64 (bits:Int),.int .u8 (flags:Int),.nilIface])/\Below w.heap.size w w'
end Go.Proofs.YtcdimmblnbkjjaaGreatDoor.Hx
namespace Go.Proofs.YtcdimmblnbkjjaaGreatDoor
open Go Go.RowKit Scn Hx
abbrev qao:=Nat × TypeId × List Value
structure Ctx(w:World)(bs:List qao)(w':World):Prop where
 low:Below w.heap.size w w'
 all:∀x∈bs,Blk w' x.1 x.2.1 x.2.2
theorem Ctx.nil(w:World):Ctx w [] w:=⟨Below.refl _ _,fun _ h=>by cases h⟩
theorem Ctx.step{w w1 w2:World}{bs:List qao}(h:Ctx w bs w1)(hb:Below w1.heap.size w1 w2):Ctx w bs w2:=
 ⟨h.low.trans (hb.mono h.low.size),fun x hx=>(h.all x hx).below hb⟩
theorem Ctx.drew{w w1:World}{bs:List qao}(h:Ctx w bs w1):Ctx w bs w1.drew:=h.step (q04 (Below.refl _ _))
theorem Ctx.new{w w1:World}{bs:List qao}(h:Ctx w bs w1)(t:TypeId)(cs:List Value){g:Nat}(hg:g=w1.heap.size):Ctx w ((g,t,cs)::bs) (w1.alloc (.cells cs.toArray t)):=by
 subst hg;refine⟨h.low.trans (((Below.refl w1.heap.size w1).alloc lr _).mono h.low.size),fun x hx=>?_⟩;rcases List.mem_cons.1 hx with rfl|hx
 ·exact Blk.made _ _ _
 ·exact(h.all x hx).alloc _
theorem Ctx.get{w w':World}{bs:List qao}(h:Ctx w bs w')(i:Nat){g:Nat}{t:TypeId}{cs:List Value}(hi:bs[i]?=some (g,t,cs)):Blk w' g t cs:=h.all (g,t,cs) (List.mem_of_getElem? hi)
theorem Ctx.put{w w1 w2:World}{bs:List qao}(h:Ctx w bs w1)(i:Nat){g:Nat}{t:TypeId}{old cs:List Value}(hi:bs[i]?=some (g,t,old))(hne:∀j x,j≠i->bs[j]?=some x->x.1≠g)(hw:w.heap.size<=g)
  (hb:Blk w2 g t cs) (hg:w1.grownBy w2 (some g)):Ctx w (bs.set i (g,t,cs)) w2:=by
 refine⟨q0a h.low hg h.low.size hw,fun x hx=>?_⟩;obtain⟨j,hj⟩:=List.getElem?_of_mem hx;by_cases e:j=i
 ·subst e;rw[List.getElem?_set_self' ] at hj;rw[hi] at hj;cases hj
  exact hb
 ·rw[List.getElem?_set_ne (fun k=>e k.symm)] at hj;exact(h.all x (List.mem_of_getElem? hj)).grown hg (fun k=>hne j x e hj (Option.some.inj k).symm)
end Go.Proofs.YtcdimmblnbkjjaaGreatDoor
