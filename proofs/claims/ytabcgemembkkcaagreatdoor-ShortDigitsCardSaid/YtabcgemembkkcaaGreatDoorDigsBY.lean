/- Lemmas. -/
import Derived.Test.YtabcgemembkkcaaGreatDoorDigsBR
import Derived.Test.YtabcgemembkkcaaGreatDoorCards
import Derived.Test.YtabcgemembkkcaaGreatDoorTie
import Derived.Deep.Strs
import Derived.Deep.DeepHandedRow
import Derived.Lib.LaidU8
import Derived.SizedLaws
set_option linter.all false
set_option maxRecDepth 100000
open Go.Proofs.Tryz
open Go.Proofs.Tryz renaming prog->qa
namespace Go.Proofs.YtabcgemembkkcaaGreatDoor
namespace Bfn
open Go Go.ChangeShapes Go.WideShapes Go.ChangeAt Go.RowKit Go.Deep R5
theorem q8o{w:World}{a:Addr}{v:Value}(h:w.cell? a=some v):a.block<w.heap.size:=by
 unfold World.cell? at h;cases hh:w.heap[a.block]? with
 | none=>rw[hh] at h;simp at h
 | some o=>exact(k0P.1 hh).1
theorem own:ownKnob Tryz.prog.godebug=none:=by kernel_rfl
theorem laidOut:laidOutB qa=true:=by kernel_rfl
theorem cF:Tryz.prog.cellsOf 23=2:=by kernel_rfl
theorem cI:Tryz.prog.cellsOf 3=1:=by kernel_rfl
theorem c8:Tryz.prog.cellsOf 5=1:=by kernel_rfl
theorem qeB:Tryz.prog.cellsOf 277=32:=by kernel_rfl
theorem qe4 : Tryz.prog.globalNamed "math/bits.deBruijn32tab" = some 0 := by kernel_rfl
theorem q9t:(Tryz.prog.globals[0]?).map (·.type)=some 277:=by kernel_rfl
theorem qbY:∀j:Fin 32,([0,1,28,2,29,14,24,3,30,22,20,15,25,17,4,8,31,27,13,23,21,19,16,7,26,12,18,6,11,5,10,9]:List Int).getD j.val 0=((Lib.deBruijn32tab.getD j.val 0:Nat):Int):=by decide
abbrev lst : List (String × DataW Unit) := [("math/bits.deBruijn32tab", Rows.laid_math_bits_deBruijn32tab), ("unicode/utf8.acceptRanges", Rows.laid_unicode_utf8_acceptRanges), ("unicode/utf8.first", Rows.laid_unicode_utf8_first)]
theorem plain_list(w:World)(h:laidMetH qa lst w):laidMet qa lst w:=h
theorem std_of{W:World}(h:laidMet qa lst W):Std W:=by
 have ht : Lib.TabIs Tryz.prog W "math/bits.deBruijn32tab" .u8 [0, 1, 28, 2, 29, 14, 24, 3, 30, 22, 20, 15, 25, 17, 4, 8, 31, 27, 13, 23, 21, 19, 16, 7, 26, 12, 18, 6, 11, 5, 10, 9] :=
  Lib.tabIs_of_head qe4 q9t underlying277 underlying5 c8 qeB h
 have hc:∀j,j<32->W.cell? ⟨0,j,none⟩=some (.int .u8 ((Lib.deBruijn32tab.getD j 0:Nat):Int)):=fun j hj=>by rw[ht.cell qe4 j hj,qbY ⟨j,hj⟩]
 exact⟨fun j hj=>hc j hj,q8o (hc 0 (by decide))⟩
section
variable {H : Type} {enc : TypeId × Value -> H} {w : World} {base : Nat} {spare : Nat -> Bool} {held : Bool}
theorem open_form{r:Reach}{b0:Nat}{v:Value}{d:DataW H}{ps:List MemPlace}(hval:Value.okWide qa w r b0 23 v)(h:DataW.Trod enc qa w base spare held 23 v d ps):∃E F:Int,v=fm E F:=by
 obtain⟨cs,rfl,c⟩:=okWide_struct underlying23 hval;obtain⟨fuel,j⟩:=h;obtain⟨k,m,n,-,o,e,f⟩:=trod_struct2 underlying23 j;simp only[cI] at e f;obtain⟨E,g,-,-⟩:=DataW.trod_int underlying3 e;obtain⟨F,i,-,-⟩:=DataW.trod_int underlying3 f;refine⟨E,F,?_⟩;obtain⟨l⟩:=cs;rw[cF] at c
 match l,c with
 | [a,b],_ =>simp [Value.cells] at g i;rw[g,i]
end
def put(cs:List Value)(o:Obj):Obj:=match o with|.cells _ t frozen=>.cells cs.toArray t frozen|o=>o
def d32:List Int:=[0,1,28,2,29,14,24,3,30,22,20,15,25,17,4,8,31,27,13,23,21,19,16,7,26,12,18,6,11,5,10,9]
noncomputable def laidWorld(os:Os):World:=
 let w0:=World.holding qa os ⟨#[],#[],[]⟩
 {w0 with heap:=(((w0.heap.modify 0 (put (d32.map (.int .u8)))).modify 3 (put ((List.range 16).flatMap fun i=>[.int .u8 (Lib.accLo i:Int),.int .u8 (Lib.accHi i:Int)]))).modify 2 (put (Lib.firstTab.map (.int .u8))))}
theorem laid_met(os:Os)(args:Array Value):laidMet qa lst ((laidWorld os).forCall (fun _ _=>0) ⟨#[],args,[]⟩).memory:=laidMet_of_run' 8 (by kernel_rfl) (by kernel_rfl)
theorem qeD{a b:Bool}(h:a=true)(k:b=true):(a && b)=true:=by rw[h,k];rfl
end Bfn
end Go.Proofs.YtabcgemembkkcaaGreatDoor
