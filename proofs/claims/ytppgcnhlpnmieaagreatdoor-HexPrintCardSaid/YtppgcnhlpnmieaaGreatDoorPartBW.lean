/- Lemmas. -/
import Derived.Test.YtppgcnhlpnmieaaGreatDoorPartBT
import Derived.Test.YtppgcnhlpnmieaaGreatDoorCards
import Derived.Test.YtppgcnhlpnmieaaGreatDoorTie
import Derived.ProofKit
import Derived.OpenShut
import Derived.Deep.Strs
import Derived.Deep.DeepHandedRow
import Derived.Lib.LaidU8
import Derived.Stop.LaidErr
set_option linter.all false
set_option maxRecDepth 100000
namespace Go.Proofs.YtppgcnhlpnmieaaGreatDoor.Hfn
open Go Go.ChangeShapes Go.WideShapes Go.ChangeAt Go.RowKit Go.Deep R5 Hx
theorem q4c{w:World}{a:Addr}{v:Value}(h:w.cell? a=some v):a.block<w.heap.size:=by
 unfold World.cell? at h;cases hh:w.heap[a.block]? with
 | none=>rw[hh] at h;simp at h
 | some o=>exact(Array.getElem?_eq_some_iff.1 hh).1
theorem own:ownKnob Tryz.prog.godebug=none:=by kernel_rfl
theorem q4X:laidOutB Tryz.prog=true:=by kernel_rfl
theorem cF:Tryz.prog.cellsOf 23=2:=by kernel_rfl
theorem cI:Tryz.prog.cellsOf 3=1:=by kernel_rfl
theorem c8:Tryz.prog.cellsOf 5=1:=by kernel_rfl
theorem cS:Tryz.prog.cellsOf 9=1:=by kernel_rfl
theorem c64:Tryz.prog.cellsOf 31=1:=by kernel_rfl
theorem qe2:Tryz.prog.cellsOf 339=32:=by kernel_rfl
theorem qe1:Tryz.prog.cellsOf 379=20:=by kernel_rfl
theorem cE:Tryz.prog.cellsOf 400=1:=by kernel_rfl
theorem qdK : Tryz.prog.globalNamed "math/bits.deBruijn32tab" = some 1 := by kernel_rfl
theorem q9Y:(Tryz.prog.globals[1]?).map (·.type)=some 339:=by kernel_rfl
theorem qdJ : Tryz.prog.globalNamed "internal/strconv.uint64pow10" = some 5 := by kernel_rfl
theorem q9X:(Tryz.prog.globals[5]?).map (·.type)=some 379:=by kernel_rfl
theorem gES : Tryz.prog.globalNamed "strconv.ErrSyntax" = some 6 := by kernel_rfl
theorem qbj:(Tryz.prog.globals[6]?).map (·.type)=some 56:=by kernel_rfl
theorem gER : Tryz.prog.globalNamed "strconv.ErrRange" = some 7 := by kernel_rfl
theorem qbk:(Tryz.prog.globals[7]?).map (·.type)=some 56:=by kernel_rfl
theorem qdz : "*" ++ "errors.errorString" = "*errors.errorString" := by decide
theorem qdA (u : TypeId) (h : Tryz.prog.typeName? 3 u = some "*errors.errorString") : u = 398 :=
 typeName_ptr_named (nm := "errors.errorString") (by rw [qdz]; kernel_rfl) (by kernel_rfl) (by decide) u (by rw [qdz]; exact h)
theorem qc5:∀j:Fin 32,([0,1,28,2,29,14,24,3,30,22,20,15,25,17,4,8,31,27,13,23,21,19,16,7,26,12,18,6,11,5,10,9]:List Int).getD j.val 0=((Lib.deBruijn32tab.getD j.val 0:Nat):Int):=by decide
theorem u8x:U8Extra Tryz.prog Tryz.lays260_ren:=⟨by kernel_rfl,by kernel_rfl,by kernel_rfl,by kernel_rfl,by kernel_rfl,by kernel_rfl,by kernel_rfl⟩
theorem qbn:Rows.laid_unicode_utf8_first=Lib.firstData:=by kernel_rfl
theorem qae:Rows.laid_unicode_utf8_acceptRanges (H:=Unit)=Lib.acceptData:=by kernel_rfl
abbrev lst : List (String × DataW Unit) := [("math/bits.deBruijn32tab", Rows.laid_math_bits_deBruijn32tab), ("math/bits.deBruijn64tab", Rows.laid_math_bits_deBruijn64tab), ("internal/strconv.uint64pow10", Rows.laid_internal_strconv_uint64pow10), ("unicode/utf8.acceptRanges", Rows.laid_unicode_utf8_acceptRanges), ("strconv.ErrRange", Rows.laid_strconv_ErrRange), ("strconv.ErrSyntax", Rows.laid_strconv_ErrSyntax), ("unicode/utf8.first", Rows.laid_unicode_utf8_first)]
theorem q7t(w:World)(h:laidMetH Tryz.prog lst w):laidMet Tryz.prog lst w:=h
theorem qc7{W:World}(h:laidMet Tryz.prog lst W):Std W:=by
 have ht : Lib.TabIs Tryz.prog W "math/bits.deBruijn32tab" .u8 [0, 1, 28, 2, 29, 14, 24, 3, 30, 22, 20, 15, 25, 17, 4, 8, 31, 27, 13, 23, 21, 19, 16, 7, 26, 12, 18, 6, 11, 5, 10, 9] :=
  Lib.tabIs_of_head qdK q9Y Tryz.underlying339 Tryz.underlying5 c8 qe2 h
 have hc:∀j,j<32->W.cell? ⟨1,j,none⟩=some (.int .u8 ((Lib.deBruijn32tab.getD j 0:Nat):Int)):=fun j hj=>by
  rw[ht.cell qdK j hj,qc5 ⟨j,hj⟩]
 exact⟨fun j hj=>hc j hj,q4c (hc 0 (by decide))⟩
theorem qc2{W:World}(h:laidMet Tryz.prog lst W):Ten W:=by
 have ht : Lib.TabIs Tryz.prog W "internal/strconv.uint64pow10" .u64 Lib.pow10Tab :=
  Lib.tabIs_of_head qdJ q9X Tryz.underlying379 Tryz.underlying31 c64 qe1 h.tail.tail
 exact⟨ht,q4c (ht.cell qdJ 0 (by decide))⟩
theorem qdn{W:World}(h:laidMet Tryz.prog lst W):Bg W:=by
 refine⟨qc7 h,?_,?_,?_⟩
 ·exact utf8Tabs_of_reads Tryz.lays260 u8x (Lib.laidMet.reads h (by rw[<- qbn];simp)) (Lib.laidMet.reads h (by rw[<- qae];simp))
 ·obtain⟨a,s,hv,-,-,-⟩:=laid_sentinel h.tail.tail.tail.tail.tail gES qbj Tryz.underlying56 qdA Tryz.underlying398 Tryz.underlying400 rfl rfl Tryz.underlying9 cE cS;exact⟨_,_,by simpa using World.var?_cell gES hv 0⟩
 ·obtain⟨a,s,hv,-,-,-⟩:=laid_sentinel h.tail.tail.tail.tail gER qbk Tryz.underlying56 qdA Tryz.underlying398 Tryz.underlying400 rfl rfl Tryz.underlying9 cE cS;exact⟨_,_,by simpa using World.var?_cell gER hv 0⟩
section
variable {H : Type} {enc : TypeId × Value -> H} {w : World} {base : Nat} {spare : Nat -> Bool} {held : Bool}
theorem q8l{r:Reach}{b0:Nat}{v:Value}{d:DataW H}{ps:List MemPlace}(hval:Value.okWide Tryz.prog w r b0 23 v)(h:DataW.Trod enc Tryz.prog w base spare held 23 v d ps):∃E F:Int,v=fm E F:=by
 obtain⟨cs,rfl,a0⟩:=okWide_struct Tryz.underlying23 hval;obtain⟨fuel,hf⟩:=h;obtain⟨y0,y1,n,-,hl,h0,h1⟩:=trod_struct2 Tryz.underlying23 hf;simp only[cI] at h0 h1;obtain⟨E,e0,-,-⟩:=DataW.trod_int Tryz.underlying3 h0;obtain⟨F,e1,-,-⟩:=DataW.trod_int Tryz.underlying3 h1;refine⟨E,F,?_⟩;obtain⟨l⟩:=cs;rw[cF] at a0
 match l,a0 with
 | [a,b],_ =>
  simp [Value.cells] at e0 e1
  rw[e0,e1]
end
abbrev qdR:ByteArray:=⟨#[118,97,108,117,101,32,111,117,116,32,111,102,32,114,97,110,103,101]⟩
abbrev qdQ:ByteArray:=⟨#[105,110,118,97,108,105,100,32,115,121,110,116,97,120]⟩
noncomputable def low:Nat:=(World.holding Tryz.prog default ⟨#[],#[],[]⟩).heap.size
def put(cs:List Value)(o:Obj):Obj:=match o with|.cells _ t frozen=>.cells cs.toArray t frozen|o=>o
def d64:List Int:=[0,1,56,2,57,49,28,3,61,58,42,50,38,29,17,4,62,47,59,36,45,43,51,22,53,39,33,30,24,18,12,5,63,55,48,27,60,41,37,16,46,35,44,21,52,32,23,11,54,26,40,15,34,20,31,10,25,14,19,9,13,8,7,6]
def d32:List Int:=[0,1,28,2,29,14,24,3,30,22,20,15,25,17,4,8,31,27,13,23,21,19,16,7,26,12,18,6,11,5,10,9]
noncomputable def q5F(os:Os):World:=
 let w0:=World.holding Tryz.prog os ⟨#[.cells #[.string qdR] 400,.cells #[.string qdQ] 400],#[],[]⟩
 {w0 with heap:=((((((w0.heap.modify 1 (put (d32.map (.int .u8)))).modify 8 (put (d64.map (.int .u8)))).modify 5 (put (Lib.pow10Tab.map (.int .u64)))).modify 4 (put ((List.range 16).flatMap fun i=>[.int .u8 (Lib.accLo i:Int),.int .u8 (Lib.accHi i:Int)]))).modify
   3 (put (Lib.firstTab.map (.int .u8)))).modify 7 (put [.iface 398 (.pointer (some ⟨low,0,none⟩))])).modify 6 (put [.iface 398 (.pointer (some ⟨low+1,0,none⟩))])}
theorem q9R(os:Os)(args:Array Value):laidMet Tryz.prog lst ((q5F os).forCall (fun _ _=>0) ⟨#[],args,[]⟩).memory:=
 laidMet_of_run' 8 (by kernel_rfl) (by kernel_rfl)
end Go.Proofs.YtppgcnhlpnmieaaGreatDoor.Hfn
