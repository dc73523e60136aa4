/- Lemmas. -/
import Derived.Test.YthopehoklmgphaaGreatDoorPartBS
import Derived.Test.YthopehoklmgphaaGreatDoorCards
import Derived.Test.YthopehoklmgphaaGreatDoorTie
import Derived.Deep.Strs
import Derived.Deep.DeepHandedRow
import Derived.Lib.LaidU8
import Derived.Stop.LaidErr
import Derived.SizedLaws
import Derived.Test.YthopehoklmgphaaGreatDoorPartAI
set_option linter.all false
set_option maxRecDepth 100000
open Go.Proofs.Tryz
open Go.Proofs.Tryz renaming prog->qa
open Option renaming some->qb,none->qc
namespace Go.Proofs.YthopehoklmgphaaGreatDoor
variable{w W:World}{v:Value}{b0:Nat}{H:Type}{held:Bool}
namespace Sfn
open Go Go.ChangeShapes Go.WideShapes Go.ChangeAt Go.RowKit Go.Deep R5 Scn Rdx
theorem qfG{a:Addr}(h:w.cell? a=qb v):a.block<w.heap.size:=by
 unfold World.cell? at h;cases hh:w.heap[a.block]? with
 | none=>rw[hh] at h;simp at h
 | some o=>exact(k09.1 hh).1
theorem own:ownKnob Tryz.prog.godebug=qc:=by kernel_rfl
theorem laidOut:laidOutB qa=true:=by kernel_rfl
theorem cF:Tryz.prog.cellsOf 23=2:=by kernel_rfl
theorem cI:Tryz.prog.cellsOf 3=1:=by kernel_rfl
theorem c8:Tryz.prog.cellsOf 5=1:=by kernel_rfl
theorem cS:Tryz.prog.cellsOf 9=1:=by kernel_rfl
theorem qfW:Tryz.prog.cellsOf 336=32:=by kernel_rfl
theorem cE:Tryz.prog.cellsOf 349=1:=by kernel_rfl
theorem qfT : Tryz.prog.globalNamed "math/bits.deBruijn32tab" = some 4 := by kernel_rfl
theorem qfI:(Tryz.prog.globals[4]?).map (·.type)=qb 336:=by kernel_rfl
theorem gES : Tryz.prog.globalNamed "strconv.ErrSyntax" = some 5 := by kernel_rfl
theorem qfK:(Tryz.prog.globals[5]?).map (·.type)=qb 73:=by kernel_rfl
theorem gER : Tryz.prog.globalNamed "strconv.ErrRange" = some 6 := by kernel_rfl
theorem qfL:(Tryz.prog.globals[6]?).map (·.type)=qb 73:=by kernel_rfl
theorem qfR : "*" ++ "errors.errorString" = "*errors.errorString" := by decide
theorem qfS (u : TypeId) (h : Tryz.prog.typeName? 3 u = some "*errors.errorString") : u = 347 :=
 typeName_ptr_named (nm := "errors.errorString") (by rw [qfR]; kernel_rfl) (by kernel_rfl) (by decide) u (by rw [qfR]; exact h)
theorem qfN:∀j:Fin 32,([0,1,28,2,29,14,24,3,30,22,20,15,25,17,4,8,31,27,13,23,21,19,16,7,26,12,18,6,11,5,10,9]:List Int).getD j.val 0=((Lib.deBruijn32tab.getD j.val 0:Nat):Int):=by decide
theorem u8x:U8Extra qa Tryz.lays260_ren:=⟨by kernel_rfl,by kernel_rfl,by kernel_rfl,by kernel_rfl,by kernel_rfl,by kernel_rfl,by kernel_rfl⟩
theorem qfM:Rows.laid_unicode_utf8_first=Lib.firstData:=by kernel_rfl
theorem qfJ:Rows.laid_unicode_utf8_acceptRanges (H:=Unit)=Lib.acceptData:=by kernel_rfl
abbrev lst : List (String × DataW Unit) := [("math/bits.deBruijn32tab", Rows.laid_math_bits_deBruijn32tab), ("math/bits.deBruijn64tab", Rows.laid_math_bits_deBruijn64tab), ("internal/strconv.uint64pow10", Rows.laid_internal_strconv_uint64pow10), ("unicode/utf8.acceptRanges", Rows.laid_unicode_utf8_acceptRanges), ("strconv.ErrRange", Rows.laid_strconv_ErrRange), ("strconv.ErrSyntax", Rows.laid_strconv_ErrSyntax), ("unicode/utf8.first", Rows.laid_unicode_utf8_first)]
abbrev qfP : List (String × DataW Unit) := [("math/bits.deBruijn32tab", Rows.laid_math_bits_deBruijn32tab), ("math/bits.deBruijn64tab", Rows.laid_math_bits_deBruijn64tab), ("internal/strconv.uint64pow10", Rows.laid_internal_strconv_uint64pow10), ("unicode/utf8.acceptRanges", Rows.laid_unicode_utf8_acceptRanges), ("errors.errorType", Rows.laid_errors_errorType), ("strconv.ErrRange", Rows.laid_strconv_ErrRange), ("strconv.ErrSyntax", Rows.laid_strconv_ErrSyntax), ("unicode/utf8.first", Rows.laid_unicode_utf8_first)]
theorem rtR : (Tryz.prog.cutTypes.find? (·.1 == "internal/reflectlite.rtype")).map (·.2) = some 122 := by kernel_rfl
theorem qfQ:((List.range Tryz.prog.types.size).filter fun t=>Tryz.prog.rowNamed t [101,114,114,111,114])=[73]:=by kernel_rfl
theorem gET : Tryz.prog.globalNamed "errors.errorType" = some 0 := by kernel_rfl
theorem plain_list(w:World)(h:laidMetH qa qfP w):laidMet qa lst w/\qfF w:=by
 have h':laidMet Tryz.prog lst w/\handlesMet Tryz.prog (qfP.filter fun x=>x.2.handleName?.isSome) w:=h;refine⟨h'.1,?_⟩;have hm : ("errors.errorType", Rows.laid_errors_errorType (H := Unit)) ∈ qfP.filter fun x => x.2.handleName?.isSome := List.mem_filter.2 ⟨by simp [qfP], rfl⟩
 obtain⟨name,u,ty,e1,e2,e3,e4,e5⟩:=h'.2 _ hm;have en:name=[101,114,114,111,114]:=(k1M e1).symm;subst en;obtain rfl:=k1M (rtR.symm.trans e2);have hm:ty∈(List.range Tryz.prog.types.size).filter fun t=>Tryz.prog.rowNamed t [101,114,114,111,114]:=List.mem_filter.2 ⟨List.mem_range.2 e3,e4⟩
 rw[qfQ] at hm;obtain rfl:=k0j.1 hm;have hh:typeHandle qa 73=.pointer (qb ⟨9,73,qc⟩):=by kernel_rfl
 rw[hh] at e5;unfold qfF
 simpa using World.var?_cell gET e5 0
theorem qfO(h:laidMet qa lst W):Std W:=by
 have ht : Lib.TabIs Tryz.prog W "math/bits.deBruijn32tab" .u8 [0, 1, 28, 2, 29, 14, 24, 3, 30, 22, 20, 15, 25, 17, 4, 8, 31, 27, 13, 23, 21, 19, 16, 7, 26, 12, 18, 6, 11, 5, 10, 9] :=
  Lib.tabIs_of_head qfT qfI underlying336 underlying5 c8 qfW h
 have hc:∀j,j<32->W.cell? ⟨4,j,qc⟩=qb (.int .u8 ((Lib.deBruijn32tab.getD j 0:Nat):Int)):=fun j hj=>by rw[ht.cell qfT j hj,qfN ⟨j,hj⟩]
 exact⟨fun j hj=>hc j hj,qfG (hc 0 (by decide))⟩
theorem bg_of(h:laidMet qa lst W):Bg W:=by
 refine⟨qfO h,?_,?_,?_⟩
 ·exact utf8Tabs_of_reads Tryz.lays260 u8x (Lib.laidMet.reads h (by rw[<- qfM];simp)) (Lib.laidMet.reads h (by rw[<- qfJ];simp))
 ·obtain⟨a,s,b,-,-,-⟩:=laid_sentinel h.tail.tail.tail.tail.tail gES qfK underlying73 qfS underlying347 underlying349 rfl rfl underlying9 cE cS;exact⟨_,_,by simpa using World.var?_cell gES b 0⟩
 ·obtain⟨a,s,b,-,-,-⟩:=laid_sentinel h.tail.tail.tail.tail gER qfL underlying73 qfS underlying347 underlying349 rfl rfl underlying9 cE cS;exact⟨_,_,by simpa using World.var?_cell gER b 0⟩
section
variable {H : Type} {enc : TypeId × Value -> H} {w : World} {base : Nat} {spare : Nat -> Bool} {held : Bool}
theorem open_form{r:Reach}{d:DataW H}{ps:List MemPlace}(hval:Value.okWide qa w r b0 23 v)(h:DataW.Trod enc qa w base spare held 23 v d ps):∃E F:Int,v=fm E F:=by
 obtain⟨j,rfl,c⟩:=okWide_struct underlying23 hval;obtain⟨fuel,k⟩:=h;obtain⟨m,o,n,-,p,e,f⟩:=trod_struct2 underlying23 k;simp only[cI] at e f;obtain⟨E,g,-,-⟩:=DataW.trod_int underlying3 e;obtain⟨F,i,-,-⟩:=DataW.trod_int underlying3 f;refine⟨E,F,?_⟩;obtain⟨l⟩:=j;rw[cF] at c
 match l,c with
 | [a,b],_ =>simp [Value.cells] at g i;rw[g,i]
end
abbrev qfV:ByteArray:=⟨#[118,97,108,117,101,32,111,117,116,32,111,102,32,114,97,110,103,101]⟩
abbrev qfU:ByteArray:=⟨#[105,110,118,97,108,105,100,32,115,121,110,116,97,120]⟩
noncomputable def low:Nat:=(World.holding qa default ⟨#[],#[],[]⟩).heap.size
def put(cs:List Value)(o:Obj):Obj:=match o with|.cells _ t frozen=>.cells cs.toArray t frozen|o=>o
def d64:List Int:=[0,1,56,2,57,49,28,3,61,58,42,50,38,29,17,4,62,47,59,36,45,43,51,22,53,39,33,30,24,18,12,5,63,55,48,27,60,41,37,16,46,35,44,21,52,32,23,11,54,26,40,15,34,20,31,10,25,14,19,9,13,8,7,6]
def d32:List Int:=[0,1,28,2,29,14,24,3,30,22,20,15,25,17,4,8,31,27,13,23,21,19,16,7,26,12,18,6,11,5,10,9]
noncomputable def laidWorld(os:Os):World:=
 let w0:=World.holding qa os ⟨#[.cells #[.string qfV] 349,.cells #[.string qfU] 349],#[],[]⟩
 {w0 with heap:=(((((((w0.heap.modify 4 (put (d32.map (.int .u8)))).modify 8 (put (d64.map (.int .u8)))).modify 7 (put (Lib.pow10Tab.map (.int .u64)))).modify 3 (put ((List.range 16).flatMap fun i=>[.int .u8 (Lib.accLo i:Int),.int .u8 (Lib.accHi i:Int)]))).modify
   2 (put (Lib.firstTab.map (.int .u8)))).modify 6 (put [.iface 347 (.pointer (qb ⟨low,0,qc⟩))])).modify 5 (put [.iface 347 (.pointer (qb ⟨low+1,0,qc⟩))])).modify 0 (put [.iface 122 (.agg #[.pointer (qb ⟨9,73,qc⟩)])])}
theorem laid_met(os:Os)(args:Array Value):laidMetH qa qfP ((laidWorld os).forCall (fun _ _=>0) ⟨#[],args,[]⟩).memory:=laidMetH_of_parts (laidMet_of_run' 8 (by kernel_rfl) (by kernel_rfl)) (by kernel_rfl)
section
variable {H : Type} {enc : TypeId × Value -> H} {P : Program} {w : World} {base : Nat} {spare : Nat -> Bool} {held : Bool}
end
theorem cOp:Tryz.prog.cellsOf 37=3:=by kernel_rfl
theorem qfX:Tryz.prog.cellsOf 9=1:=by kernel_rfl
theorem qfH{enc:TypeId × Value->H}{base:Nat}{spare:Nat->Bool}{P:Program}{t:TypeId}{f0 f1 f2:Field}{fuel:Nat}{cs:List Value}{x:DataW H × List MemPlace}(ht:P.underlying t=qb (.struct #[f0,f1,f2]))(h:DataW.trod enc P w base spare held fuel t cs=qb x):∃y0 y1 y2 n,cs.length=P.cellsOf t /\DataW.trod enc P w base spare held n f0.type ((cs.drop f0.offset).take (P.cellsOf f0.type))=qb y0/\DataW.trod enc P w base spare held n f1.type ((cs.drop f1.offset).take (P.cellsOf f1.type))=qb y1 /\DataW.trod enc P w base spare held n f2.type ((cs.drop f2.offset).take (P.cellsOf f2.type))=qb y2:=by
 obtain⟨c,n,_,rfl,d,b,a⟩:=DataW.trod_struct ht h
 match c,b with
 | [y0,y1,y2],_=>exact⟨y0,y1,y2,n,d,by simpa using a 0 f0 rfl,by simpa using a 1 f1 rfl,by simpa using a 2 f2 rfl⟩
theorem open_ops{enc:TypeId × Value->H}{r:Reach}{d:DataW H}{ps:List MemPlace}(hval:Value.okWide qa w r b0 24 v)(h:DataW.Trod enc qa w 0 (fun _=>true) held 24 v d ps):∃Ad n c C,v=.slice Ad n c/\Go.Proofs.YthopehoklmgphaaGreatDoor.Str.Ops w Ad n C:=by
 obtain⟨a,len,cap,rfl⟩:=okWide_slice underlying24 hval;obtain⟨fuel,N⟩:=h;rcases DataW.trod_slice underlying24 N with ⟨e,-⟩|⟨g,n,c,elems,rest,m,-,e,-,-,-,-,R,K,-⟩
 ·simp [Value.cells] at e;obtain⟨rfl,rfl,rfl⟩:=e;exact⟨qc,0,0,fun _=>(0,0,⟨#[]⟩),rfl,fun h=>absurd h (by decide)⟩
 ·simp [Value.cells] at e;obtain⟨rfl,rfl,rfl⟩:=e;have L:∀i,∃y:Int × Int × ByteArray,i<len->∀j u,[Value.int .i64 y.1,.int .i64 y.2.1,.string y.2.2][j]?=qb u->w.cell? ((g.add (i*3)).add j)=qb u:=by
   intro i;by_cases hi:i<len
   ·have E:=K i hi;rw[cOp,k0n (by omega)] at E;simp only[Option.bind_eq_some_iff] at E;obtain⟨O,f,P⟩:=E;obtain⟨S,T,U,V,p,q,t,z⟩:=qfH underlying37 P;simp only[cI,qfX] at q t z;obtain⟨k,D,-,-⟩:=DataW.trod_int underlying3 q;obtain⟨x,F,-,-⟩:=DataW.trod_int underlying3 t;obtain⟨s,G,-,-⟩:=DataW.trod_string underlying9 z;rw[cOp] at p
    match O,p with
    | [c0,c1,c2],_ =>
     simp at D F G;subst D F G;refine⟨(k,x,s),fun _ j u hu=>?_⟩;unfold World.cells? at f;split at f
     ·have Q:j<3:=(k1R.1 hu).1;rw[mapM_some_get f j j (by simp [Q])];exact hu
     ·cases f
   ·exact⟨(0,0,⟨#[]⟩),fun h=>absurd h hi⟩
  obtain⟨C,I⟩:=Classical.skolem.1 L;refine⟨qb g,len,cap,C,rfl,fun hn=>?_⟩;have J:=I 0 hn 0 _ rfl;obtain⟨b,off,spot⟩:=g;have M:spot=qc:=by simpa [Addr.add] using World.cell?_spot J
  subst M;have l:∀o j,(⟨b,o,qc⟩:Addr).add j=⟨b,o+j,qc⟩:=fun o j=>by unfold Addr.add;split<;>simp_all
  refine⟨b,off,rfl,?_,fun i hi j u hu=>?_⟩
  ·have:=qfG J
   simpa [l] using this
  ·have:=I i hi j u hu;rw[l,l] at this;exact this
end Sfn
end Go.Proofs.YthopehoklmgphaaGreatDoor
