/- Lemmas. -/
import Derived.Test.YtokgagenofjmgaaGreatDoorPartBU
import Derived.Test.YtokgagenofjmgaaGreatDoorCards
import Derived.Test.YtokgagenofjmgaaGreatDoorTie
import Derived.Deep.Strs
import Derived.Deep.DeepHandedRow
import Derived.Lib.LaidU8
import Derived.Stop.LaidErr
set_option linter.all false
set_option maxRecDepth 100000
open Go.Proofs.Tryz
open Go.Proofs.Tryz renaming prog->qa
namespace Go.Proofs.YtokgagenofjmgaaGreatDoor
namespace Sfn
open Go Go.ChangeShapes Go.WideShapes Go.ChangeAt Go.RowKit Go.Deep R5 Scn Rdx
theorem q3C{w:World}{a:Addr}{v:Value}(h:w.cell? a=some v):a.block<w.heap.size:=by
 unfold World.cell? at h;cases hh:w.heap[a.block]? with
 | none=>rw[hh] at h;simp at h
 | some o=>exact(k0a.1 hh).1
theorem own:ownKnob Tryz.prog.godebug=none:=by kernel_rfl
theorem laidOut:laidOutB qa=true:=by kernel_rfl
theorem cF:Tryz.prog.cellsOf 23=2:=by kernel_rfl
theorem cI:Tryz.prog.cellsOf 3=1:=by kernel_rfl
theorem c8:Tryz.prog.cellsOf 5=1:=by kernel_rfl
theorem cS:Tryz.prog.cellsOf 9=1:=by kernel_rfl
theorem qfy:Tryz.prog.cellsOf 326=32:=by kernel_rfl
theorem cE:Tryz.prog.cellsOf 339=1:=by kernel_rfl
theorem qeW : Tryz.prog.globalNamed "math/bits.deBruijn32tab" = some 4 := by kernel_rfl
theorem qb1:(Tryz.prog.globals[4]?).map (·.type)=some 326:=by kernel_rfl
theorem gES : Tryz.prog.globalNamed "strconv.ErrSyntax" = some 5 := by kernel_rfl
theorem qcA:(Tryz.prog.globals[5]?).map (·.type)=some 63:=by kernel_rfl
theorem gER : Tryz.prog.globalNamed "strconv.ErrRange" = some 6 := by kernel_rfl
theorem qcB:(Tryz.prog.globals[6]?).map (·.type)=some 63:=by kernel_rfl
theorem qeK : "*" ++ "errors.errorString" = "*errors.errorString" := by decide
theorem qeL (u : TypeId) (h : Tryz.prog.typeName? 3 u = some "*errors.errorString") : u = 337 :=
 typeName_ptr_named (nm := "errors.errorString") (by rw [qeK]; kernel_rfl) (by kernel_rfl) (by decide) u (by rw [qeK]; exact h)
theorem qdp:∀j:Fin 32,([0,1,28,2,29,14,24,3,30,22,20,15,25,17,4,8,31,27,13,23,21,19,16,7,26,12,18,6,11,5,10,9]:List Int).getD j.val 0=((Lib.deBruijn32tab.getD j.val 0:Nat):Int):=by decide
theorem u8x:U8Extra qa Tryz.lays260_ren:=⟨by kernel_rfl,by kernel_rfl,by kernel_rfl,by kernel_rfl,by kernel_rfl,by kernel_rfl,by kernel_rfl⟩
theorem qcE:Rows.laid_unicode_utf8_first=Lib.firstData:=by kernel_rfl
theorem qbj:Rows.laid_unicode_utf8_acceptRanges (H:=Unit)=Lib.acceptData:=by kernel_rfl
abbrev lst : List (String × DataW Unit) := [("math/bits.deBruijn32tab", Rows.laid_math_bits_deBruijn32tab), ("math/bits.deBruijn64tab", Rows.laid_math_bits_deBruijn64tab), ("internal/strconv.uint64pow10", Rows.laid_internal_strconv_uint64pow10), ("unicode/utf8.acceptRanges", Rows.laid_unicode_utf8_acceptRanges), ("strconv.ErrRange", Rows.laid_strconv_ErrRange), ("strconv.ErrSyntax", Rows.laid_strconv_ErrSyntax), ("unicode/utf8.first", Rows.laid_unicode_utf8_first)]
abbrev qdQ : List (String × DataW Unit) := [("math/bits.deBruijn32tab", Rows.laid_math_bits_deBruijn32tab), ("math/bits.deBruijn64tab", Rows.laid_math_bits_deBruijn64tab), ("internal/strconv.uint64pow10", Rows.laid_internal_strconv_uint64pow10), ("unicode/utf8.acceptRanges", Rows.laid_unicode_utf8_acceptRanges), ("errors.errorType", Rows.laid_errors_errorType), ("strconv.ErrRange", Rows.laid_strconv_ErrRange), ("strconv.ErrSyntax", Rows.laid_strconv_ErrSyntax), ("unicode/utf8.first", Rows.laid_unicode_utf8_first)]
theorem rtR : (Tryz.prog.cutTypes.find? (·.1 == "internal/reflectlite.rtype")).map (·.2) = some 112 := by kernel_rfl
theorem qem:((List.range Tryz.prog.types.size).filter fun t=>Tryz.prog.rowNamed t [101,114,114,111,114])=[63]:=by kernel_rfl
theorem gET : Tryz.prog.globalNamed "errors.errorType" = some 0 := by kernel_rfl
theorem plain_list(w:World)(h:laidMetH qa qdQ w):laidMet qa lst w/\q2B w:=by
 have h':laidMet Tryz.prog lst w/\handlesMet Tryz.prog (qdQ.filter fun x=>x.2.handleName?.isSome) w:=h;refine⟨h'.1,?_⟩;have hm : ("errors.errorType", Rows.laid_errors_errorType (H := Unit)) ∈ qdQ.filter fun x => x.2.handleName?.isSome := List.mem_filter.2 ⟨by simp [qdQ], rfl⟩
 obtain⟨name,u,ty,e1,e2,e3,e4,e5⟩:=h'.2 _ hm;have en:name=[101,114,114,111,114]:=(k1O e1).symm;subst en;obtain rfl:=k1O (rtR.symm.trans e2);have hm:ty∈(List.range Tryz.prog.types.size).filter fun t=>Tryz.prog.rowNamed t [101,114,114,111,114]:=List.mem_filter.2 ⟨List.mem_range.2 e3,e4⟩
 rw[qem] at hm;obtain rfl:=k0i.1 hm;have hh:typeHandle qa 63=.pointer (some ⟨9,63,none⟩):=by kernel_rfl
 rw[hh] at e5;unfold q2B
 simpa using World.var?_cell gET e5 0
theorem qds{W:World}(h:laidMet qa lst W):Std W:=by
 have ht : Lib.TabIs Tryz.prog W "math/bits.deBruijn32tab" .u8 [0, 1, 28, 2, 29, 14, 24, 3, 30, 22, 20, 15, 25, 17, 4, 8, 31, 27, 13, 23, 21, 19, 16, 7, 26, 12, 18, 6, 11, 5, 10, 9] :=
  Lib.tabIs_of_head qeW qb1 underlying326 underlying5 c8 qfy h
 have hc:∀j,j<32->W.cell? ⟨4,j,none⟩=some (.int .u8 ((Lib.deBruijn32tab.getD j 0:Nat):Int)):=fun j hj=>by rw[ht.cell qeW j hj,qdp ⟨j,hj⟩]
 exact⟨fun j hj=>hc j hj,q3C (hc 0 (by decide))⟩
theorem bg_of{W:World}(h:laidMet qa lst W):Bg W:=by
 refine⟨qds h,?_,?_,?_⟩
 ·exact utf8Tabs_of_reads Tryz.lays260 u8x (Lib.laidMet.reads h (by rw[<- qcE];simp)) (Lib.laidMet.reads h (by rw[<- qbj];simp))
 ·obtain⟨a,s,b,-,-,-⟩:=laid_sentinel h.tail.tail.tail.tail.tail gES qcA underlying63 qeL underlying337 underlying339 rfl rfl underlying9 cE cS;exact⟨_,_,by simpa using World.var?_cell gES b 0⟩
 ·obtain⟨a,s,b,-,-,-⟩:=laid_sentinel h.tail.tail.tail.tail gER qcB underlying63 qeL underlying337 underlying339 rfl rfl underlying9 cE cS;exact⟨_,_,by simpa using World.var?_cell gER b 0⟩
section
variable {H : Type} {enc : TypeId × Value -> H} {w : World} {base : Nat} {spare : Nat -> Bool} {held : Bool}
theorem open_form{r:Reach}{b0:Nat}{v:Value}{d:DataW H}{ps:List MemPlace}(hval:Value.okWide qa w r b0 23 v)(h:DataW.Trod enc qa w base spare held 23 v d ps):∃E F:Int,v=fm E F:=by
 obtain⟨j,rfl,c⟩:=okWide_struct underlying23 hval;obtain⟨fuel,k⟩:=h;obtain⟨m,o,n,-,p,e,f⟩:=trod_struct2 underlying23 k;simp only[cI] at e f;obtain⟨E,g,-,-⟩:=DataW.trod_int underlying3 e;obtain⟨F,i,-,-⟩:=DataW.trod_int underlying3 f;refine⟨E,F,?_⟩;obtain⟨l⟩:=j;rw[cF] at c
 match l,c with
 | [a,b],_ =>simp [Value.cells] at g i;rw[g,i]
end
abbrev qfg:ByteArray:=⟨#[118,97,108,117,101,32,111,117,116,32,111,102,32,114,97,110,103,101]⟩
abbrev qff:ByteArray:=⟨#[105,110,118,97,108,105,100,32,115,121,110,116,97,120]⟩
noncomputable def low:Nat:=(World.holding qa default ⟨#[],#[],[]⟩).heap.size
def put(cs:List Value)(o:Obj):Obj:=match o with|.cells _ t frozen=>.cells cs.toArray t frozen|o=>o
def d64:List Int:=[0,1,56,2,57,49,28,3,61,58,42,50,38,29,17,4,62,47,59,36,45,43,51,22,53,39,33,30,24,18,12,5,63,55,48,27,60,41,37,16,46,35,44,21,52,32,23,11,54,26,40,15,34,20,31,10,25,14,19,9,13,8,7,6]
def d32:List Int:=[0,1,28,2,29,14,24,3,30,22,20,15,25,17,4,8,31,27,13,23,21,19,16,7,26,12,18,6,11,5,10,9]
noncomputable def laidWorld(os:Os):World:=
 let w0:=World.holding qa os ⟨#[.cells #[.string qfg] 339,.cells #[.string qff] 339],#[],[]⟩
 {w0 with heap:=(((((((w0.heap.modify 4 (put (d32.map (.int .u8)))).modify 8 (put (d64.map (.int .u8)))).modify 7 (put (Lib.pow10Tab.map (.int .u64)))).modify 3 (put ((List.range 16).flatMap fun i=>[.int .u8 (Lib.accLo i:Int),.int .u8 (Lib.accHi i:Int)]))).modify
   2 (put (Lib.firstTab.map (.int .u8)))).modify 6 (put [.iface 337 (.pointer (some ⟨low,0,none⟩))])).modify 5 (put [.iface 337 (.pointer (some ⟨low+1,0,none⟩))])).modify 0 (put [.iface 112 (.agg #[.pointer (some ⟨9,63,none⟩)])])}
theorem laid_met(os:Os)(args:Array Value):laidMetH qa qdQ ((laidWorld os).forCall (fun _ _=>0) ⟨#[],args,[]⟩).memory:=laidMetH_of_parts (laidMet_of_run' 8 (by kernel_rfl) (by kernel_rfl)) (by kernel_rfl)
section
variable {H : Type} {enc : TypeId × Value -> H} {P : Program} {w : World} {base : Nat} {spare : Nat -> Bool} {held : Bool}
theorem trodAll_five{t t' t'' t3 t4:TypeId}{args:Array Value}{ds:List (DataW H)}{ps:List MemPlace}(h:DataW.TrodAll enc P w base spare held [t,t',t'',t3,t4] args.toList ds ps):∃v v' v'' v3 v4 d d' d'' d3 d4 p p' p'' p3 p4,args=#[v,v',v'',v3,v4]/\ds=[d,d',d'',d3,d4]/\ps=p++(p'++(p''++(p3++p4)))/\DataW.Trod enc P w base spare held t v d p/\DataW.Trod enc P w base spare held t' v' d' p' /\DataW.Trod enc P w base spare held t'' v'' d'' p''/\DataW.Trod enc P w base spare held t3 v3 d3 p3/\DataW.Trod enc P w base spare held t4 v4 d4 p4:=by obtain⟨v,E,d,m,p,q,n,rfl,rfl,l,a⟩:=trodAll_cons h;obtain⟨v',o,d',r,p',F,rfl,rfl,rfl,b,c⟩:=trodAll_cons a;obtain⟨v'',s,d'',u,p'',x,rfl,rfl,rfl,e,f⟩:=trodAll_cons c;obtain⟨v3,y,d3,z,p3,G,rfl,rfl,rfl,g,i⟩:=trodAll_cons f;obtain⟨v4,C,d4,D,p4,I,rfl,rfl,rfl,j,k⟩:=trodAll_cons i;obtain⟨rfl,rfl,rfl⟩:=trodAll_nil k;exact⟨v,v',v'',v3,v4,d,d',d'',d3,d4,p,p',p'',p3,p4,by cases args;simp_all,rfl,by simp,l,b,e,g,j⟩
theorem trodAll_mk5{t t' t'' t3 t4:TypeId}{v v' v'' v3 v4:Value}{d d' d'' d3 d4:DataW H}{p p' p'' p3 p4:List MemPlace}(h:DataW.Trod enc P w base spare held t v d p)(h':DataW.Trod enc P w base spare held t' v' d' p')
  (h'':DataW.Trod enc P w base spare held t'' v'' d'' p'') (h3:DataW.Trod enc P w base spare held t3 v3 d3 p3) (h4:DataW.Trod enc P w base spare held t4 v4 d4 p4) :
  DataW.TrodAll enc P w base spare held [t,t',t'',t3,t4] [v,v',v'',v3,v4] [d,d',d'',d3,d4] (p++(p'++(p''++(p3++p4)))):=⟨p,_,h,trodAll_mk4 h' h'' h3 h4,rfl⟩
end
theorem qdu{a b:Bool}(h:a=true)(k:b=true):(a && b)=true:=by rw[h,k];rfl
set_option maxHeartbeats 16000000 in
theorem si_closed:joinedFacts Tryz.pinned.checked.prog 3 Tryz.f3 (OpenSpec.ofChange Rows.streamItemsSpec).bare Rows.streamItemsRow=true:=by
 unfold joinedFacts
 repeat' with_reducible apply qdu
 all_goals as_aux_lemma=>kernel_rfl
end Sfn
end Go.Proofs.YtokgagenofjmgaaGreatDoor
