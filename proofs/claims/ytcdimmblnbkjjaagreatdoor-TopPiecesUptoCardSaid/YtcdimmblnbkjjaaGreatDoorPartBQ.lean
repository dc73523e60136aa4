/- TopPieces is proved in its second form: however a text is cut into pieces, empty ones too, the items that come out of them are those of the whole, in their order, and behind the end nothing is held; where what is handed in holds together at most 1048576 values and letters. -/
import Derived.Test.YtcdimmblnbkjjaaGreatDoorPartBP
import Derived.Test.YtcdimmblnbkjjaaGreatDoorCards
import Derived.Test.YtcdimmblnbkjjaaGreatDoorTie
import Derived.ProofKit
import Derived.OpenShut
import Derived.Deep.Strs
import Derived.Deep.DeepHandedRow
import Derived.Lib.LaidU8
import Derived.Stop.LaidErr
import Derived.LaidHandle
import Derived.SizedLaws
import Derived.Carry
import Derived.ChangeMaps5
import Derived.ChangeSlices
set_option linter.all false
set_option maxHeartbeats 16000000
set_option maxRecDepth 100000
namespace Go.Proofs.YtcdimmblnbkjjaaGreatDoor.Sfn
open Go Go.ChangeShapes Go.WideShapes Go.ChangeAt Go.RowKit Go.Deep R5 Scn Rdx
theorem cell_lt{w:World}{a:Addr}{v:Value}(h:w.cell? a=some v):a.block<w.heap.size:=by
 unfold World.cell? at h;cases hh:w.heap[a.block]? with
 | none=>rw[hh] at h;simp at h
 | some o=>exact(Array.getElem?_eq_some_iff.1 hh).1
theorem own:ownKnob Tryz.prog.godebug=none:=by kernel_rfl
theorem laidOut:laidOutB Tryz.prog=true:=by kernel_rfl
theorem cF:Tryz.prog.cellsOf 23=2:=by kernel_rfl
theorem cI:Tryz.prog.cellsOf 3=1:=by kernel_rfl
theorem c8:Tryz.prog.cellsOf 5=1:=by kernel_rfl
theorem cS:Tryz.prog.cellsOf 9=1:=by kernel_rfl
theorem cTab:Tryz.prog.cellsOf 303=32:=by kernel_rfl
theorem cE:Tryz.prog.cellsOf 324=1:=by kernel_rfl
theorem gTab : Tryz.prog.globalNamed "math/bits.deBruijn32tab" = some 4 := by kernel_rfl
theorem gTabType:(Tryz.prog.globals[4]?).map (·.type)=some 303:=by kernel_rfl
theorem gES : Tryz.prog.globalNamed "strconv.ErrSyntax" = some 5 := by kernel_rfl
theorem gESType:(Tryz.prog.globals[5]?).map (·.type)=some 56:=by kernel_rfl
theorem gER : Tryz.prog.globalNamed "strconv.ErrRange" = some 6 := by kernel_rfl
theorem gERType:(Tryz.prog.globals[6]?).map (·.type)=some 56:=by kernel_rfl
theorem star : "*" ++ "errors.errorString" = "*errors.errorString" := by decide
theorem rowE (u : TypeId) (h : Tryz.prog.typeName? 3 u = some "*errors.errorString") : u = 322 :=
 typeName_ptr_named (nm := "errors.errorString") (by rw [star]; kernel_rfl) (by kernel_rfl) (by decide) u (by rw [star]; exact h)
theorem tab_at:∀j:Fin 32,([0,1,28,2,29,14,24,3,30,22,20,15,25,17,4,8,31,27,13,23,21,19,16,7,26,12,18,6,11,5,10,9]:List Int).getD j.val 0=((Lib.deBruijn32tab.getD j.val 0:Nat):Int):=by decide
theorem u8x:U8Extra Tryz.prog Tryz.lays260_ren:=⟨by kernel_rfl,by kernel_rfl,by kernel_rfl,by kernel_rfl,by kernel_rfl,by kernel_rfl,by kernel_rfl⟩
theorem firstEq:Rows.laid_unicode_utf8_first=Lib.firstData:=by kernel_rfl
theorem acceptEq:Rows.laid_unicode_utf8_acceptRanges (H:=Unit)=Lib.acceptData:=by kernel_rfl
abbrev lst : List (String × DataW Unit) := [("math/bits.deBruijn32tab", Rows.laid_math_bits_deBruijn32tab), ("math/bits.deBruijn64tab", Rows.laid_math_bits_deBruijn64tab), ("internal/strconv.uint64pow10", Rows.laid_internal_strconv_uint64pow10), ("unicode/utf8.acceptRanges", Rows.laid_unicode_utf8_acceptRanges), ("strconv.ErrRange", Rows.laid_strconv_ErrRange), ("strconv.ErrSyntax", Rows.laid_strconv_ErrSyntax), ("unicode/utf8.first", Rows.laid_unicode_utf8_first)]
abbrev lstH : List (String × DataW Unit) := [("math/bits.deBruijn32tab", Rows.laid_math_bits_deBruijn32tab), ("math/bits.deBruijn64tab", Rows.laid_math_bits_deBruijn64tab), ("internal/strconv.uint64pow10", Rows.laid_internal_strconv_uint64pow10), ("unicode/utf8.acceptRanges", Rows.laid_unicode_utf8_acceptRanges), ("errors.errorType", Rows.laid_errors_errorType), ("strconv.ErrRange", Rows.laid_strconv_ErrRange), ("strconv.ErrSyntax", Rows.laid_strconv_ErrSyntax), ("unicode/utf8.first", Rows.laid_unicode_utf8_first)]
theorem rtR : (Tryz.prog.cutTypes.find? (·.1 == "internal/reflectlite.rtype")).map (·.2) = some 222 := by kernel_rfl
theorem rtOne:((List.range Tryz.prog.types.size).filter fun t=>Tryz.prog.rowNamed t [101,114,114,111,114])=[56]:=by kernel_rfl
theorem gET : Tryz.prog.globalNamed "errors.errorType" = some 0 := by kernel_rfl
theorem plain_list(w:World)(h:laidMetH Tryz.prog lstH w):laidMet Tryz.prog lst w/\EType w:=by
 have h':laidMet Tryz.prog lst w/\handlesMet Tryz.prog (lstH.filter fun x=>x.2.handleName?.isSome) w:=h;refine⟨h'.1,?_⟩;have hm : ("errors.errorType", Rows.laid_errors_errorType (H := Unit)) ∈ lstH.filter fun x => x.2.handleName?.isSome := List.mem_filter.2 ⟨by simp [lstH], rfl⟩
 obtain⟨name,u,ty,e1,e2,e3,e4,e5⟩:=h'.2 _ hm;have en:name=[101,114,114,111,114]:=(Option.some.inj e1).symm;subst en;obtain rfl:=Option.some.inj (rtR.symm.trans e2);have hm:ty∈(List.range Tryz.prog.types.size).filter fun t=>Tryz.prog.rowNamed t [101,114,114,111,114]:=List.mem_filter.2 ⟨List.mem_range.2 e3,e4⟩
 rw[rtOne] at hm;obtain rfl:=List.mem_singleton.1 hm;have hh:typeHandle Tryz.prog 56=.pointer (some ⟨9,56,none⟩):=by kernel_rfl
 rw[hh] at e5;unfold EType
 simpa using World.var?_cell gET e5 0
theorem std_of{W:World}(h:laidMet Tryz.prog lst W):Std W:=by
 have ht : Lib.TabIs Tryz.prog W "math/bits.deBruijn32tab" .u8 [0, 1, 28, 2, 29, 14, 24, 3, 30, 22, 20, 15, 25, 17, 4, 8, 31, 27, 13, 23, 21, 19, 16, 7, 26, 12, 18, 6, 11, 5, 10, 9] :=
  Lib.tabIs_of_head gTab gTabType Tryz.underlying303 Tryz.underlying5 c8 cTab h
 have hc:∀j,j<32->W.cell? ⟨4,j,none⟩=some (.int .u8 ((Lib.deBruijn32tab.getD j 0:Nat):Int)):=fun j hj=>by
  rw[ht.cell gTab j hj,tab_at ⟨j,hj⟩]
 exact⟨fun j hj=>hc j hj,cell_lt (hc 0 (by decide))⟩
theorem bg_of{W:World}(h:laidMet Tryz.prog lst W):Bg W:=by
 refine⟨std_of h,?_,?_,?_⟩
 ·exact utf8Tabs_of_reads Tryz.lays260 u8x (Lib.laidMet.reads h (by rw[<- firstEq];simp)) (Lib.laidMet.reads h (by rw[<- acceptEq];simp))
 ·obtain⟨a,s,hv,-,-,-⟩:=laid_sentinel h.tail.tail.tail.tail.tail gES gESType Tryz.underlying56 rowE Tryz.underlying322 Tryz.underlying324 rfl rfl Tryz.underlying9 cE cS;exact⟨_,_,by simpa using World.var?_cell gES hv 0⟩
 ·obtain⟨a,s,hv,-,-,-⟩:=laid_sentinel h.tail.tail.tail.tail gER gERType Tryz.underlying56 rowE Tryz.underlying322 Tryz.underlying324 rfl rfl Tryz.underlying9 cE cS;exact⟨_,_,by simpa using World.var?_cell gER hv 0⟩
section
variable {H : Type} {enc : TypeId × Value -> H} {w : World} {base : Nat} {spare : Nat -> Bool} {held : Bool}
theorem open_form{r:Reach}{b0:Nat}{v:Value}{d:DataW H}{ps:List MemPlace}(hval:Value.okWide Tryz.prog w r b0 23 v)(h:DataW.Trod enc Tryz.prog w base spare held 23 v d ps):∃E F:Int,v=fm E F:=by
 obtain⟨cs,rfl,a0⟩:=okWide_struct Tryz.underlying23 hval;obtain⟨fuel,hf⟩:=h;obtain⟨y0,y1,n,-,hl,h0,h1⟩:=trod_struct2 Tryz.underlying23 hf;simp only[cI] at h0 h1;obtain⟨E,e0,-,-⟩:=DataW.trod_int Tryz.underlying3 h0;obtain⟨F,e1,-,-⟩:=DataW.trod_int Tryz.underlying3 h1;refine⟨E,F,?_⟩;obtain⟨l⟩:=cs;rw[cF] at a0
 match l,a0 with
 | [a,b],_ =>
  simp [Value.cells] at e0 e1
  rw[e0,e1]
end
abbrev txtR:ByteArray:=⟨#[118,97,108,117,101,32,111,117,116,32,111,102,32,114,97,110,103,101]⟩
abbrev txtS:ByteArray:=⟨#[105,110,118,97,108,105,100,32,115,121,110,116,97,120]⟩
noncomputable def low:Nat:=(World.holding Tryz.prog default ⟨#[],#[],[]⟩).heap.size
def put(cs:List Value)(o:Obj):Obj:=match o with|.cells _ t frozen=>.cells cs.toArray t frozen|o=>o
def d64:List Int:=[0,1,56,2,57,49,28,3,61,58,42,50,38,29,17,4,62,47,59,36,45,43,51,22,53,39,33,30,24,18,12,5,63,55,48,27,60,41,37,16,46,35,44,21,52,32,23,11,54,26,40,15,34,20,31,10,25,14,19,9,13,8,7,6]
def d32:List Int:=[0,1,28,2,29,14,24,3,30,22,20,15,25,17,4,8,31,27,13,23,21,19,16,7,26,12,18,6,11,5,10,9]
noncomputable def laidWorld(os:Os):World:=
 let w0:=World.holding Tryz.prog os ⟨#[.cells #[.string txtR] 324,.cells #[.string txtS] 324],#[],[]⟩
 {w0 with heap:=(((((((w0.heap.modify 4 (put (d32.map (.int .u8)))).modify 8 (put (d64.map (.int .u8)))).modify 7 (put (Lib.pow10Tab.map (.int .u64)))).modify 3 (put ((List.range 16).flatMap fun i=>[.int .u8 (Lib.accLo i:Int),.int .u8 (Lib.accHi i:Int)]))).modify
   2 (put (Lib.firstTab.map (.int .u8)))).modify 6 (put [.iface 322 (.pointer (some ⟨low,0,none⟩))])).modify 5 (put [.iface 322 (.pointer (some ⟨low+1,0,none⟩))])).modify 0 (put [.iface 222 (.agg #[.pointer (some ⟨9,56,none⟩)])])}
theorem laid_met(os:Os)(args:Array Value):laidMetH Tryz.prog lstH ((laidWorld os).forCall (fun _ _=>0) ⟨#[],args,[]⟩).memory:=
 laidMetH_of_parts (laidMet_of_run' 8 (by kernel_rfl) (by kernel_rfl)) (by kernel_rfl)
section
variable {H : Type} {enc : TypeId × Value -> H} {P : Program} {w : World} {base : Nat} {spare : Nat -> Bool} {held : Bool}
theorem trodAll_five{t t' t'' t3 t4:TypeId}{args:Array Value}{ds:List (DataW H)}{ps:List MemPlace}(h:DataW.TrodAll enc P w base spare held [t,t',t'',t3,t4] args.toList ds ps):
  ∃v v' v'' v3 v4 d d' d'' d3 d4 p p' p'' p3 p4,args=#[v,v',v'',v3,v4]/\ds=[d,d',d'',d3,d4]/\ps=p++(p'++(p''++(p3++p4)))/\DataW.Trod enc P w base spare held t v d p/\DataW.Trod enc P w base spare held t' v' d' p' /\
   DataW.Trod enc P w base spare held t'' v'' d'' p''/\DataW.Trod enc P w base spare held t3 v3 d3 p3/\DataW.Trod enc P w base spare held t4 v4 d4 p4:=by
 obtain⟨v,vs,d,ds',p,q,a6,rfl,rfl,hd,a4⟩:=trodAll_cons h;obtain⟨v',vs',d',ds'',p',q',rfl,rfl,rfl,a7,a1⟩:=trodAll_cons a4;obtain⟨v'',vs'',d'',ds''',p'',q'',rfl,rfl,rfl,a5,a0⟩:=trodAll_cons a1;obtain⟨v3,vs3,d3,ds3,p3,q3,rfl,rfl,rfl,a8,a2⟩:=trodAll_cons a0;obtain⟨v4,vs4,d4,ds4,p4,q4,rfl,rfl,rfl,a9,a3⟩:=trodAll_cons a2;obtain⟨rfl,rfl,rfl⟩:=trodAll_nil a3;exact⟨v,v',v'',v3,v4,d,d',d'',d3,d4,p,p',p'',p3,p4,by cases args;simp_all,rfl,by simp,hd,a7,a5,a8,a9⟩
theorem trodAll_mk5{t t' t'' t3 t4:TypeId}{v v' v'' v3 v4:Value}{d d' d'' d3 d4:DataW H}{p p' p'' p3 p4:List MemPlace}(h:DataW.Trod enc P w base spare held t v d p)(h':DataW.Trod enc P w base spare held t' v' d' p')
  (h'':DataW.Trod enc P w base spare held t'' v'' d'' p'') (h3:DataW.Trod enc P w base spare held t3 v3 d3 p3) (h4:DataW.Trod enc P w base spare held t4 v4 d4 p4) :
  DataW.TrodAll enc P w base spare held [t,t',t'',t3,t4] [v,v',v'',v3,v4] [d,d',d'',d3,d4] (p++(p'++(p''++(p3++p4)))):=⟨p,_,h,trodAll_mk4 h' h'' h3 h4,rfl⟩
end
theorem open_cuts2{H:Type}{enc:TypeId × Value->H}{w:World}{held:Bool}{r:Reach}{b0:Nat}{v:Value}{d:DataW H}{ps:List MemPlace}(hval:Value.okWide Tryz.prog w r b0 40 v)(h:DataW.Trod enc Tryz.prog w 0 (fun _=>true) held 40 v d ps)
  (hd:∀l m,d=.slice l m->l.length<=1048576):∃Ad n c C,v=.slice Ad n c/\Go.Proofs.YtcdimmblnbkjjaaGreatDoor.Str.Ints w Ad n C/\n<=1048576:=by
 obtain⟨a,len,cap,rfl⟩:=okWide_slice Tryz.underlying40 hval;obtain⟨fuel,hf⟩:=h;rcases open_ints Tryz.underlying40 Tryz.underlying3 cI hf with ⟨e,-⟩|⟨ad,n,c,zs,e,-,a8,hm,hz,a6,a0,a3⟩
 ·simp [Value.cells] at e
  obtain⟨rfl,rfl,rfl⟩:=e;exact⟨none,0,0,fun _=>0,rfl,Go.Proofs.YtcdimmblnbkjjaaGreatDoor.Str.Ints.nil w,by omega⟩
 ·simp [Value.cells] at e
  obtain⟨rfl,rfl,rfl⟩:=e;have hz:zs.length=cap:=by simpa using hz
  have a7:d=.slice (lits .i64 (zs.take len)) (lits .i64 (zs.drop len)):=congrArg Prod.fst a6;have hb:=hd _ _ a7;simp [lits] at hb
  have a1:∀i,i<len->zs.getD i 0∈zs:=by
   intro i hi;have a4:i<zs.length:=by omega
   rw[List.getD_eq_getElem?_getD,List.getElem?_eq_getElem a4];exact List.getElem_mem a4
  refine⟨some ad,len,cap,fun i=>zs.getD i 0,rfl,⟨fun h0=>?_,fun i hi=>(bounds_i64 (a3 _ (a1 i hi))).1,fun i hi=>(bounds_i64 (a3 _ (a1 i hi))).2⟩,by omega⟩;have h9:=a0 0 (by omega);obtain⟨b,off,spot⟩:=ad;have a2:spot=none:=by simpa [Addr.add] using World.cell?_spot h9
  subst a2;refine⟨b,off,rfl,?_,fun j hj=>?_⟩
  ·have:=cell_lt h9
   simpa [Addr.add] using this
  ·have a5:=a0 j (by omega);have ea:(⟨b,off,none⟩:Addr).add j=⟨b,off+j,none⟩:=by unfold Addr.add;split<;>simp_all
   rw[ea] at a5;exact a5
theorem bulk_one{H:Type}(d:DataW H):1<=Rows.uptoBulk d:=by
 cases d with
 | lit l=>cases l<;>simp [Rows.uptoBulk]
 | nil=>simp [Rows.uptoBulk]
 | ptr d=>simp [Rows.uptoBulk]
 | slice elems spare=>simp [Rows.uptoBulk]
 | agg parts=>simp [Rows.uptoBulk]
 | iface t d=>simp [Rows.uptoBulk]
 | map entries=>simp [Rows.uptoBulk]
 | held h=>simp [Rows.uptoBulk]
theorem bulk_length{H:Type}(l:List (DataW H)):l.length<=Rows.uptoBulkAll l:=by
 induction l with
 | nil=>simp [Rows.uptoBulkAll]
 | cons x r ih=>have:=bulk_one x;simp only[Rows.uptoBulkAll,List.length_cons];omega
theorem bulk_slice{H:Type}(l r:List (DataW H)):l.length<=Rows.uptoBulk (.slice l r):=by
 have:=bulk_length l;simp only[Rows.uptoBulk];omega
theorem tp_contract(H:Type)(enc:TypeId × Value->H)(W:World)(base:Nat)(args:Array Value)(ds gs:List (DataW H))(before:List MemPlace)
  (hval:∀(j:Nat) t v,Tryz.f5.params[j]?=some t->args[j]?=some v->Value.okWide Tryz.prog W .any base t v)
  (hW:DataW.Whole enc Tryz.prog Tryz.f5.params.toList Rows.topPiecesSpec.vars false W args.toList ds gs before)
  (hk:Rows.uptoSmall H (ds++gs)=true) (hL:laidMetH Tryz.prog Rows.topPiecesUptoRow.laid W) :
  Calls Tryz.prog 5 args W fun e W'=>∃v,e=.returned v/\Rows.topPiecesSpec.post enc Tryz.prog Tryz.f5 false true false false W args v W':=by
 have a1:=hW;obtain⟨p,q,a7,hV,rfl,b4,b5⟩:=hW;have hA:DataW.TrodAll enc Tryz.prog W 0 (fun _=>true) true Tryz.f5.params.toList args.toList ds p:=a7;rw[Tryz.params5] at hA hval;obtain⟨v0,v1,v2,v3,v4,d0,d1,d2,d3,d4,p0,p1,p2,p3,p4,rfl,rfl,rfl,h0,h1,h2,h3,h4⟩:=trodAll_five hA;obtain⟨rfl,rfl⟩:=trodVars_none hV;have a2:∀x∈p0,x.block<W.heap.size:=fun x hx=>by simpa using a1.lt x (by simp [hx])
 have a3:∀x∈p1,x.block<W.heap.size:=fun x hx=>by simpa using a1.lt x (by simp [hx])
 have a4:∀x∈p2,x.block<W.heap.size:=fun x hx=>by simpa using a1.lt x (by simp [hx])
 have a5:∀x∈p3,x.block<W.heap.size:=fun x hx=>by simpa using a1.lt x (by simp [hx])
 have a6:∀x∈p4,x.block<W.heap.size:=fun x hx=>by simpa using a1.lt x (by simp [hx])
 have fin:∀(e:Ending) (W':World),(e=.returned (.bool true)/\Below W.heap.size W W')->∃v,e=.returned v/\Rows.topPiecesSpec.post enc Tryz.prog Tryz.f5 false true false false W #[v0,v1,v2,v3,v4] v W':=by
  rintro e W' ⟨rfl,a0⟩;refine⟨_,rfl,_,_,_,[],p0++(p1++(p2++(p3++p4))),[],a1,?_,?_,rfl,a0.frame _,fun h=>by cases h⟩
  ·exact trodAll_mk1 (shut_bool Tryz.underlying4 _)
  ·exact trodAll_mk5 (Below.trod laidOut (by kernel_rfl) (of_decide_eq_true (by kernel_rfl)) h0 a0 a2) (Below.trod laidOut (by kernel_rfl) (of_decide_eq_true (by kernel_rfl)) h1 a0 a3)
    (Below.trod laidOut (by kernel_rfl) (of_decide_eq_true (by kernel_rfl)) h2 a0 a4) (Below.trod laidOut (by kernel_rfl) (of_decide_eq_true (by kernel_rfl)) h3 a0 a5) (Below.trod laidOut (by kernel_rfl) (of_decide_eq_true (by kernel_rfl)) h4 a0 a6)
 obtain⟨E,F,rfl⟩:=open_form (hval 0 23 v0 rfl rfl) h0;obtain⟨m0,rfl,-,-,wm⟩:=open_int Tryz.underlying5 (hval 1 5 v1 rfl rfl) h1;obtain⟨sep,rfl,a8,-,-⟩:=Go.ChangeMaps.open_string Tryz.underlying9 (hval 2 9 v2 rfl rfl) h2;obtain⟨s,rfl,a9,-,-⟩:=Go.ChangeMaps.open_string Tryz.underlying9 (hval 3 9 v3 rfl rfl) h3;have hb:Rows.uptoBulkAll ([d0,d1,d2,d3,d4]++[])<=1048576:=of_decide_eq_true hk;simp only[List.append_nil,Rows.uptoBulkAll] at hb;have b0:sep.size<=1048576:=by
  have e:Rows.uptoBulk d2=sep.size+1:=by
   rw[a8];simp only[Rows.uptoBulk];rw[Array.length_toList]
   rfl
  omega
 have b3:s.size<=1048576:=by
  have e:Rows.uptoBulk d3=s.size+1:=by
   rw[a9];simp only[Rows.uptoBulk];rw[Array.length_toList]
   rfl
  omega
 obtain⟨Ad,n,c,C,rfl,hC,hn⟩:=open_cuts2 (hval 4 40 v4 rfl rfl) h4 (fun l m e=>by
  have h5:=bulk_slice l m;rw[<- e] at h5;omega)
 obtain⟨b1,b2⟩:=bounds_u8 wm;obtain⟨mode,rfl⟩:∃m:Nat,m0=m:=⟨m0.toNat,by omega⟩;have hl:=plain_list W hL;exact(Str.TopPieces W (bg_of hl.1) hl.2 E F mode sep s Ad n c C hC b0 b3 hn).mono fin
def tpArgs:Array Value:=#[fm 0 0,.int .u8 0,.string .empty,.string .empty,.slice none 0 0]
theorem tp_reads(os:Os){H:Type}(enc:TypeId × Value->H):∃places,DataW.whole enc Tryz.prog ((laidWorld os).forCall (fun _ _=>0) ⟨#[],tpArgs,[]⟩).memory Tryz.f5.params.toList Rows.topPiecesSpec.vars false tpArgs.toList 8 =
  some ([.agg [.lit (.int .i64 0),.lit (.int .i64 0)],.lit (.int .u8 0),.lit (.string []),.lit (.string []),.nil],[],places):=
 ⟨[],by kernel_rfl⟩
theorem tp_lifted(os:Os)(started:os.Started)(H:Type)(enc:TypeId × Value->H)(F:Stop.Interp):
  ReturnsInHanded {} Tryz.checked os 5 .any ((Rows.OpenSpec.upto Rows.topPiecesSpec).preRow enc Tryz.prog Tryz.f5 Rows.topPiecesUptoRow.domain false Rows.topPiecesUptoRow.laid) (((Rows.OpenSpec.upto Rows.topPiecesSpec).at F).post enc Tryz.prog Tryz.f5 false true false false):=by
 obtain⟨places,hx⟩:=tp_reads os enc;refine returnsInHanded_of_row (C:=Tryz.checked) (s:=Rows.OpenSpec.upto Rows.topPiecesSpec) own started (by kernel_rfl) Tryz.func5
  (witness_row_at (enc:=enc) (C:=Tryz.checked) false (laidWorld os) tpArgs rfl (by kernel_rfl) (by kernel_rfl) (by kernel_rfl)
   (OpenSpec.preRow_of_cond 8 hx (by kernel_rfl) (fun k hk=>by cases hk;kernel_rfl) (by kernel_rfl) (laid_met os _))) ?_
 intro W base args ds gs before a1 hW _ a0 _ hL _ _;exact tp_contract H enc W base args ds gs before a1 hW (a0 _ rfl) hL
theorem tp_and{a b:Bool}(h:a=true)(k:b=true):(a && b)=true:=by rw[h,k];rfl
theorem tp_closed:joinedFacts Tryz.pinned.checked.prog 5 Tryz.f5 (Rows.OpenSpec.upto Rows.topPiecesSpec).bare Rows.topPiecesUptoRow=true:=by
 unfold joinedFacts
 repeat' with_reducible apply tp_and
 all_goals as_aux_lemma=>kernel_rfl
theorem tp_said:Rows.TopPiecesUptoSaid:=
 OpenClaim.holds_of_cond 5 Tryz.f5 rfl rfl rfl rfl rfl rfl rfl ⟨rfl,rfl,rfl,rfl,rfl⟩ rfl rfl rfl rfl rfl (by kernel_rfl) Tryz.func5 tp_closed
  (of_decide_eq_true (by kernel_rfl)) (by unfold Func.isWrapper;first|(rw[if_pos (by decide +kernel)];kernel_rfl)|(rw[if_neg (by decide +kernel)];exact⟨rfl,rfl⟩))
  (fun os started H enc _ F=>by rw[OpenClaim.pre_eq_preRow];exact tp_lifted os started H enc F)
theorem tp_plain (f : FuncId) (fn : Func) (hf : Tryz.pinned.checked.prog.funcNamed "numeral/numeraltop.TopPieces" = some f) (hfn : Tryz.pinned.checked.prog.funcs[f]? = some fn) :
  true=Tryz.pinned.checked.prog.looks []/\∀(j:Nat) t,fn.params[j]?=some t->Tryz.pinned.checked.prog.wantsStandIn t=false:=by
 obtain rfl : f = 5 := Option.some.inj ((show Tryz.prog.funcNamed "numeral/numeraltop.TopPieces" = some 5 by kernel_rfl).symm.trans hf) |>.symm;obtain rfl:fn=Tryz.f5:=(Option.some.inj (Tryz.func5.symm.trans hfn)).symm;refine⟨by kernel_rfl,fun j t ht=>?_⟩;rw[Tryz.params5] at ht;have hm:t∈[23,5,9,9,40]:=by simpa using Array.mem_of_getElem? ht
 have hall:([23,5,9,9,40].all fun u=>!Tryz.prog.wantsStandIn u)=true:=by kernel_rfl
 exact(show Tryz.prog.wantsStandIn t=false by simpa using List.all_eq_true.1 hall t hm)
end Go.Proofs.YtcdimmblnbkjjaaGreatDoor.Sfn
namespace Go.Proofs.YtcdimmblnbkjjaaGreatDoor
open Go
theorem topPieces_card:Rows.TopPiecesUptoCardSaid:=
 Claim7.holds_tied_plain_at .later [] _ _ _ _ Sfn.tp_said (fun _ h=>by cases h) (by as_aux_lemma=>kernel_rfl) (fun _ h=>by cases h) topPiecesUpto_row_tie rfl ⟨rfl,rfl⟩ (by as_aux_lemma=>kernel_rfl) rfl Sfn.tp_plain (by as_aux_lemma=>kernel_rfl)
#print axioms topPieces_card
end Go.Proofs.YtcdimmblnbkjjaaGreatDoor
