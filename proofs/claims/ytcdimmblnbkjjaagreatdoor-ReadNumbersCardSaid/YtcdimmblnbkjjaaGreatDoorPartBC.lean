/- Lemmas. -/
import Derived.Test.YtcdimmblnbkjjaaGreatDoorPartBB
import Derived.Test.YtcdimmblnbkjjaaGreatDoorCards
import Derived.Test.YtcdimmblnbkjjaaGreatDoorTie
import Derived.ProofKit
import Derived.OpenShut
import Derived.Deep.Strs
import Derived.Deep.DeepHandedRow
import Derived.Lib.LaidTab
import Derived.SizedLaws
set_option linter.all false
set_option maxRecDepth 100000
namespace Go.Proofs.YtcdimmblnbkjjaaGreatDoor.Fin3
open Go Go.ChangeShapes Go.WideShapes Go.ChangeAt Go.RowKit Go.Deep R5
theorem q6U{w:World}{a:Addr}{v:Value}(h:w.cell? a=some v):a.block<w.heap.size:=by
 unfold World.cell? at h;cases hh:w.heap[a.block]? with
 | none=>rw[hh] at h;simp at h
 | some o=>exact(Array.getElem?_eq_some_iff.1 hh).1
theorem q66{t:TypeId}{fs:Array Field}{H:Type}(h:Tryz.prog.underlying t=some (.struct fs))(parts:List (DataW H)):DataW.weights Tryz.prog t (.agg parts)=DataW.weightsEach Tryz.prog (fs.toList.map (·.type)) parts:=by
 simp only[DataW.weights,h]
theorem b32:Tryz.prog.bytesOf 34=4:=by kernel_rfl
section
variable {H : Type} {enc : TypeId × Value -> H} {w : World} {base : Nat} {spare : Nat -> Bool} {held : Bool}
theorem q4n{P:Program}{t:TypeId}{f0 f1 f2 f3 f4:Field}{fuel:Nat}{cs:List Value}{x:DataW H × List MemPlace}(ht:P.underlying t=some (.struct #[f0,f1,f2,f3,f4]))(h:DataW.trod enc P w base spare held fuel t cs=some x):
  ∃y0 y1 y2 y3 y4 n,x=(.agg [y0.1,y1.1,y2.1,y3.1,y4.1],y0.2++(y1.2++(y2.2++(y3.2++y4.2))))/\cs.length=P.cellsOf t /\
   DataW.trod enc P w base spare held n f0.type ((cs.drop f0.offset).take (P.cellsOf f0.type))=some y0/\DataW.trod enc P w base spare held n f1.type ((cs.drop f1.offset).take (P.cellsOf f1.type))=some y1 /\
   DataW.trod enc P w base spare held n f2.type ((cs.drop f2.offset).take (P.cellsOf f2.type))=some y2/\DataW.trod enc P w base spare held n f3.type ((cs.drop f3.offset).take (P.cellsOf f3.type))=some y3 /\
   DataW.trod enc P w base spare held n f4.type ((cs.drop f4.offset).take (P.cellsOf f4.type))=some y4:=by
 obtain⟨xs,n,_,rfl,hl,a0,hf⟩:=DataW.trod_struct ht h
 match xs,a0 with
 | [y0,y1,y2,y3,y4],_=>exact⟨y0,y1,y2,y3,y4,n,by simp,hl,by simpa using hf 0 f0 rfl,by simpa using hf 1 f1 rfl,by simpa using hf 2 f2 rfl,by simpa using hf 3 f3 rfl,by simpa using hf 4 f4 rfl⟩
theorem cF:Tryz.prog.cellsOf 23=2:=by kernel_rfl
theorem cI:Tryz.prog.cellsOf 3=1:=by kernel_rfl
theorem cN:Tryz.prog.cellsOf 33=9:=by kernel_rfl
theorem c8:Tryz.prog.cellsOf 5=1:=by kernel_rfl
theorem cB:Tryz.prog.cellsOf 4=1:=by kernel_rfl
theorem cS:Tryz.prog.cellsOf 9=1:=by kernel_rfl
theorem c64:Tryz.prog.cellsOf 31=1:=by kernel_rfl
theorem c32:Tryz.prog.cellsOf 34=1:=by kernel_rfl
theorem cL:Tryz.prog.cellsOf 26=1:=by kernel_rfl
theorem cD:Tryz.prog.cellsOf 25=3:=by kernel_rfl
theorem cX:Tryz.prog.cellsOf 30=3:=by kernel_rfl
theorem cM:Tryz.prog.cellsOf 28=1:=by kernel_rfl
theorem q6x{r:Reach}{b0:Nat}{v:Value}{d:DataW H}{ps:List MemPlace}(hval:Value.okWide Tryz.prog w r b0 23 v)(h:DataW.Trod enc Tryz.prog w base spare held 23 v d ps):∃E F:Int,v=fm E F:=by
 obtain⟨cs,rfl,a0⟩:=okWide_struct Tryz.underlying23 hval;obtain⟨fuel,hf⟩:=h;obtain⟨y0,y1,n,-,hl,h0,h1⟩:=trod_struct2 Tryz.underlying23 hf;simp only[cI] at h0 h1;obtain⟨E,e0,-,-⟩:=DataW.trod_int Tryz.underlying3 h0;obtain⟨F,e1,-,-⟩:=DataW.trod_int Tryz.underlying3 h1;refine⟨E,F,?_⟩;obtain⟨l⟩:=cs;rw[cF] at a0
 match l,a0 with
 | [a,b],_ =>
  simp [Value.cells] at e0 e1
  rw[e0,e1]
set_option maxHeartbeats 1000000 in
theorem q4Y{r:Reach}{b0:Nat}{v:Value}{d:DataW H}{ps:List MemPlace}(hval:Value.okWide Tryz.prog w r b0 33 v)(h:DataW.Trod enc Tryz.prog w base (fun _=>true) held 33 v d ps)(hb:∀k∈DataW.weights Tryz.prog 33 d,k<=reachBytes):
  ∃(kind:Nat) (neg dneg:Bool) (s:ByteArray) (x:Int) (hneg:Bool) (Ad:Option Addr) (n c:Nat) (xs:List Nat) (hx:Int) (p:Nat),v=q4Z kind neg dneg s x hneg Ad n c hx p/\Rd w Ad n c xs/\(Ad=none->c=0)/\n<=35184372087808/\s.size<=140737488351232:=by
 obtain⟨cs,rfl,b8⟩:=okWide_struct Tryz.underlying33 hval;obtain⟨fuel,hf⟩:=h;obtain⟨y0,y1,y2,y3,y4,m,ed,hl,h0,h1,h2,h3,h4⟩:=q4n Tryz.underlying33 hf;simp only[c8,cB,cD,cX,c64] at h0 h1 h2 h3 h4;obtain⟨k0,e0,-,w0⟩:=DataW.trod_int Tryz.underlying5 h0;obtain⟨neg,e1,-⟩:=DataW.trod_bool Tryz.underlying4 h1;obtain⟨z0,z1,z2,m2,ez,-,g0,g1,g2⟩:=trod_struct3 Tryz.underlying25 h2;simp only[cB,cS,cI] at g0 g1 g2;obtain⟨dneg,e2,-⟩:=DataW.trod_bool Tryz.underlying4 g0;obtain⟨s,e3,es,-⟩:=DataW.trod_string Tryz.underlying9 g1;obtain⟨x,e4,-,-⟩:=DataW.trod_int Tryz.underlying3 g2;obtain⟨u0,u1,u2,m3,ex3,-,g3,g4,g5⟩:=trod_struct3 Tryz.underlying30 h3;simp only[cB,cM,cI] at g3 g4 g5;obtain⟨hneg,e5,-⟩:=DataW.trod_bool Tryz.underlying4 g3;obtain⟨hx,e7,-,-⟩:=DataW.trod_int Tryz.underlying3 g5;obtain⟨q0,m4,eq,-,g6⟩:=trod_struct1 Tryz.underlying28 g4;simp only[cL] at g6;obtain⟨p0,e8,-,w8⟩:=DataW.trod_int Tryz.underlying31 h4;obtain⟨b1,b2⟩:=bounds_u8 w0;obtain⟨b3,b4⟩:=bounds_u64 w8;have e9:d=.agg [y0.1,y1.1,y2.1,y3.1,y4.1]:=congrArg Prod.fst ed;have hs:s.size<=140737488351232:=by
  have e10:y2.1=.agg [z0.1,z1.1,z2.1]:=congrArg Prod.fst ez;have e11:z1.1=.lit (.string s.data.toList):=congrArg Prod.fst es;have m1:s.data.toList.length∈DataW.weights Tryz.prog 33 d:=by
   rw[e9,q66 Tryz.underlying33];refine DataW.weights_mem_each (j:=2) (t:=25) (d:=y2.1) rfl rfl _ ?_;rw[e10,q66 Tryz.underlying25];refine DataW.weights_mem_each (j:=1) (t:=9) (d:=z1.1) rfl rfl _ ?_;rw[e11];simp [DataW.weights]
  have:=hb _ m1;have e12:s.data.toList.length=s.size:=by rw[Array.length_toList];rfl
  unfold reachBytes at this;omega
 have hq:∀(l r:List (DataW H)),q0.1=.slice l r->l.length+r.length<=35184372087808:=by
  intro l r hq;have e10:y3.1=.agg [u0.1,u1.1,u2.1]:=congrArg Prod.fst ex3;have e11:u1.1=.agg [q0.1]:=congrArg Prod.fst eq;have m1:(l.length+r.length)*4∈DataW.weights Tryz.prog 33 d:=by
   rw[e9,q66 Tryz.underlying33];refine DataW.weights_mem_each (j:=3) (t:=30) (d:=y3.1) rfl rfl _ ?_;rw[e10,q66 Tryz.underlying30];refine DataW.weights_mem_each (j:=1) (t:=28) (d:=u1.1) rfl rfl _ ?_;rw[e11,q66 Tryz.underlying28];refine DataW.weights_mem_each (j:=0) (t:=26) (d:=q0.1) rfl rfl _ ?_;rw[hq];simp only[DataW.weights,Tryz.underlying26,b32];exact List.mem_cons_self
  have:=hb _ m1;unfold reachBytes at this;omega
 obtain⟨l⟩:=cs;rw[cN] at b8
 match l,b8 with
 | [a0,a1,a2,a3,a4,a5,a6,a7,a8],_ =>
  simp [Value.cells] at e0 e1 e2 e3 e4 e5 e7 e8 g6
  rcases open_ints Tryz.underlying26 Tryz.underlying34 c32 g6 with ⟨e6,-⟩|⟨a,len,cap,zs,e6,-,c3,hm,hz,c4,a9,b9⟩
  ·simp at e6
   refine⟨k0.toNat,neg,dneg,s,x,hneg,none,0,0,[],hx,p0.toNat,?_,Rd.nil _,fun _=>rfl,by omega,hs⟩;rw[e0,e1,e2,e3,e4,e5,e6,e7,e8];show Value.agg _=Value.agg _;congr
   ·omega
   ·omega
  ·simp at e6
   have hz:zs.length=cap:=by simpa using hz
   have c5:q0.1=.slice (lits .u32 (zs.take len)) (lits .u32 (zs.drop len)):=congrArg Prod.fst c4;have c7:=hq _ _ c5;have c0:(lits (H:=H) .u32 (zs.take len)).length=len:=by simp [lits];omega
   have b5:len<=35184372087808:=by omega
   have c1:∀i,i<len->w.cell? (a.add i)=some (.int .u32 ((nth ((zs.take len).map Int.toNat) i:Nat):Int)):=by
    intro i hi;have b7:i<zs.length:=by omega
    have hc:=a9 i b7;have hg:zs.getD i 0=zs[i]:=by simp [List.getD,List.getElem?_eq_getElem b7]
    have hw:=bounds_u32 (b9 _ (List.getElem_mem b7));rw[hc,hg];have hn:nth ((zs.take len).map Int.toNat) i=zs[i].toNat:=by
     unfold nth;rw[List.getD_eq_getElem?_getD,List.getElem?_map,List.getElem?_take,if_pos hi,List.getElem?_eq_getElem b7]
     rfl
    rw[hn,Int.toNat_of_nonneg hw.1]
   refine⟨k0.toNat,neg,dneg,s,x,hneg,some a,len,cap,(zs.take len).map Int.toNat,hx,p0.toNat,?_,⟨?_,c3,by omega,?_,?_⟩,(fun h=>by cases h),b5,hs⟩
   ·rw[e0,e1,e2,e3,e4,e5,e6,e7,e8];show Value.agg _=Value.agg _;congr
    ·omega
    ·omega
   ·simp;omega
   ·intro y hy;obtain⟨z,c6,rfl⟩:=List.mem_map.1 hy;have hw:=bounds_u32 (b9 _ (List.mem_of_mem_take c6));omega
   ·intro h0;have h9:=c1 0 h0;obtain⟨b,off,spot⟩:=a;have b6:spot=none:=by simpa [Addr.add] using World.cell?_spot h9
    subst b6;refine⟨b,off,rfl,?_,fun j hj=>?_⟩
    ·have:=q6U h9
     simpa [Addr.add] using this
    ·have c2:=c1 j hj;have ea:(⟨b,off,none⟩:Addr).add j=⟨b,off+j,none⟩:=by unfold Addr.add;split<;>simp_all
     rw[ea] at c2;exact c2
end
end Go.Proofs.YtcdimmblnbkjjaaGreatDoor.Fin3
