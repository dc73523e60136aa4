/- Lemmas. -/
import Derived.Test.YtppgcnhlpnmieaaGreatDoorPartBE
import Derived.Test.YtppgcnhlpnmieaaGreatDoorPartAY
import Derived.Deep.MidRow
import Derived.Test.YtppgcnhlpnmieaaGreatDoorPartAJ
import Derived.Test.YtppgcnhlpnmieaaGreatDoorPartAX
import Derived.Test.YtppgcnhlpnmieaaGreatDoorPartAO
import Derived.Test.YtppgcnhlpnmieaaGreatDoorPartAS
import Derived.Test.YtppgcnhlpnmieaaGreatDoorPartAW
set_option linter.all false
set_option maxHeartbeats 4000000
set_option maxRecDepth 100000
namespace Go.Proofs.YtppgcnhlpnmieaaGreatDoor
open Go Go.RowKit
theorem Fm.grown{g o:Nat}{w w':World}(h:Fm g o w w'):w.grownBy w' (some g):=⟨h.os,h.tape,h.output,h.size,fun i hi hne=>h.block i hi (fun e=>hne (by rw[e]))⟩
end Go.Proofs.YtppgcnhlpnmieaaGreatDoor
namespace Go.Proofs.YtppgcnhlpnmieaaGreatDoor.Scn
open Go Go.RowKit R5
theorem IntAt.of_blk{w:World}{g:Nat}{t:TypeId}(h:Blk w g t [.bool false,.slice none 0 0]):IntAt w g 0 0:=
 ⟨h.lt,⟨false,h.cell 0⟩,h.fz,none,0,0,h.cell 0,h.cell 1,by
  have:toL (0:Int).natAbs=[]:=rfl;rw[this];exact Rd.nil _,fun a e=>by cases e⟩
theorem Blk.alloc{w:World}{g:Nat}{t:TypeId}{cs:List Value}(h:Blk w g t cs)(o:Obj):Blk (w.alloc o) g t cs:=h.below ((Below.refl _ _).alloc lr _)
theorem Blk.set{w:World}{g:Nat}{t:TypeId}{cs:List Value}(h:Blk w g t cs)(j:Nat)(v:Value):Blk (w.setCell ⟨g,j,none⟩ v) g t (cs.set j v):=by
 unfold Blk;have:w.heap[g]?=some (.cells cs.toArray t (0,0)):=h;simp [World.setCell,Array.getElem?_modify,this]
theorem q1H{P:Program}{ops:Array Oper}{rest:List Oper}{o:Oper}{a:Act}{w:World}{Q:Exit->Act->World->Prop}(hgd:o.guard=none)(ty:TypeId)(x:Operand)(ho:o.op=.load ty x)
  (g:Nat) (hx:a.eval x=.pointer (some ⟨g,0,none⟩)) (t:TypeId) (cs:List Value) (d:TypeDesc) (hg:Blk w g t cs)
  (hu:P.underlying ty=some d) (hd:(match d with|.struct _|.array _ _=>true|_=>false)=true) (hi:(P.info? ty).map (·.size)=some cs.length)
  (h:wpList P ops Q rest (a.put o.dst (.agg cs.toArray)) w):wpList P ops Q (o::rest) a w:=
 wpList_load_row hgd ty x ho g hx t cs.toArray (0,0) d hg hu hd (by simpa using hi) h
theorem q2Z{P:Program}{ops:Array Oper}{rest:List Oper}{op:Oper}{a:Act}{w:World}{Q:Exit->Act->World->Prop}(hgd:op.guard=none)(ty:TypeId)(x y:Operand)(ho:op.op=.store ty x y)
  (b o:Nat) (v0 v1 v2:Value) (hx:a.eval x=.pointer (some ⟨b,o,none⟩)) (hy:a.eval y=.agg #[v0,v1,v2])
  (t:TypeId) (cs:List Value) (hg:Blk w b t cs) (hl:o+3<=cs.length) (hi:(P.info? ty).map (·.size)=some 3) (h1:v0.oneCell'=true/\v1.oneCell'=true/\v2.oneCell'=true)
  (h:∀w',Blk w' b t (((cs.set o v0).set (o+1) v1).set (o+2) v2)->w.grownBy w' (some b)->wpList P ops Q rest (a.put op.dst undef) w'):wpList P ops Q (op::rest) a w:=by
 refine wpList_store_mid hgd ty x y ho b o #[v0,v1,v2] hx hy (fun j hj=>⟨?_,hg.fz _⟩) hi (by simp [h1]) (h _ ?_ ?_)
 ·rw[hg.cell,List.getElem?_eq_getElem (by simp at hj;omega)];rfl
 ·exact((hg.set o v0).set (o+1) v1).set (o+2) v2
 ·exact only_setCell (only_setCell (only_setCell (World.grownBy.refl w (some b)) (p:=⟨b,o,none⟩) (.inl rfl) v0) (p:=⟨b,o+1,none⟩) (.inl rfl) v1) (p:=⟨b,o+2,none⟩) (.inl rfl) v2
def q5H(L:List Nat)(k:Nat):List Nat:=(L.take k).map A.fig++L.drop k
theorem q8E(L:List Nat):q5H L L.length=L.map A.fig:=by unfold q5H;rw[List.take_length,List.drop_length,List.append_nil]
theorem q8D(L:List Nat)(k:Nat)(h:k<L.length):nth (q5H L k) k=nth L k:=by
 unfold q5H nth;rw[List.getD_eq_getElem?_getD,List.getD_eq_getElem?_getD,List.getElem?_append_right (by simp;omega),List.length_map,List.length_take,Nat.min_eq_left (by omega),Nat.sub_self,List.getElem?_drop,Nat.add_zero]
theorem q8C(L:List Nat)(k:Nat)(h:k<L.length):(q5H L k).set k (A.fig (nth L k))=q5H L (k+1):=by
 unfold q5H;rw[q3j L k h,List.map_append,List.map_singleton,List.set_append_right _ _ (by simp;omega),List.length_map,List.length_take,Nat.min_eq_left (by omega),Nat.sub_self,List.append_assoc];congr 1
 rw[<- List.getElem_cons_drop h]
 rfl
theorem q5P{d:Nat}(h:d<16):A.fig d<256:=by unfold A.fig;split<;>omega
theorem q9T{L:List Nat}(h:∀d∈L,d<16):A.Hexs (txt (L.map A.fig)) L:=by
 have hs:(txt (L.map A.fig)).size=L.length:=by show(List.toArray _).size=_;simp
 refine⟨hs,fun i hi=>?_,fun i=>?_⟩
 ·have a0:i<L.length:=by omega
  have e:(txt (L.map A.fig))[i]'hi=UInt8.ofNat (A.fig L[i]):=by
   show((L.map A.fig).map UInt8.ofNat).toArray[i]'_=_;simp
  rw[e,UInt8.toNat_ofNat',Nat.mod_eq_of_lt (q5P (h _ (List.getElem_mem a0))),List.getD_eq_getElem?_getD,List.getElem?_eq_getElem a0];rfl
 ·rw[List.getD_eq_getElem?_getD];rcases Nat.lt_or_ge i L.length with hi|hi
  ·rw[List.getElem?_eq_getElem hi];exact h _ (List.getElem_mem hi)
  ·rw[List.getElem?_eq_none hi];decide
def qdL:ByteArray:=⟨#[48,49,50,51,52,53,54,55,56,57,97,98,99,100,101,102]⟩
theorem qbo:∀d:Fin 16,∃h:d.val<qdL.size,(qdL[d.val]'h).toNat=A.fig d.val:=by decide
def qaJ(b:Nat)(L:List Nat)(v:St)(x:Value)(B Z:Nat)(w:World)(i:Value)(wr:World):Prop:=
 ∃q:Nat,q<=L.length/\i=.int .i64 (q:Int)/\wr.ownsRow B 5 1 x L.length (u8s (q5H L q))/\ScAt wr b v/\w.grownBy wr (some b)/\Blk wr w.heap.size 33 q36/\Blk wr Z 206 [.bool false,.slice none 0 0]/\B<=wr.heap.size
theorem hex(b:Nat)(s:St)(neg:Bool)(w:World)(h:ScAt w b s)(hg:Bg w):
  Calls Tryz.prog 290 #[.pointer (some ⟨b,0,none⟩),.bool neg] w (qdu b (s.hex neg).1 (s.hex neg).2 w):=by
 obtain⟨L,k,u,hm⟩:∃L k u,s.mantissa q0O=(L,k,u):=⟨_,_,_,rfl⟩;obtain⟨x,v,hx⟩:∃x v,u.exponent [112]=(x,v):=⟨_,_,rfl⟩;have c9:=q48 u [112];rw[hx] at c9
 try dsimp only at c9
 have HE:Hid (s.hex neg=(if A.wv L=0 then⟨2,neg,false,[],0,false,0,0,0⟩ else⟨2,neg,false,[],0,neg,A.wv L/2^tz (A.wv L),q7F (x-4*k+tz (A.wv L)),0⟩,v)):=vv (by
  unfold St.hex;rw[hm];dsimp only;rw[hx]
  rfl)
 have HX:=vv c9;have HM:=vv hm;have m1:=vv hx;have HH:=vv h;have HG:=vv hg;have HL:=vv h.lt;have d0:=vv fun w h hg=>mantissa 341 q0O q5G b s w h hg
 rw[hm] at d0;replace d0:Hid (∀w,ScAt w b s->Bg w->Calls Tryz.prog 340 #[.pointer (some ⟨b,0,none⟩),.func (.func 341) #[] #[]] w (q2g b L k u w)):=d0;have d1:=vv fun w h hg=>exponent b u ⟨#[112]⟩ w h hg (by decide)
 rw[show(⟨#[112]⟩:ByteArray).data.toList=[112] from rfl,hx] at d1;replace d1:Hid (∀w,ScAt w b u->Bg w->Calls Tryz.prog 342 #[.pointer (some ⟨b,0,none⟩),.string ⟨#[112]⟩] w (ScP b v (.int .i64 x) w)):=d1;clear hm hx c9 h hg;go_enter Tryz.func290,Tryz.ntmps290
 go_wp2_with fail
 obtain⟨w0,a9⟩:=yx (w.alloc (.cells #[.int .u8 0,.bool false,.bool false,.string ⟨#[]⟩,.int .i64 0,.bool false,.slice none 0 0,.int .i64 0,.int .u64 0] 33));rw[<- a9];have d6:w.grownBy w0 (some b):=by rw[a9];exact q18 (World.grownBy.refl w _) _
 have j1:Hid (Blk w0 w.heap.size 33 q36):=vv (by rw[a9];exact Blk.made w _ q36);have b3:ScAt w0 b s:=HH.o.grown (row:=none) (by rw[a9];exact q18 (World.grownBy.refl w _) _) (fun k e=>by cases e);have b0:Hid (w0.heap.size=w.heap.size+1):=vv (by rw[a9];simp);have j2:=vv d6;have b4:Hid (b≠w.heap.size):=vv (by have:=HL.o;omega);have j3:=vv (d0.o w0 b3 (HG.o.grown d6 HH.o));clear d6 b3 a9;refine j3.o.mono ?_;rintro e w1 ⟨y,rfl,a0,a6,a1,m2,hk,f4⟩;have b5:=vv a0;have j4:=vv (j1.o.grown a1 (fun e=>b4.o (by injection e)));have f5:=vv (q06 j2.o a1);have d7:=vv f4;have j5:=vv (d1.o w1 a6 (HG.o.grown f5.o HH.o));have m3:=a1.size;clear a0 a6 a1 f4;go_wp2_with fail
 refine j5.o.mono ?_;rintro e w2 ⟨rfl,a6,a1⟩;obtain⟨Aq,cap,hy⟩:=q1t b5.o;subst hy;have j6:=HX.o.1;have j7:=HX.o.2;have m4:(k:Int)<=65536:=by omega
 have m5:(L.length:Int)<=131072:=by omega
 have m6:=a1.size;obtain⟨w3,d2⟩:=yx (w2.alloc (.cells #[.bool false,.slice none 0 0] 206));have b6:=vv (q17 b5.o a1 (by have:=b0.o;have:=HL.o;omega));have j8:Hid (∀g,Aq=some ⟨g,0,none⟩->g<w2.heap.size):=vv (fun g e=>by
  subst e;rcases b6.o.2 with ⟨h,_⟩|⟨g',cap',cur,hv,_,hg,_⟩
  ·cases h
  ·cases hv;exact(Array.getElem?_eq_some_iff.1 hg).1)
 have b1:Below w2.heap.size w2 w3:=by rw[d2];exact(Below.refl _ _).alloc lr _
 have f6:Hid (qaJ b L v (.slice Aq L.length cap) w0.heap.size w2.heap.size w (.int .i64 0) w3):=vv ⟨0,Nat.zero_le _,rfl,q2C b6.o (fun g _ hs=>b1.block g hs),a6.below b1 a6.lt,q06 (q06 f5.o a1) (q0s b1 _),(j4.o.grown a1 (fun e=>b4.o (by injection e))).below b1,by rw[d2];exact Blk.made w2 _ [.bool false,.slice none 0 0],by have:=b1.size;omega⟩;have j9:=vv d2;clear a6 a1 b1 d2;go_wp2;rw[<- j9.o];go_loopw [27] (fun i wr=>qaJ b L v (.slice Aq L.length cap) w0.heap.size w2.heap.size w i wr) (fun i _=>L.length-(intOf i).toNat)
 case atStart=>exact f6.o
 case round =>
  clear f6;obtain⟨q,hq,rfl,a0,a6,a1,hR,hZ,f7⟩:=hrel;have HR:=vv hR;have HZ:=vv hZ;have f8:=vv a0;have d3:=vv a6;have f9:=vv a1;have m7:=vv f7;clear a6 a1 hR f7 hZ;by_cases hql:q<L.length
  ·obtain⟨g,cap',e,m8⟩:=q1E a0 (by omega);cases e
   obtain⟨r1,r2,r3,r4⟩:=q27 a0 hql;rw[q8D L q hql] at r1;have b7:nth L q<16:=d7.o _ (q8n hql);obtain⟨d,hd⟩:=yx (nth L q);obtain⟨f,hf⟩:=yx (A.fig d);have m9:(d:Int)<=15:=by omega
   have HS:=vv (q6F a0 q (A.fig (nth L q)));rw[q8C L q hql,<- hd,<- hf] at HS;rw[<- hd] at r1 b7;obtain⟨k0,g0⟩:=qbo ⟨d,b7⟩;have n0:(q:Int)<(L.length:Int):=by omega
   have a7:g≠b/\g≠w.heap.size/\g≠w2.heap.size:=by have:=b0.o;have:=HL.o;have:=j8.o g rfl;omega
   have a2:=only_setCell (World.grownBy.refl wr (some g)) (p:=⟨g,q,none⟩) (.inl rfl) (.int .u8 (f:Int));have d8:=vv (d3.o.grown a2 (fun k e=>by cases e;exact a7.1));have k1:=vv (HR.o.grown a2 (fun e=>a7.2.1 (by injection e)));have k2:=vv (HZ.o.grown a2 (fun e=>a7.2.2 (by injection e)));have k3:=vv (q0n f9.o a2 (fun k e=>by cases e;have:=b0.o;omega));have n1:=a2.size;have k4:Hid (((⟨#[48,49,50,51,52,53,54,55,56,57,97,98,99,100,101,102]⟩:ByteArray)[d]'k0).toNat=f):=vv (g0.trans hf.symm);clear a0 hd hf g0 a2 a7;go_wp2;go_roundw
   case rel=>erw [k4.o];exact⟨q+1,by omega,by go_num,HS.o,d8.o,k3.o,k1.o,k2.o,by omega⟩
   case measure=>simp [intOf];omega
  ·have k5:q=L.length:=by omega
   subst k5;rw[q8E] at f8;have a4:∀o,(convert 132 9 (.slice Aq L.length cap)).run Tryz.prog (wr.alloc o)=.ok (.string (txt (L.map A.fig))) (wr.alloc o):=fun o=>q2B (q2C f8.o fun g _ hs=>Below.heap_alloc wr o g hs) (fun y hy=>by
    obtain⟨d,hd,rfl⟩:=List.mem_map.1 hy;exact q5P (d7.o d hd))
   obtain⟨t,ht⟩:=yx (txt (L.map A.fig));have d9:t.size=L.length:=by rw[ht];show(List.toArray _).size=_;simp
   rw[<- ht] at a4;obtain⟨w4,d4⟩:=yx (wr.alloc (.cells #[.int .u8 2,.bool neg,.bool false,.string ⟨#[]⟩,.int .i64 0,.bool false,.slice none 0 0,.int .i64 0,.int .u64 0] 33));have b8:Below wr.heap.size wr w4:=by rw[d4];exact(Below.refl _ _).alloc lr _
   have g1:Hid (Blk w4 wr.heap.size 33 [.int .u8 2,.bool neg,.bool false,.string ⟨#[]⟩,.int .i64 0,.bool false,.slice none 0 0,.int .i64 0,.int .u64 0]):=vv (by rw[d4];exact Blk.made wr _ [.int .u8 2,.bool neg,.bool false,.string ⟨#[]⟩,.int .i64 0,.bool false,.slice none 0 0,.int .i64 0,.int .u64 0]);have g2:=vv (HR.o.below b8);have k6:=vv (HZ.o.below b8);have b9:=vv (d3.o.below b8 d3.o.lt);have g3:=vv (q06 f9.o (q0s b8 _));have k7:=HR.o.lt;have k8:=HZ.o.lt;have k9:=a4 (.cells #[.int .u8 2,.bool neg,.bool false,.string ⟨#[]⟩,.int .i64 0,.bool false,.slice none 0 0,.int .i64 0,.int .u64 0] 33);have g4:=vv d4;have HT:=vv ht;clear a0 b8 d4 ht a4;by_cases hL0:L.length=0
   ·have g5:L=[]:=List.eq_nil_of_length_eq_zero hL0;have a8:Hid (s.hex neg=(⟨2,neg,false,[],0,false,0,0,0⟩,v)):=vv (by rw[HE.o,if_pos (by rw[g5];rfl)]);obtain rfl:t=⟨#[]⟩:=ByteArray.ext (Array.eq_empty_of_size_eq_zero (by rw[<- hL0,<- d9];rfl));have d5:=vv fun g w=>A.SetString_nil g 0 w
    subst g5;simp only[List.length_nil] at k9;clear d9 hL0;go_wp2_with fail
    refine(d5.o _ _).mono ?_;rintro e w' ⟨rfl,rfl⟩;rw[<- g4.o];go_wp2_with (with_reducible first
     | refine q07 rfl 33 (.tmp 4) (.tmp 55) rfl w.heap.size [.int .u8 2,.bool neg,.bool false,.string ⟨#[]⟩,.int .i64 0,.bool false,.slice none 0 0,.int .i64 0,.int .u64 0] rfl rfl 33 q36 g2.o (by kernel_rfl) rfl rfl ?_
     | refine q1H rfl 33 (.tmp 10) rfl wr.heap.size rfl 33 _ _ g1.o Tryz.underlying33 rfl (by kernel_rfl) ?_)
    intro w8 hB a3;have c0:=vv (b9.o.grown a3 (fun k e=>by cases e;exact fun e=>b4.o e.symm));have c1:=vv (q0n g3.o a3 (fun k e=>by cases e;exact lr));have c2:=vv hB;clear hB a3;go_wp2;rw[a8.o];exact bodyPost_ret (results_cell_row rfl _ _ _ _ _ _ _ rfl c2.o Tryz.underlying33 rfl (by kernel_rfl)) rfl ⟨none,0,0,rfl,Rd.nil _,Fr.none_ _,c0.o,c1.o⟩
   ·have e0:A.Hexs t L:=by rw[HT.o];exact q9T d7.o
    have g6:0<t.size:=by omega
    have g7:bl (A.wv L)<=4*L.length:=q0t (by rw[Nat.pow_mul];exact A.wv_lt e0.mem);have d5:=vv (A.SetString w2.heap.size 0 0 t L w4 (IntAt.of_blk k6.o) e0 g6 (by omega));have e1:Hid (bl (A.wv L)<=524288):=vv (Nat.le_trans g7 (by omega));have g8:w2.heap.size≠w.heap.size/\w2.heap.size≠wr.heap.size/\w2.heap.size≠b:=by have:=b0.o;have:=HL.o;omega
    have b2:=vv g8;obtain⟨U,hU⟩:=yx (A.wv L);rw[<- hU] at HE d5 e1;clear d9 e0 g6 g7 hL0 hU g8;go_wp2_with fail
    rw[<- g4.o];refine d5.o.mono ?_;rintro e w5 ⟨rfl,hI,c3⟩;have a5:=c3.grown;have e2:=vv hI;have g9:=vv (g2.o.grown a5 (fun e=>b2.o.1 (by injection e)));have i0:=vv (g1.o.grown a5 (fun e=>b2.o.2.1 (by injection e)));have c4:=vv (b9.o.grown a5 (fun k e=>by cases e;exact b2.o.2.2));have e3:=vv (q0n g3.o a5 (fun k e=>by cases e;have:=b0.o;omega));have e4:=vv (A.Sign w2.heap.size 0 (U:Int) w5 hI);obtain⟨sg,c5⟩:=yx ((U:Int).sign);rw[<- c5] at e4;clear hI c3 a5;by_cases hU0:U=0
    ·have t1:(sg==0)=true:=by rw[c5,hU0];rfl
     have a8:Hid (s.hex neg=(⟨2,neg,false,[],0,false,0,0,0⟩,v)):=vv (by rw[HE.o,if_pos hU0]);clear hU0 c5;go_wp2_with fail
     refine e4.o.mono ?_;rintro e w6 ⟨rfl,rfl⟩;go_wp2_with (with_reducible first
      | refine q07 rfl 33 (.tmp 4) (.tmp 55) rfl w.heap.size [.int .u8 2,.bool neg,.bool false,.string ⟨#[]⟩,.int .i64 0,.bool false,.slice none 0 0,.int .i64 0,.int .u64 0] rfl rfl 33 q36 g9.o (by kernel_rfl) rfl rfl ?_
      | refine q1H rfl 33 (.tmp 10) rfl wr.heap.size rfl 33 _ _ i0.o Tryz.underlying33 rfl (by kernel_rfl) ?_)
     intro w8 hB a3;have c0:=vv (c4.o.grown a3 (fun k e=>by cases e;exact fun e=>b4.o e.symm));have c1:=vv (q0n e3.o a3 (fun k e=>by cases e;exact lr));have c2:=vv hB;clear hB a3;go_wp2;rw[a8.o];exact bodyPost_ret (results_cell_row rfl _ _ _ _ _ _ _ rfl c2.o Tryz.underlying33 rfl (by kernel_rfl)) rfl ⟨none,0,0,rfl,Rd.nil _,Fr.none_ _,c0.o,c1.o⟩
    ·have t1:(sg==0)=false:=by rw[c5,Int.sign_eq_one_of_pos (by omega)];rfl
     obtain⟨Z,hZ⟩:=yx (tz U);have l0:=e1.o;have i1:=q0Y (n:=U) (by omega);rw[<- hZ] at i1;have n2:(Z:Int)<=524288:=by omega
     have HT:=vv (A.TrailingZeroBits w2.heap.size 0 (U:Int) w5 e2.o (by omega) (HG.o.grown e3.o HH.o).std);rw[Int.natAbs_natCast,<- hZ] at HT;have e5:=vv (A.Rsh w2.heap.size 0 w2.heap.size 0 Z (U:Int) (U:Int) w5 e2.o e2.o (by omega) (by omega));have i2:(U:Int)/2^Z=((U/2^Z:Nat):Int):=by rw[Int.natCast_ediv,Int.natCast_pow];rfl
     rw[i2] at e5;have a8:Hid (s.hex neg=(⟨2,neg,false,[],0,neg,U/2^Z,q7F (x-4*k+Z),0⟩,v)):=vv (by rw[HE.o,if_neg hU0,<- hZ]);have i3:Hid (bl (U/2^Z)<=524288):=vv (Nat.le_trans (q1R (Nat.div_le_self _ _)) e1.o);obtain⟨M,hM⟩:=yx (U/2^Z);rw[<- hM] at e5 a8 i3;clear hU0 c5 hZ i2 hM l0 i1;go_wp2_with fail
     refine e4.o.mono ?_;rintro e w6 ⟨rfl,rfl⟩;go_wp2_with fail
     refine HT.o.mono ?_;rintro e w6 ⟨rfl,rfl⟩;go_wp2_with fail
     refine e5.o.mono ?_;rintro e w6 ⟨rfl,hI,c3⟩;have a5:=c3.grown;have e6:=vv (g9.o.grown a5 (fun e=>b2.o.1 (by injection e)));have i4:=vv (i0.o.grown a5 (fun e=>b2.o.2.1 (by injection e)));have c6:=vv (c4.o.grown a5 (fun k e=>by cases e;exact b2.o.2.2));have l1:=vv (q0n e3.o a5 (fun k e=>by cases e;have:=b0.o;omega));have i5:=vv (q7x w2.heap.size 0 (M:Int) w6 hI (by rw[Int.natAbs_natCast];have:=i3.o;omega));rw[Int.natAbs_natCast] at i5;clear hI c3 a5;go_wp2_with fail
     refine i5.o.mono ?_;rintro e w7 ⟨Am,n,rfl,i6,i7,c7⟩;have l2:=vv i6;have e7:=vv i7;have l3:=vv (e6.o.below c7);have l4:=vv (i4.o.below c7);have e8:=vv (c6.o.below c7 c6.o.lt);have l5:=vv (q06 l1.o (q0s c7 _));obtain⟨cl,i8⟩:=yx (q7F (x-4*(k:Int)+(Z:Int)));have i9:=vv fun w=>qcH (x-4*(k:Int)+(Z:Int)) w
     rw[<- i8] at a8 i9;clear i6 i7 c7 i8;go_wp2_with fail
     refine(i9.o _).mono ?_;rintro e w8 ⟨rfl,rfl⟩;have l6:Hid (∀a,Am=some a->a.block≠wr.heap.size):=vv (fun a e=>by have:=(e7.o a e).1;have:=i4.o.lt;omega);have l7:Hid (∀a,Am=some a->a.block≠w.heap.size):=vv (fun a e=>by have:=(e7.o a e).1;have:=e6.o.lt;omega);have e9:Hid (wr.heap.size≠w.heap.size/\wr.heap.size≠b/\w.heap.size<=wr.heap.size):=vv (by have:=HL.o;have:=d3.o.lt;omega);go_wp2_with (refine q2Z rfl 30 (.tmp 71) (.tmp 70) rfl wr.heap.size 5 (.bool neg) (.slice Am n n) (.int .i64 cl) rfl rfl 33 _ l4.o (Nat.le_of_ble_eq_true rfl) (by kernel_rfl) ⟨rfl,rfl,rfl⟩ ?_)
     intro w9 j0 c8;have l8:Hid (Blk w9 wr.heap.size 33 [.int .u8 2,.bool neg,.bool false,.string ⟨#[]⟩,.int .i64 0,.bool neg,.slice Am n n,.int .i64 cl,.int .u64 0]):=vv j0;have l9:=vv (l3.o.grown c8 (fun e=>e9.o.1 (by injection e)));have f0:=vv (e8.o.grown c8 (fun k e=>by cases e;exact e9.o.2.1));have m0:=vv (q0n l5.o c8 (fun k e=>by cases e;exact e9.o.2.2));have f1:=vv (l2.o.only c8 l6.o);clear j0 c8;go_wp2_with (with_reducible first
      | refine q07 rfl 33 (.tmp 4) (.tmp 72) rfl w.heap.size [.int .u8 2,.bool neg,.bool false,.string ⟨#[]⟩,.int .i64 0,.bool neg,.slice Am n n,.int .i64 cl,.int .u64 0] rfl rfl 33 q36 l9.o (by kernel_rfl) rfl rfl ?_
      | refine q1H rfl 33 (.tmp 10) rfl wr.heap.size rfl 33 _ _ l8.o Tryz.underlying33 rfl (by kernel_rfl) ?_)
     intro w8 hB a3;have c0:=vv (f0.o.grown a3 (fun k e=>by cases e;exact fun e=>b4.o e.symm));have c1:=vv (q0n m0.o a3 (fun k e=>by cases e;exact lr));have c2:=vv hB;have f2:=vv (f1.o.only a3 l7.o);have f3:=vv (e7.o.mono (Nat.le_of_lt e6.o.lt));clear hB a3;go_wp2;rw[a8.o];exact bodyPost_ret (results_cell_row rfl _ _ _ _ _ _ _ rfl c2.o Tryz.underlying33 rfl (by kernel_rfl)) rfl ⟨Am,n,n,rfl,f2.o,f3.o,c0.o,c1.o⟩
end Go.Proofs.YtppgcnhlpnmieaaGreatDoor.Scn
namespace Go.Proofs.YtppgcnhlpnmieaaGreatDoor.Pnt
open Go Go.RowKit R5 Scn
theorem qcu{w:World}{A:Option Addr}{n c N:Nat}(h:Rd w A n c (toL N))(hn:n<=16384):Nat_.natErr n (toL N)=0:=Nat_.natErr_ok (q1L h hn)
theorem Check_ok{A:Option Addr}{n c N:Nat}{w:World}(h:Rd w A n c (toL N))(hn:n<=16384):
  Calls Tryz.prog 131 #[q1u A n c] w fun e w'=>e=.returned (.int .i64 0)/\Below w.heap.size w w':=by
 have:=Nat_.Check A n c _ w h
 rwa [qcu h hn] at this
theorem Bits(A:Option Addr)(n c N:Nat)(w:World)(ha:Rd w A n c (toL N))(hn:n<=16384):
  Calls Tryz.prog 55 #[q1u A n c] w fun e w'=>e=.returned (.tuple #[.int .i64 ((bl N:Nat):Int),.int .i64 0])/\Below w.heap.size w w':=by
 have hb:Below w.heap.size w (w.alloc (.cells #[.slice A n c] 28)):=(Below.refl _ _).alloc lr _;have hQ:Blk (w.alloc (.cells #[.slice A n c] 28)) w.heap.size 28 [.slice A n c]:=Blk.made w 28 [.slice A n c];have HC:=vv (Check_ok (ha.below hb rfl) hn);have HB:=vv hb;have HQ:=vv hQ;have a4:(n:Int)<=16384:=by omega
 have hw:=ha.words;rcases Nat.eq_zero_or_pos n with rfl|a5
 ·have h0:N=0:=q05.1 hw;subst h0;clear hb hQ hw hn ha;go_enter Tryz.func55,Tryz.ntmps55
  go_wp2_with fail
  refine HC.o.mono ?_;rintro e w1 ⟨rfl,hB⟩;have c0:=(HQ.o.below hB).cell 0;have cl:=(HQ.o.below hB).lt;simp only[List.getElem?_cons_zero] at c0;have a1:=vn HB hB;clear hB;go_wp2;go_ret2
  exact⟨rfl,a1.o⟩
 ·have h0:0<N:=by
   rcases Nat.eq_zero_or_pos N with h|h
   ·subst h;rw[q14] at hw;omega
   ·exact h
  obtain⟨e1,_⟩:=bl_words h0;rw[hw] at e1;obtain⟨m,rfl⟩:∃m,n=m+1:=⟨n-1,by omega⟩;rw[Nat.add_sub_cancel] at e1;obtain⟨b,off,rfl,a3,hc⟩:=ha.cell (by omega);have hx:=hc m (by omega);have hl:=ha.nth_lt m;have a2:=vv fun w=>Go.Proofs.YtppgcnhlpnmieaaGreatDoor.A.lz32 (nth (toL N) m) w hl
  have a0:bl (nth (toL N) m)<=32:=q0t (by omega);obtain⟨y,hy⟩:=yx (nth (toL N) m);obtain⟨L,hL⟩:=yx (bl y);rw[<- hy] at hx a2 a0 e1;rw[<- hL] at a2 a0 e1;have E1:Hid (((bl N:Nat):Int)=32*((m:Int)+1)-((32-L:Nat):Int)):=vv (by rw[e1];omega);have hz:((32-L:Nat):Int)<=32:=by omega
  have a7:((m:Int)+1==0)=false:=by rw[beq_eq_false_iff_ne];omega
  have a8:(m:Int)<=16383:=by omega
  obtain⟨Z,hZ⟩:=yx (32-L);rw[<- hZ] at a2 E1 hz;have HX:=vv hx;have a6:=vv a3;clear hb hQ hw hn ha h0 e1 hc hl a0 hy hL hZ hx a3 a4;go_enter Tryz.func55,Tryz.ntmps55
  go_wp2_with fail
  refine HC.o.mono ?_;rintro e w1 ⟨rfl,hB⟩;have c0:=(HQ.o.below hB).cell 0;have cl:=(HQ.o.below hB).lt;simp only[List.getElem?_cons_zero] at c0;have a1:=vn HB hB;have hx:=(a1.o.cell (p:=⟨b,off+m,none⟩) a6.o).trans HX.o;clear hB;go_wp2_with fail
  refine(a2.o _).mono ?_;rintro e w' ⟨rfl,rfl⟩;go_wp2;go_ret2
  rw[E1.o];exact⟨rfl,a1.o⟩
theorem qa9{N n i:Nat}(h:N<4294967296^n)(hi:n<=i/32):N/2^i%2=0:=by
 rw[q1J] at h;have h2:2^(32*n)<=2^i:=Nat.pow_le_pow_right (by decide) (by omega);rw[Nat.div_eq_of_lt (by omega)]
theorem Bit(A:Option Addr)(n c N i:Nat)(w:World)(ha:Rd w A n c (toL N))(hn:n<=16384)(hi:i<=1048576):
  Calls Tryz.prog 135 #[q1u A n c,.int .i64 (i:Int)] w fun e w'=>e=.returned (.tuple #[.bool (N/2^i%2==1),.int .i64 0])/\Below w.heap.size w w':=by
 have hb:Below w.heap.size w (w.alloc (.cells #[.slice A n c] 28)):=(Below.refl _ _).alloc lr _;have hQ:Blk (w.alloc (.cells #[.slice A n c] 28)) w.heap.size 28 [.slice A n c]:=Blk.made w 28 [.slice A n c];have HC:=vv (Check_ok (ha.below hb rfl) hn);have HB:=vv hb;have HQ:=vv hQ;have a8:(n:Int)<=16384:=by omega
 have a9:(i:Int)<=1048576:=by omega
 obtain⟨q,hq⟩:=yx (i/32);obtain⟨s,hs⟩:=yx (i%32);have b0:(i:Int)/32=(q:Int):=by omega
 have b1:(i:Int)%32=(s:Int):=by omega
 have a5:(s:Int)<=31:=by omega
 have b2:(q:Int)<=32768:=by omega
 by_cases hqn:n<=q
 ·have HE:Hid ((N/2^i%2==1)=false):=vv (by
   have h:=ha.lt;rw[q00] at h;rw[qa9 h (by omega)];rfl)
  have t1:(n:Int)<=(q:Int):=by omega
  clear hb hQ hn ha hq hs hqn hi;go_enter Tryz.func135,Tryz.ntmps135
  go_wp2_with fail
  refine HC.o.mono ?_;rintro e w1 ⟨rfl,hB⟩;have c0:=(HQ.o.below hB).cell 0;have cl:=(HQ.o.below hB).lt;simp only[List.getElem?_cons_zero] at c0;have a1:=vn HB hB;clear hB;go_wp2;go_ret2
  rw[HE.o];exact⟨rfl,a1.o⟩
 ·obtain⟨b,off,rfl,a4,hc⟩:=ha.cell (by omega);have hx:=hc q (by omega);have hl:=ha.nth_lt q;have a0:=q4A (nth (toL N) q) s hl;have a2:=q8o N i;rw[<- hq,<- hs] at a2;rw[a2] at a0;obtain⟨y,hy⟩:=yx (nth (toL N) q);rw[<- hy] at hx a0;obtain⟨v,hv⟩:=yx ((N/2^i%2==1));have hd:decide (N/2^i%2=1)=v:=by
   rw[hv];rcases Nat.mod_two_eq_zero_or_one (N/2^i) with e|e<;>rw[e]<;>rfl
  rw[hd] at a0;rw[<- hv];have t1:(q:Int)<(n:Int):=by omega
  have a6:((2:Int)^s)=((2^s:Nat):Int):=by rw[Int.natCast_pow];rfl
  have HX:=vv hx;have a7:=vv a4;have a3:=vv a0;clear hb hQ hn ha hq hs hqn hi hc hl a2 hy hv hd hx a4 a6 a0;go_enter Tryz.func135,Tryz.ntmps135
  go_wp2_with fail
  refine HC.o.mono ?_;rintro e w1 ⟨rfl,hB⟩;have c0:=(HQ.o.below hB).cell 0;have cl:=(HQ.o.below hB).lt;simp only[List.getElem?_cons_zero] at c0;have a1:=vn HB hB;have hx:=(a1.o.cell (p:=⟨b,off+q,none⟩) a7.o).trans HX.o;clear hB;have a0:=a3.o;go_wp2;go_ret2
  exact⟨rfl,a1.o⟩
def qd4(N:Nat)(w:World)(e:Ending)(w':World):Prop:=
 ∃A m,e=.returned (.tuple #[q1u A m m,.int .i64 0])/\Rd w' A m m (toL N)/\Fr w.heap.size A/\Below w.heap.size w w'
theorem Down(A:Option Addr)(n c N k:Nat)(w:World)(ha:Rd w A n c (toL N))(hn:n<=16384)(hk:k<=1048576):
  Calls Tryz.prog 73 #[q1u A n c,.int .i64 (k:Int)] w (qd4 (N/2^k) w):=by
 obtain⟨w0,a1⟩:=yx ((w.alloc (.cells #[.slice A n c] 28)).alloc (.cells #[.slice none 0 0] 28));have hb:Below w.heap.size w w0:=by rw[a1];exact((Below.refl _ _).alloc lr _).alloc (by simp) _
 have hQ:Blk w0 w.heap.size 28 [.slice A n c]:=by rw[a1];exact(Blk.made w 28 [.slice A n c]).alloc _
 have hR:Blk w0 (w.heap.size+1) 28 [.slice none 0 0]:=by
  rw[a1];have:=Blk.made (w.alloc (.cells #[.slice A n c] 28)) 28 [.slice none 0 0]
  rwa [World.size_alloc] at this
 have HC:=vv (Check_ok (ha.below hb rfl) hn);have HB:=vv hb;have HQ:=vv hQ;have HR:=vv hR;have HW:=vv a1;have c3:(n:Int)<=16384:=by omega
 have c4:(k:Int)<=1048576:=by omega
 obtain⟨q,hq⟩:=yx (k/32);obtain⟨s,hs⟩:=yx (k%32);have c5:(k:Int)/32=(q:Int):=by omega
 have c6:(k:Int)%32=(s:Int):=by omega
 have b5:(s:Int)<=31:=by omega
 have c7:(q:Int)<=32768:=by omega
 have a3:k=32*q+s:=by omega
 by_cases hqn:n<=q
 ·have HE:Hid (N/2^k=0):=vv (by
   have h:=ha.lt;rw[q00,q1J] at h;have h2:2^(32*n)<=2^k:=Nat.pow_le_pow_right (by decide) (by omega);exact Nat.div_eq_of_lt (by omega))
  have t1:(n:Int)<=(q:Int):=by omega
  clear hb hQ hR a1 hn ha hq hs hqn hk a3;go_enter Tryz.func73,Tryz.ntmps73
  go_wp2_with fail
  rw[<- HW.o];refine HC.o.mono ?_;rintro e w1 ⟨rfl,hB⟩;have c0:=(HQ.o.below hB).cell 0;have cl:=(HQ.o.below hB).lt;have d0:=(HR.o.below hB).cell 0;have df:=(HR.o.below hB).fz 0;have dl:=(HR.o.below hB).lt;simp only[List.getElem?_cons_zero] at c0 d0;have a4:=vn HB hB;clear hB;have a5:=vv (a4.o.setCell (p:=⟨w.heap.size+1,0,none⟩) (Nat.le_succ _) (.slice none 0 0));have a0:(w1.setCell ⟨w.heap.size+1,0,none⟩ (.slice none 0 0)).cell? ⟨w.heap.size+1,0,none⟩=some (.slice none 0 0):=q0r d0;have HK:=vv a0;clear a0;go_wp2;have a0:=HK.o;rw[HE.o];exact bodyPost_ret (v:=.tuple #[q1u none 0 0,.int .i64 0]) (by simp [results,Tryz.results73,go_sem,a0]) rfl ⟨none,0,rfl,Rd.nil _,Fr.none_ _,a5.o⟩
 ·have hv:val ((toL N).drop q)=N/4294967296^q:=by rw[<- q12 ha.lim,q00]
  have HE:Hid (val ((toL N).drop q)/2^s=N/2^k):=vv (by rw[hv,Nat.div_div_eq_div_mul,q1J,<- Nat.pow_add,<- a3]);obtain⟨b,off,rfl,b6,hc⟩:=ha.cell (by omega);have t1:(q:Int)<(n:Int):=by omega
  have HD:=vv fun w' (h:Rd w' (some ⟨b,off,none⟩) n c (toL N))=>qb8 _ _ _ _ s w' (h.drop (k:=q) (by omega)) (by omega) (by omega)
  have c8:(n:Int)<=(c:Int):=by have:=ha.le;omega
  have c9:((n-q:Nat):Int)=(n:Int)-(q:Int):=by omega
  have d1:((c-q:Nat):Int)=(c:Int)-(q:Int):=by have:=ha.le;omega
  have HA:=vv (ha.below hb rfl);clear hb hQ hR a1 hn ha hq hs hqn hk a3 hv hc b6;go_enter Tryz.func73,Tryz.ntmps73
  go_wp2_with fail
  rw[<- HW.o];refine HC.o.mono ?_;rintro e w1 ⟨rfl,hB⟩;have c0:=(HQ.o.below hB).cell 0;have cl:=(HQ.o.below hB).lt;simp only[List.getElem?_cons_zero] at c0;have a9:=vv (HR.o.below hB);have b7:=vv (HA.o.below hB rfl);have a4:=vn HB hB;clear hB;go_wp2_with fail
  refine(HD.o _ b7.o).mono ?_;rintro e w3 ⟨V,rfl,hO,b0,b1,hB⟩;have d2:=hB.size;have d3:=a9.o.lt;have b8:=vv (a9.o.below hB);have b9:=vn a4 hB;have HT:=vv (Nat_.trimmed _ (n-q) (n-q) V w3 (hO.rd b0.symm lr (by omega)));rw[b1,HE.o] at HT;clear hO b0 b1 hB;go_wp2_with fail
  refine HT.o.mono ?_;rintro e w4 ⟨A4,m,rfl,b2,b3,a6⟩;have b4:Hid (Fr (w.heap.size+2) A4):=vv (fun a e=>by have h:=b3 a e;cases h;exact⟨by show w.heap.size+2<=w1.heap.size;omega,rfl⟩);have a7:=vv (b8.o.below a6);have c1:=vn b9 a6;have d0:=a7.o.cell 0;have df:=a7.o.fz 0;have dl:=a7.o.lt;simp only[List.getElem?_cons_zero] at d0;obtain⟨w9,a2⟩:=yx (w4.setCell ⟨w.heap.size+1,0,none⟩ (.slice A4 m m));have a8:Hid (Rd w9 A4 m m (toL (N/2^k))):=vv (by rw[a2];exact b2.other _ _ _ (fun a e=>by have:=(b4.o a e).1;omega));have a5:Hid (Below w.heap.size w w9):=vv (by rw[a2];exact c1.o.setCell (Nat.le_succ _) _);have a0:w9.cell? ⟨w.heap.size+1,0,none⟩=some (.slice A4 m m):=by rw[a2];exact q0r d0
  have HK:=vv a0;have c2:=vv a2;clear b2 b3 a6 a0 a2;go_wp2;rw[<- c2.o];have a0:=HK.o;exact bodyPost_ret (v:=.tuple #[q1u A4 m m,.int .i64 0]) (by simp [results,Tryz.results73,go_sem,a0]) rfl ⟨A4,m,rfl,a8.o,b4.o.mono (by omega),a5.o⟩
theorem q4R{w:World}{g base:Nat}{t:TypeId}{U:List Nat}(h:Own w g t U)(hb:base<=g)(hl:U.length<=1000000000):w.ownsRow base t 1 (.slice (some ⟨g,0,none⟩) U.length U.length) U.length (q0p U):=by
 refine⟨by simp [q0p],.inr ⟨g,U.length,(q0p U).toArray,rfl,hb,h.heap,lr,by unfold maxLen;omega,by simp [q0p],?_⟩⟩;rw[Nat.mul_one];have:(q0p U).length=U.length:=by simp [q0p]
 simp [<- this]
theorem row_len_any{w:World}{base:Nat}{e:TypeId}{v:Value}{n:Nat}{l:List Value}(h:w.ownsRow base e 1 v n l):∃A cap,v=.slice A n cap:=by
 rcases h.2 with ⟨h2,rfl⟩|⟨g,cap,cur,hv,_⟩
 ·exact⟨none,0,h2⟩
 ·exact⟨_,_,hv⟩
theorem q1X(U:List Nat):∀v∈q0p U,v.oneCell'=true:=by
 intro v hv;obtain⟨x,_,rfl⟩:=List.mem_map.1 hv
 rfl
theorem Up(A:Option Addr)(n c N k:Nat)(w:World)(ha:Rd w A n c (toL N))(hn:n<=16384)(hk:k+bl N<=524288):
  Calls Tryz.prog 56 #[q1u A n c,.int .i64 (k:Int)] w (qd4 (N*2^k) w):=by
 obtain⟨w0,b6⟩:=yx ((w.alloc (.cells #[.slice A n c] 28)).alloc (.cells #[.slice none 0 0] 28));have hb:Below w.heap.size w w0:=by rw[b6];exact((Below.refl _ _).alloc lr _).alloc (by simp) _
 have hQ:Blk w0 w.heap.size 28 [.slice A n c]:=by rw[b6];exact(Blk.made w 28 [.slice A n c]).alloc _
 have hR:Blk w0 (w.heap.size+1) 28 [.slice none 0 0]:=by
  rw[b6];have:=Blk.made (w.alloc (.cells #[.slice A n c] 28)) 28 [.slice none 0 0]
  rwa [World.size_alloc] at this
 have HC:=vv (Bits A n c N w0 (ha.below hb rfl) hn);have HB:=vv hb;have HQ:=vv hQ;have HR:=vv hR;have HW:=vv b6;have g2:(n:Int)<=16384:=by omega
 have g3:(k:Int)<=524288:=by omega
 obtain⟨L,hL⟩:=yx (bl N);rw[<- hL] at HC hk;have g4:(k:Int)<=524288-(L:Int):=by omega
 have g5:(L:Int)<=524288:=by omega
 rcases Nat.eq_zero_or_pos N with h0|h0
 ·subst h0;have f2:L=0:=by rw[hL];rfl
  subst f2;clear hb hQ hR b6 hn ha hk hL;go_enter Tryz.func56,Tryz.ntmps56
  go_wp2_with fail
  rw[<- HW.o];refine HC.o.mono ?_;rintro e w1 ⟨rfl,hB⟩;have d0:=(HR.o.below hB).cell 0;have df:=(HR.o.below hB).fz 0;have dl:=(HR.o.below hB).lt;simp only[List.getElem?_cons_zero] at d0;have d3:=vn HB hB;clear hB;have c1:=vv (d3.o.setCell (p:=⟨w.heap.size+1,0,none⟩) (Nat.le_succ _) (.slice none 0 0));have a3:(w1.setCell ⟨w.heap.size+1,0,none⟩ (.slice none 0 0)).cell? ⟨w.heap.size+1,0,none⟩=some (.slice none 0 0):=q0r d0;have HK:=vv a3;clear a3;go_wp2;have a3:=HK.o;exact bodyPost_ret (v:=.tuple #[q1u none 0 0,.int .i64 0]) (by simp [results,Tryz.results56,go_sem,a3]) rfl ⟨none,0,rfl,by rw[Nat.zero_mul];exact Rd.nil _,Fr.none_ _,c1.o⟩
 ·obtain⟨q,hq⟩:=yx (k/32);obtain⟨s,hs⟩:=yx (k%32);have f3:(k:Int)/32=(q:Int):=by omega
  have f4:(k:Int)%32=(s:Int):=by omega
  have f5:(s:Int)<=31:=by omega
  have g6:(q:Int)<=16384:=by omega
  have g7:((L:Int)==0)=false:=by
   have:=q1R (a:=1) h0;have e:bl 1=1:=by decide
   rw[beq_eq_false_iff_ne];omega
  have e6:k=32*q+s:=by omega
  have HS:=vv fun w' (h:Rd w' A n c (toL N))=>qaU A n c (toL N) s w' h (by omega) hn
  have g8:=Go.Proofs.YtppgcnhlpnmieaaGreatDoor.A.mk q (by omega);have HA:=vv (ha.below hb rfl);have HE:Hid (∀V,val V=val (toL N)*2^s->val (List.replicate q 0++V)=N*2^k):=vv (fun V h=>by
   rw[q1n,q0d,h,q00,List.length_replicate,e6,Nat.pow_add,<- q1J,Nat.mul_comm _ (2^s),<- Nat.mul_assoc];rw[Nat.zero_add,Nat.mul_comm (4294967296^q),Nat.mul_assoc,Nat.mul_comm (4294967296^q) N,Nat.mul_left_comm])
  clear hb hQ hR b6 hn ha hq hs hk hL h0 e6;go_enter Tryz.func56,Tryz.ntmps56
  go_wp2_with fail
  rw[<- HW.o];refine HC.o.mono ?_;rintro e w1 ⟨rfl,hB⟩;have c0:=(HQ.o.below hB).cell 0;have cl:=(HQ.o.below hB).lt;simp only[List.getElem?_cons_zero] at c0;have f6:=vv (HR.o.below hB);have f7:=vv (HA.o.below hB rfl);have d3:=vn HB hB;clear hB;go_wp2_with fail
  have g9:IntKind.i64.wrap (q:Int)=(q:Int):=IntWalk.i64_in _ (by omega);have f8:(k:Int).tdiv 32=(q:Int):=by rw[Int.tdiv_eq_ediv_of_nonneg (by omega)];exact f3
  have f9:(k:Int).tmod 32=(s:Int):=by rw[Int.tmod_eq_emod_of_nonneg (by omega)];exact f4
  refine q01 (fun w'=>w'.cell? ⟨w.heap.size,0,none⟩=some (.slice A n c)) 8
   (.still 0 (.still 1 (.still 3 (.still 4 (.still 5 (.still 6 (.two 2 (.one 7 .done) 7 (.one 2 .done)))))))) (by kernel_rfl) (by kernel_rfl) (fun _ _ d _ _ h=>by cases d<;>exact h) c0 (fun hS0=>?_)
  obtain⟨wd,a9⟩:=yx (w1.drew);have d1:Hid (Below w.heap.size w wd):=vv (by rw[a9];exact q04 d3.o);have d4:Hid (Blk wd (w.heap.size+1) 28 [.slice none 0 0]):=vv (by rw[a9];exact f6.o);have e7:Hid (Rd wd A n c (toL N)):=vv (by rw[a9];exact f7.o.drew);have d2:Hid (w.heap.size<wd.heap.size):=vv (by rw[a9];exact cl);have d5:Hid (wd.cell? ⟨w.heap.size,0,none⟩=some (.slice A n c)):=vv (by rw[a9];exact c0);have b7:Hid (w.heap.size+2<=wd.heap.size):=vv (d4.o.lt);obtain⟨i0,hi,e8,e9,f0⟩:=info_parts Go.Proofs.YtppgcnhlpnmieaaGreatDoor.B.inf;rw[<- a9] at hS0 ⊢;clear a9 c0 cl
  iterate 6
   refine q02 (v:=?_) rfl (by rfl) ?_ ?_;rotate_left
   ·intro w i1;go_simp;with_reducible rfl
   simp only[Act.put,sa,sb,sc]
  refine q2b rfl (by rfl) rfl (by rfl) (fun K hK=>?_) (fun K hK=>?_)
  ·go_simp;have hO:=Own.made wd q 34;have hB:=(Below.refl wd.heap.size wd).alloc (o:=.cells (madeCells #[.int .u32 0] q) 34) lr;obtain⟨wm,c2⟩:=yx (wd.alloc (.cells (madeCells #[.int .u32 0] q) 34));rw[<- c2] at hO hB ⊢;have HO:=vv hO;have a7:=vv hB;clear hO hB c2;refine hK.out _ _ ((a7.o.cell (p:=⟨w.heap.size,0,none⟩) d2.o).trans d5.o) (fun a0=>?_);clear hK hS0;refine q03 rfl (by rfl) (fun K hK=>?_);go_simp;refine(HS.o _ (e7.o.below a7.o rfl)).mono ?_;rintro e wz ⟨V,rfl,b8,b9,c3,a4⟩;have b0:=q4R (base:=w.heap.size+2) (HO.o.below a4 HO.o.lt) b7.o (by rw[List.length_replicate];omega);rw[List.length_replicate] at b0;have b1:=q4R (base:=w.heap.size+2) b8 (Nat.le_trans b7.o a7.o.size) (by rw[b9];omega);rw[b9] at b1;have HM:=vv b0;have HV:=vv b1;have c4:=vv (And.intro c3 b8.2);have c5:=vv (d1.o.trans ((a7.o.trans (a4.mono a7.o.size)).mono d1.o.size));have d6:=vv ((d4.o.below a7.o).below a4);have d7:Hid (w.heap.size+2<=wz.heap.size):=vv (Nat.le_trans b7.o (Nat.le_trans a7.o.size a4.size));have c6:=((a7.o.trans (a4.mono a7.o.size)).cell (p:=⟨w.heap.size,0,none⟩) d2.o).trans d5.o;clear b0 b1 b8 b9 c3 a4 a0;refine hK.out _ _ c6 (fun a0=>?_);clear hK c6 a0;refine q08 ?_;simp only[List.drop_succ_cons,List.drop_zero];go_wp2_with (at_builtin;refine q0X rfl _ _ 26 rfl (w.heap.size+2) (w.heap.size+2) 34 i0 (.int .u32 0) 4 Tryz.underlying26 hi e8 e9 f0 rfl _ q (q0p (List.replicate q 0)) rfl HM.o _ (n+1) (q0p V) rfl HV.o (q1X V) (by unfold maxLen;omega) (by omega) (by have:=d7.o;omega) ?_)
   intro v' w5 a5 a1;have a8:Hid (Below w.heap.size w w5):=vv (c5.o.grown a1 c5.o.size (fun k e=>by have:=(HM.o.lt k e).1;omega));have d8:Hid (Blk w5 (w.heap.size+1) 28 [.slice none 0 0]):=vv (d6.o.grown a1 (fun e=>by have:=(HM.o.lt _ e).1;omega));have d9:=a8;have a2:w5.ownsRow (w.heap.size+2) 34 1 v' (q+(n+1)) (q0p (List.replicate q 0++V)):=by
    have e:q0p (List.replicate q 0++V)=q0p (List.replicate q 0)++q0p V:=by simp [q0p]
    rw[e];exact a5
   obtain⟨Av,cap,rfl⟩:=row_len_any a2;have b2:=Go.Proofs.YtppgcnhlpnmieaaGreatDoor.A.row_rd a2 (q1G.2 ⟨q19 q,c4.o.2⟩) (by omega);have e0:Hid (Fr (w.heap.size+2) Av):=vv b2.2;have HT:=vv (Nat_.trimmed _ _ _ _ w5 b2.1);rw[HE.o V c4.o.1] at HT;clear a5 a1 a2 b2;go_wp2_with fail
   refine HT.o.mono ?_;rintro e w4 ⟨A4,m,rfl,c7,c8,b3⟩;have c9:Hid (Fr (w.heap.size+2) A4):=vv (fun a e=>by have h:=c8 a e;subst h;exact e0.o a rfl);have b4:=vv (d8.o.below b3);have e1:=vn d9 b3;have d0:=b4.o.cell 0;have df:=b4.o.fz 0;have dl:=b4.o.lt;simp only[List.getElem?_cons_zero] at d0;obtain⟨w9,a6⟩:=yx (w4.setCell ⟨w.heap.size+1,0,none⟩ (.slice A4 m m));have b5:Hid (Rd w9 A4 m m (toL (N*2^k))):=vv (by rw[a6];exact c7.other _ _ _ (fun a e=>by have:=(c9.o a e).1;omega));have c1:Hid (Below w.heap.size w w9):=vv (by rw[a6];exact e1.o.setCell (Nat.le_succ _) _);have a3:w9.cell? ⟨w.heap.size+1,0,none⟩=some (.slice A4 m m):=by rw[a6];exact q0r d0
   have HK:=vv a3;have e2:=vv a6;clear c7 c8 b3 a3 a6;go_wp2;rw[<- e2.o];have a3:=HK.o;exact bodyPost_ret (v:=.tuple #[q1u A4 m m,.int .i64 0]) (by simp [results,Tryz.results56,go_sem,a3]) rfl ⟨A4,m,rfl,b5.o,c9.o.mono (by omega),c1.o⟩
  ·go_simp;refine(HS.o _ e7.o).mono ?_;rintro e wy ⟨V,rfl,b8,b9,c3,a4⟩;have e3:=vv b8;have g0:=vv c3;have f1:=vv b9;have a8:=vv a4;have e4:=(a4.cell (p:=⟨w.heap.size,0,none⟩) d2.o).trans d5.o;have g1:=vv e4;have e5:Hid (w.heap.size<wy.heap.size):=vv (Nat.lt_of_lt_of_le d2.o a4.size);refine hK.out _ _ e4 (fun a0=>?_);clear hK hS0 e4 a0 b8 b9 c3 a4;refine q03 rfl (by rfl) (fun K hK=>?_);go_simp;have hO:=Own.made wy q 34;have hB:=(Below.refl wy.heap.size wy).alloc (o:=.cells (madeCells #[.int .u32 0] q) 34) lr;obtain⟨wz,c2⟩:=yx (wy.alloc (.cells (madeCells #[.int .u32 0] q) 34));rw[<- c2] at hO hB ⊢;have b0:=q4R (base:=w.heap.size+2) hO (Nat.le_trans b7.o a8.o.size) (by rw[List.length_replicate];omega);rw[List.length_replicate] at b0;have b1:=q4R (base:=w.heap.size+2) (e3.o.below hB e3.o.lt) b7.o (by rw[f1.o];omega);rw[f1.o] at b1;have HM:=vv b0;have HV:=vv b1;have c4:=vv (And.intro g0.o e3.o.2);have c5:=vv (d1.o.trans ((a8.o.trans (hB.mono a8.o.size)).mono d1.o.size));have d6:=vv ((d4.o.below a8.o).below hB);have d7:Hid (w.heap.size+2<=wz.heap.size):=vv (Nat.le_trans b7.o (Nat.le_trans a8.o.size hB.size));have c6:=(hB.cell (p:=⟨w.heap.size,0,none⟩) e5.o).trans g1.o;clear b0 b1 hO hB c2;refine hK.out _ _ c6 (fun a0=>?_);clear hK c6 a0;refine q08 ?_;simp only[List.drop_succ_cons,List.drop_zero];go_wp2_with (at_builtin;refine q0X rfl _ _ 26 rfl (w.heap.size+2) (w.heap.size+2) 34 i0 (.int .u32 0) 4 Tryz.underlying26 hi e8 e9 f0 rfl _ q (q0p (List.replicate q 0)) rfl HM.o _ (n+1) (q0p V) rfl HV.o (q1X V) (by unfold maxLen;omega) (by omega) (by have:=d7.o;omega) ?_)
   intro v' w5 a5 a1;have a8:Hid (Below w.heap.size w w5):=vv (c5.o.grown a1 c5.o.size (fun k e=>by have:=(HM.o.lt k e).1;omega));have d8:Hid (Blk w5 (w.heap.size+1) 28 [.slice none 0 0]):=vv (d6.o.grown a1 (fun e=>by have:=(HM.o.lt _ e).1;omega));have d9:=a8;have a2:w5.ownsRow (w.heap.size+2) 34 1 v' (q+(n+1)) (q0p (List.replicate q 0++V)):=by
    have e:q0p (List.replicate q 0++V)=q0p (List.replicate q 0)++q0p V:=by simp [q0p]
    rw[e];exact a5
   obtain⟨Av,cap,rfl⟩:=row_len_any a2;have b2:=Go.Proofs.YtppgcnhlpnmieaaGreatDoor.A.row_rd a2 (q1G.2 ⟨q19 q,c4.o.2⟩) (by omega);have e0:Hid (Fr (w.heap.size+2) Av):=vv b2.2;have HT:=vv (Nat_.trimmed _ _ _ _ w5 b2.1);rw[HE.o V c4.o.1] at HT;clear a5 a1 a2 b2;go_wp2_with fail
   refine HT.o.mono ?_;rintro e w4 ⟨A4,m,rfl,c7,c8,b3⟩;have c9:Hid (Fr (w.heap.size+2) A4):=vv (fun a e=>by have h:=c8 a e;subst h;exact e0.o a rfl);have b4:=vv (d8.o.below b3);have e1:=vn d9 b3;have d0:=b4.o.cell 0;have df:=b4.o.fz 0;have dl:=b4.o.lt;simp only[List.getElem?_cons_zero] at d0;obtain⟨w9,a6⟩:=yx (w4.setCell ⟨w.heap.size+1,0,none⟩ (.slice A4 m m));have b5:Hid (Rd w9 A4 m m (toL (N*2^k))):=vv (by rw[a6];exact c7.other _ _ _ (fun a e=>by have:=(c9.o a e).1;omega));have c1:Hid (Below w.heap.size w w9):=vv (by rw[a6];exact e1.o.setCell (Nat.le_succ _) _);have a3:w9.cell? ⟨w.heap.size+1,0,none⟩=some (.slice A4 m m):=by rw[a6];exact q0r d0
   have HK:=vv a3;have e2:=vv a6;clear c7 c8 b3 a3 a6;go_wp2;rw[<- e2.o];have a3:=HK.o;exact bodyPost_ret (v:=.tuple #[q1u A4 m m,.int .i64 0]) (by simp [results,Tryz.results56,go_sem,a3]) rfl ⟨A4,m,rfl,b5.o,c9.o.mono (by omega),c1.o⟩
end Go.Proofs.YtppgcnhlpnmieaaGreatDoor.Pnt
namespace Go.Proofs.YtppgcnhlpnmieaaGreatDoor.Fms
open Go Go.RowKit R5 Scn
def q0b(E F:Int)(b:Nat):Int:=if R3.formOk E F then(if 1+E+F<(bl b:Int) then 6 else 0) else 5
theorem qdY(b:Nat)(w:World)(h:b<18446744073709551616):Calls Tryz.prog 145 #[.int .u64 (b:Int)] w fun e w'=>e=.returned (.int .i64 ((bl b:Nat):Int))/\w=w':=
 (Tryz.bits_Len64 (b:Int) w (by omega) (by omega)).mono fun e w' ⟨h1,h2⟩=>⟨by rw[h1,Int.toNat_natCast,q5E h],h2.symm⟩
theorem Fits(E F:Int)(b:Nat)(w:World)(hb:b<18446744073709551616):
  Calls Tryz.prog 67 #[fm E F,.int .u64 (b:Int)] w fun e w'=>e=.returned (.int .i64 (q0b E F b))/\Below w.heap.size w w':=by
 have HC:=vv fun w=>Check E F w
 have a6:=vv fun w=>qdY b w hb
 have a3:bl b<=64:=q0t (by rw[show(2:Nat)^64=18446744073709551616 from rfl];exact hb);obtain⟨L,hL⟩:=yx (bl b);rw[<- hL] at a6 a3;have a4:Below w.heap.size w (w.alloc (.cells #[.int .i64 E,.int .i64 F] 23)):=(Below.refl _ _).alloc lr _;have a7:=vv a4;cases hok:R3.formOk E F with
 | false =>
  have HE:Hid (q0b E F b=5):=vv (by unfold q0b;rw[hok];rfl);rw[R3.chk_no hok] at HC;clear hb a3 hL a4 hok;go_enter Tryz.func67,Tryz.ntmps67
  go_wp2_with fail
  refine(HC.o _).mono ?_;rintro e w1 ⟨rfl,hB⟩;have HB:=vn a7 hB;clear hB;go_wp2;go_ret
  exact⟨q0T HE.o.symm,HB.o⟩
 | true =>
  have HE:Hid (q0b E F b=if 1+E+F<(L:Int) then 6 else 0):=vv (by unfold q0b;rw[hok,<- hL];rfl);obtain⟨ne,nf,rfl,rfl,h1,h2,h3,h4⟩:=R3.formOk_nat hok;rw[R3.chk_ok hok] at HC;have b0:(ne:Int)<=11:=by omega
  have b1:(nf:Int)<=52:=by omega
  have b2:(L:Int)<=64:=by omega
  have a1:IntKind.i64.wrap (1+(ne:Int))=1+(ne:Int):=IntWalk.i64_in _ (by omega);have a2:IntKind.i64.wrap (1+(ne:Int)+(nf:Int))=1+(ne:Int)+(nf:Int):=IntWalk.i64_in _ (by omega);have HW:=vv (And.intro a1 a2);clear hb a3 hL a4 hok h1 h2 h3 h4 a1 a2;go_enter Tryz.func67,Tryz.ntmps67
  go_wp2_with fail
  refine(HC.o _).mono ?_;rintro e w1 ⟨rfl,hB⟩;have c0:=(hB.cell (p:=⟨w.heap.size,0,none⟩) (by simp)).trans (show _=some (Value.int .i64 (ne:Int)) by simp only[World.cell?];rw[heap_alloc_new];rfl);have c1:=(hB.cell (p:=⟨w.heap.size,1,none⟩) (by simp)).trans (show _=some (Value.int .i64 (nf:Int)) by simp only[World.cell?];rw[heap_alloc_new];rfl);have hl:w.heap.size<w1.heap.size:=Nat.lt_of_lt_of_le (by simp) hB.size;have HB:=vn a7 hB;clear hB;go_wp2_with fail
  refine q01 (fun w'=>w'.cell? ⟨w.heap.size,0,none⟩=some (.int .i64 (ne:Int))/\w'.cell? ⟨w.heap.size,1,none⟩=some (.int .i64 (nf:Int))) 9
   (.still 0 (.still 2 (.still 3 (.still 4 (.still 5 (.still 6 (.still 7 (.one 1 (.still 8 .done))))))))) (by kernel_rfl) (by kernel_rfl) (fun _ _ d _ _ h=>by cases d<;>exact h) ⟨c0,c1⟩ (fun hS0=>?_)
  obtain⟨a1,a2⟩:=HW.o
  iterate 7
   refine q02 (v:=?_) rfl (by rfl) ?_ ?_;rotate_left
   ·intro w a9;go_simp;with_reducible rfl
   simp only[Act.put,sa,sb,sc]
  refine q03 rfl (by rfl) (fun K hK=>?_);go_simp;refine(a6.o _).mono ?_;rintro e w' ⟨rfl,rfl⟩;go_wp2_with fail
  refine hK.out _ _ hS0 (fun a0=>?_);clear hK
  iterate 1
   refine q02 (v:=?_) rfl (by rfl) ?_ ?_;rotate_left
   ·intro w a9;go_simp;with_reducible rfl
   simp only[Act.put,sa,sb,sc]
  refine q0G rfl ?_;clear a0 hS0 a1 a2;have a8:Hid (Below w.heap.size w w1.drew):=vv (q04 HB.o);by_cases hgt:1+(ne:Int)+(nf:Int)<(L:Int)
  ·have a5:=vv (show q0b (ne:Int) (nf:Int) b=6 by rw[HE.o,if_pos hgt]);have t1:¬(L:Int)<=1+(ne:Int)+(nf:Int):=by omega
   go_wp2;go_ret
   exact⟨q0T a5.o.symm,a8.o⟩
  ·have a5:=vv (show q0b (ne:Int) (nf:Int) b=0 by rw[HE.o,if_neg hgt]);have t1:(L:Int)<=1+(ne:Int)+(nf:Int):=by omega
   clear hgt;go_wp2;go_ret
   exact⟨q0T a5.o.symm,a8.o⟩
theorem qac(x sz:Nat)(h:sz<=63)(hx:x<18446744073709551616):bits .and .u64 (x:Int) ((R3.tw sz-1:Nat):Int)=((x%2^sz:Nat):Int):=by
 have h1:2^sz<=2^63:=Nat.pow_le_pow_right (by omega) h;have h2:(2:Nat)^63=9223372036854775808:=rfl;unfold R3.tw;have key:(BitVec.ofInt 64 (x:Int) &&& BitVec.ofInt 64 ((2^sz-1:Nat):Int)).toNat=x%2^sz:=by
  have e1:(BitVec.ofInt 64 (x:Int)).toNat=x:=by rw[BitVec.toNat_ofInt];omega
  have e2:(BitVec.ofInt 64 ((2^sz-1:Nat):Int)).toNat=2^sz-1:=by rw[BitVec.toNat_ofInt];omega
  rw[BitVec.toNat_and,e1,e2,Nat.and_two_pow_sub_one_eq_mod]
 show IntKind.u64.wrap ((BitVec.ofInt 64 (x:Int) &&& BitVec.ofInt 64 ((2^sz-1:Nat):Int)).toNat:Nat)=_;have h3:x%2^sz<=x:=Nat.mod_le _ _;rw[key,IntKind.wrap_u64];omega
theorem take(p sz b:Nat)(w:World)(hs:sz<=63)(hp:p<=63)(hb:b<18446744073709551616):
  Calls Tryz.prog 227 #[.agg #[.int .i64 (p:Int),.int .i64 (sz:Int)],.int .u64 (b:Int)] w fun e w'=>e=.returned (.int .u64 ((b/2^p%2^sz:Nat):Int))/\Below w.heap.size w w':=by
 have HM:=vv fun w=>qdG sz w hs
 have hq:b/2^p<18446744073709551616:=Nat.lt_of_le_of_lt (Nat.div_le_self _ _) hb;have HA:=vv (qac (b/2^p) sz hs hq);have a0:=vv (q1K b p);have a1:(p:Int)<=63:=by omega
 clear hs hp hb hq;go_enter Tryz.func227,Tryz.ntmps227
 go_wp2_with fail
 refine(HM.o _).mono ?_;rintro e w' ⟨rfl,rfl⟩;go_wp2;go_ret
 exact⟨q0T (by rw[a0.o];exact HA.o),(Below.refl _ _).alloc lr _⟩
def q0L(E F b:Nat):Bool:=b/2^(F+E)%2==1
def q0f(E F b:Nat):Nat:=b/2^F%2^E
def q0u(F b:Nat):Nat:=b%2^F
abbrev q34(neg:Bool)(x f:Nat):Value:=.agg #[.bool neg,.int .i64 (x:Int),.int .u64 (f:Int)]
theorem blk3{w:World}{g:Nat}{t:TypeId}{v0 v1 v2:Value}(h:Blk w g t [v0,v1,v2]):w.cell? ⟨g,0,none⟩=some v0/\w.cell? ⟨g,1,none⟩=some v1/\w.cell? ⟨g,2,none⟩=some v2:=⟨h.cell 0,h.cell 1,h.cell 2⟩
theorem qag(E F:Int)(b:Nat)(w:World)(hb:b<18446744073709551616)(h:q0b E F b≠0):
  Calls Tryz.prog 128 #[fm E F,.int .u64 (b:Int)] w fun e w'=>e=.returned (.tuple #[q34 false 0 0,.int .i64 (q0b E F b)])/\Below w.heap.size w w':=by
 have HF:=vv fun w=>Fits E F b w hb
 obtain⟨q,hq⟩:=yx (q0b E F b);rw[<- hq] at HF h ⊢;have t1:(q != 0)=true:=by rw[bne_iff_ne];exact h
 obtain⟨w0,a0⟩:=yx ((w.alloc (.cells #[.int .i64 E,.int .i64 F] 23)).alloc (.cells #[.bool false,.int .i64 0,.int .u64 0] 101));have hB:Below w.heap.size w w0:=by rw[a0];exact((Below.refl _ _).alloc lr _).alloc (by simp) _
 have hP:Blk w0 (w.heap.size+1) 101 [.bool false,.int .i64 0,.int .u64 0]:=by
  rw[a0];have:=Blk.made (w.alloc (.cells #[.int .i64 E,.int .i64 F] 23)) 101 [.bool false,.int .i64 0,.int .u64 0]
  rwa [World.size_alloc] at this
 have HW:=vv a0;have HB:=vv hB;have HP:=vv hP;clear hq h hb a0 hB hP;go_enter Tryz.func128,Tryz.ntmps128
 go_wp2_with fail
 rw[<- HW.o];refine(HF.o _).mono ?_;rintro e w1 ⟨rfl,hB⟩;have a3:=vv (HP.o.below hB);have a1:=vn HB hB;clear hB;go_wp2_with (with_reducible refine q07 rfl 101 (.tmp 4) (.tmp 13) rfl (w.heap.size+1) [.bool false,.int .i64 0,.int .u64 0] rfl rfl 101 _ a3.o (by kernel_rfl) rfl rfl ?_)
 intro w8 hB a2;have a4:=vv (q0a a1.o a2 a1.o.size (Nat.le_succ _));obtain⟨k0,k1,k2⟩:=blk3 hB;have K:=vv (And.intro k0 (And.intro k1 k2));clear hB a2 k0 k1 k2;go_wp2;obtain⟨k0,k1,k2⟩:=K.o;exact bodyPost_ret (v:=.tuple #[q34 false 0 0,.int .i64 q]) (by simp [results,Tryz.results128,go_sem,k0,k1,k2,q34]) rfl ⟨rfl,a4.o⟩
theorem Split(E F b:Nat)(w:World)(h1:2<=E)(h2:E<=11)(h3:1<=F)(h4:F<=52)(hb:b<2^(1+E+F)):
  Calls Tryz.prog 128 #[fm E F,.int .u64 (b:Int)] w fun e w'=>e=.returned (.tuple #[q34 (q0L E F b) (q0f E F b) (q0u F b),.int .i64 0])/\Below w.heap.size w w':=by
 have a2:b<18446744073709551616:=Nat.lt_of_lt_of_le hb (by rw[show(18446744073709551616:Nat)=2^64 from rfl];exact Nat.pow_le_pow_right (by decide) (by omega));have b7:=q0t hb;have a5:q0b E F b=0:=by
  unfold q0b;rw[formOk_in h1 h2 h3 h4,if_pos rfl,if_neg (by omega)]
 have HF:=vv fun w=>Fits E F b w a2
 rw[a5] at HF;have b8:=vv fun w=>qcy E F w h2 h4
 have a8:=vv fun w=>take (F+E) 1 b w (by omega) (by omega) a2
 have b3:=vv fun w=>take F E b w (by omega) (by omega) a2
 have a9:=vv fun w=>take 0 F b w (by omega) (by omega) a2
 rw[show((F+E:Nat):Int)=(F:Int)+(E:Int) from Int.natCast_add _ _] at a8;simp only[Nat.pow_zero,Nat.div_one,Nat.pow_one] at a9 a8;obtain⟨x,hx⟩:=yx (q0f E F b);obtain⟨f,hf⟩:=yx (q0u F b);obtain⟨s,hs⟩:=yx (b/2^(F+E)%2);obtain⟨neg,a4⟩:=yx (q0L E F b);have b9:x<2^11:=by rw[hx];exact Nat.lt_of_lt_of_le (Nat.mod_lt _ (Nat.two_pow_pos _)) (Nat.pow_le_pow_right (by decide) h2)
 have c2:(x:Int)<=2047:=by omega
 have b0:IntKind.i64.wrap (x:Int)=(x:Int):=IntWalk.i64_in _ (by omega);have b1:((s:Int) != 0)=neg:=by
  rw[a4,hs];unfold q0L;rcases Nat.mod_two_eq_zero_or_one (b/2^(F+E)) with e|e<;>rw[e]<;>rfl
 rw[show b/2^F%2^E=x from hx.symm] at b3;rw[show b%2^F=f from hf.symm] at a9;rw[<- hs] at a8;rw[<- hx,<- hf,<- a4];have HX:=vv (And.intro b0 b1);obtain⟨w0,a6⟩:=yx ((w.alloc (.cells #[.int .i64 (E:Int),.int .i64 (F:Int)] 23)).alloc (.cells #[.bool false,.int .i64 0,.int .u64 0] 101));have hB:Below w.heap.size w w0:=by rw[a6];exact((Below.refl _ _).alloc lr _).alloc (by simp) _
 have hP:Blk w0 (w.heap.size+1) 101 [.bool false,.int .i64 0,.int .u64 0]:=by
  rw[a6];have:=Blk.made (w.alloc (.cells #[.int .i64 (E:Int),.int .i64 (F:Int)] 23)) 101 [.bool false,.int .i64 0,.int .u64 0]
  rwa [World.size_alloc] at this
 have hQ:Blk w0 w.heap.size 23 [.int .i64 (E:Int),.int .i64 (F:Int)]:=by
  rw[a6];exact(Blk.made w 23 [.int .i64 (E:Int),.int .i64 (F:Int)]).alloc _
 have HW:=vv a6;have HB:=vv hB;have HP:=vv hP;have HQ:=vv hQ;clear h1 h2 h3 h4 hb a2 b7 a5 hx hf hs a4 b9 c2 b0 b1 a6 hB hP hQ;go_enter Tryz.func128,Tryz.ntmps128
 go_wp2_with fail
 rw[<- HW.o];refine(HF.o _).mono ?_;rintro e w1 ⟨rfl,hB⟩;have c3:=vv (HP.o.below hB);have b2:=vv (HQ.o.below hB);have c4:=vn HB hB;have c0:=b2.o.cell 0;have c1:=b2.o.cell 1;have cl:=b2.o.lt;simp only[List.getElem?_cons_zero,List.getElem?_cons_succ] at c0 c1;clear hB;go_wp2_with fail
 refine(b8.o _).mono ?_;rintro e w2 ⟨rfl,hB⟩;have c5:=vv (c3.o.below hB);have c6:=vn c4 hB;have o2:=(Below.refl w2.heap.size w2).alloc (o:=.cells #[.int .i64 0,.int .i64 (F:Int),.int .i64 (F:Int),.int .i64 (E:Int),.int .i64 ((F:Int)+(E:Int)),.int .i64 1] 239) lr;have hL:=LayBox.made w2 (E:Int) (F:Int) 239;clear hB c0 c1 cl;go_wp2_with fail
 obtain⟨w3,b4⟩:=yx (w2.alloc (.cells #[.int .i64 0,.int .i64 (F:Int),.int .i64 (F:Int),.int .i64 (E:Int),.int .i64 ((F:Int)+(E:Int)),.int .i64 1] 239));rw[<- b4] at o2 hL ⊢;have a0:=vv hL;have HB:=vn c6 o2;have HP:=vv (c5.o.below o2);clear o2 hL b4;refine q01 (fun w'=>w'.cell? ⟨w2.heap.size,0,none⟩=some (.int .i64 0)/\w'.cell? ⟨w2.heap.size,1,none⟩=some (.int .i64 (F:Int))/\w'.cell? ⟨w2.heap.size,2,none⟩=some (.int .i64 (F:Int))/\w'.cell? ⟨w2.heap.size,3,none⟩=some (.int .i64 (E:Int))/\w'.cell? ⟨w2.heap.size,4,none⟩=some (.int .i64 ((F:Int)+(E:Int)))/\w'.cell? ⟨w2.heap.size,5,none⟩=some (.int .i64 1)) 14
  (.still 0 (.still 1 (.still 2 (.still 5 (.still 6 (.still 7 (.still 10 (.still 11 (.still 12 (.one 3 (.still 4 (.one 8 (.still 9 (.one 13 .done)))))))))))))) (by kernel_rfl) (by kernel_rfl) (fun _ _ d _ _ h=>by cases d<;>exact h) ⟨a0.o.c0,a0.o.c1,a0.o.c2,a0.o.c3,a0.o.c4,a0.o.c5⟩ (fun hS0=>?_)
 iterate 9
  refine q02 (v:=?_) rfl (by rfl) ?_ ?_;rotate_left
  ·intro w b5;go_simp;with_reducible rfl
  simp only[Act.put,sa,sb,sc]
 obtain⟨wd,a7⟩:=yx (w3.drew);have a0:Hid (LayBox wd w2.heap.size E F):=vv (by rw[a7];exact⟨a0.o.c0,a0.o.c1,a0.o.c2,a0.o.c3,a0.o.c4,a0.o.c5,a0.o.lt⟩);have HB:Hid (Below w.heap.size w wd):=vv (by rw[a7];exact q04 HB.o);have HP:Hid (Blk wd (w.heap.size+1) 101 [.bool false,.int .i64 0,.int .u64 0]):=vv (by rw[a7];exact HP.o);rw[<- a7] at hS0 ⊢;clear a7;refine q03 rfl (by rfl) (fun K hK=>?_);go_simp;refine(a8.o _).mono ?_;rintro e w4 ⟨rfl,a1⟩;have a0:=vv (a0.o.below a1);have HP:=vv (HP.o.below a1);have HB:=vn HB a1;clear a1;go_wp2_with fail
 refine hK.out _ _ ⟨a0.o.c0,a0.o.c1,a0.o.c2,a0.o.c3,a0.o.c4,a0.o.c5⟩ (fun a3=>?_);clear hK;have b1:=HX.o.2
 iterate 1
  refine q02 (v:=?_) rfl (by rfl) ?_ ?_;rotate_left
  ·intro w b5;go_simp;with_reducible rfl
  simp only[Act.put,sa,sb,sc]
 refine q03 rfl (by rfl) (fun K hK=>?_);go_simp;refine(b3.o _).mono ?_;rintro e w5 ⟨rfl,a1⟩;have a0:=vv (a0.o.below a1);have HP:=vv (HP.o.below a1);have HB:=vn HB a1;clear a1;go_wp2_with fail
 refine hK.out _ _ ⟨a0.o.c0,a0.o.c1,a0.o.c2,a0.o.c3,a0.o.c4,a0.o.c5⟩ (fun a3=>?_);clear hK;have b0:=HX.o.1
 iterate 1
  refine q02 (v:=?_) rfl (by rfl) ?_ ?_;rotate_left
  ·intro w b5;go_simp;with_reducible rfl
  simp only[Act.put,sa,sb,sc]
 refine q03 rfl (by rfl) (fun K hK=>?_);go_simp;refine(a9.o _).mono ?_;rintro e w6 ⟨rfl,a1⟩;have HP:=vv (HP.o.below a1);have a0:=vv (a0.o.below a1);have HB:=vn HB a1;clear a1;go_wp2_with fail
 refine hK.out _ _ ⟨a0.o.c0,a0.o.c1,a0.o.c2,a0.o.c3,a0.o.c4,a0.o.c5⟩ (fun a3=>?_);clear hK;refine q08 ?_;clear a3 hS0;go_wp2_with (with_reducible refine q07 rfl 101 (.tmp 4) (.tmp 31) rfl (w.heap.size+1) [.bool neg,.int .i64 (x:Int),.int .u64 (f:Int)] rfl rfl 101 _ HP.o (by kernel_rfl) rfl rfl ?_)
 intro w8 hB b6;have c7:=vv (q0a HB.o b6 HB.o.size (Nat.le_succ _));obtain⟨k0,k1,k2⟩:=blk3 hB;have K:=vv (And.intro k0 (And.intro k1 k2));clear hB b6 k0 k1 k2;go_wp2;obtain⟨k0,k1,k2⟩:=K.o;exact bodyPost_ret (v:=.tuple #[q34 neg x f,.int .i64 0]) (by simp [results,Tryz.results128,go_sem,k0,k1,k2,q34]) rfl ⟨rfl,c7.o⟩
def q1P(E x f:Nat):Nat:=if x=0 then(if f=0 then 1 else 2) else if x=R3.tw E-1 then(if f=0 then 4 else 5) else 3
theorem qaj(E F b:Nat)(w:World)(h1:2<=E)(h2:E<=11)(h3:1<=F)(h4:F<=52)(hb:b<2^(1+E+F)):
  Calls Tryz.prog 228 #[fm E F,.int .u64 (b:Int)] w fun e w'=>e=.returned (.tuple #[.int .u8 ((q1P E (q0f E F b) (q0u F b):Nat):Int),.int .i64 0])/\Below w.heap.size w w':=by
 have HF:=vv fun w=>Split E F b w h1 h2 h3 h4 hb
 have HM:=vv fun w=>qdG E w (by omega)
 have a3:q0f E F b<2^11:=Nat.lt_of_lt_of_le (Nat.mod_lt _ (Nat.two_pow_pos _)) (Nat.pow_le_pow_right (by decide) h2);have a4:3<=R3.tw E-1:=by have:=R3.tw_le h1;unfold R3.tw at *;omega
 obtain⟨x,hx⟩:=yx (q0f E F b);obtain⟨f,hf⟩:=yx (q0u F b);obtain⟨neg,a1⟩:=yx (q0L E F b);obtain⟨m,hm⟩:=yx (R3.tw E-1);have HC:Hid (q1P E x f=if x=0 then(if f=0 then 1 else 2) else if x=m then(if f=0 then 4 else 5) else 3):=vv (by unfold q1P;rw[hm]);rw[<- hx] at HF a3 ⊢;rw[<- hf] at HF ⊢;rw[<- a1] at HF;rw[<- hm] at HM a4;have a5:(x:Int)<=2047:=by omega
 have hB:Below w.heap.size w (w.alloc (.cells #[.int .i64 (E:Int),.int .i64 (F:Int)] 23)):=(Below.refl _ _).alloc lr _;have hQ:Blk (w.alloc (.cells #[.int .i64 (E:Int),.int .i64 (F:Int)] 23)) w.heap.size 23 [.int .i64 (E:Int),.int .i64 (F:Int)]:=Blk.made w 23 [.int .i64 (E:Int),.int .i64 (F:Int)];have HB:=vv hB;have HQ:=vv hQ;have a2:(x=0/\f=0)\/(x=0/\f≠0)\/(x≠0/\x=m/\f=0)\/(x≠0/\x=m/\f≠0)\/(x≠0/\x≠m):=by omega
 clear h1 h2 h3 h4 hb a3 hx hf a1 hm hB hQ;rcases a2 with ⟨a,c⟩|⟨a,c⟩|⟨a,c,d⟩|⟨a,c,d⟩|⟨a,c⟩
 ·have HR:Hid (q1P E x f=1):=vv (by rw[HC.o,if_pos a,if_pos c]);subst a c;go_enter Tryz.func228,Tryz.ntmps228
  go_wp2_with fail
  refine(HF.o _).mono ?_;rintro e w1 ⟨rfl,hB⟩;have a0:=vn HB hB;clear hB;go_wp2;go_ret2
  rw[HR.o];exact⟨rfl,a0.o.alloc a0.o.size _⟩
 ·have HR:Hid (q1P E x f=2):=vv (by rw[HC.o,if_pos a,if_neg c]);subst a;have t1:((f:Int)==0)=false:=by rw[beq_eq_false_iff_ne];omega
  clear c;go_enter Tryz.func228,Tryz.ntmps228
  go_wp2_with fail
  refine(HF.o _).mono ?_;rintro e w1 ⟨rfl,hB⟩;have a0:=vn HB hB;clear hB;go_wp2;go_ret2
  rw[HR.o];exact⟨rfl,a0.o.alloc a0.o.size _⟩
 ·have HR:Hid (q1P E x f=4):=vv (by rw[HC.o,if_neg a,if_pos c,if_pos d]);subst d;have t1:((x:Int)==0)=false:=by rw[beq_eq_false_iff_ne];omega
  have t2:((x:Int)==(m:Int))=true:=by rw[beq_iff_eq];omega
  clear a c;go_enter Tryz.func228,Tryz.ntmps228
  go_wp2_with fail
  refine(HF.o _).mono ?_;rintro e w1 ⟨rfl,hB⟩;have a0:=vn HB hB;have c0:=(HQ.o.below hB).cell 0;have cl:=(HQ.o.below hB).lt;simp only[List.getElem?_cons_zero,List.getElem?_cons_succ] at c0;clear hB;go_wp2_with fail
  refine(HM.o _).mono ?_;rintro e w' ⟨rfl,rfl⟩;go_wp2;go_ret2
  rw[HR.o];exact⟨rfl,a0.o.alloc a0.o.size _⟩
 ·have HR:Hid (q1P E x f=5):=vv (by rw[HC.o,if_neg a,if_pos c,if_neg d]);have t1:((x:Int)==0)=false:=by rw[beq_eq_false_iff_ne];omega
  have t2:((x:Int)==(m:Int))=true:=by rw[beq_iff_eq];omega
  have t3:((f:Int)==0)=false:=by rw[beq_eq_false_iff_ne];omega
  clear a c d;go_enter Tryz.func228,Tryz.ntmps228
  go_wp2_with fail
  refine(HF.o _).mono ?_;rintro e w1 ⟨rfl,hB⟩;have a0:=vn HB hB;have c0:=(HQ.o.below hB).cell 0;have cl:=(HQ.o.below hB).lt;simp only[List.getElem?_cons_zero,List.getElem?_cons_succ] at c0;clear hB;go_wp2_with fail
  refine(HM.o _).mono ?_;rintro e w' ⟨rfl,rfl⟩;go_wp2;go_ret2
  rw[HR.o];exact⟨rfl,a0.o.alloc a0.o.size _⟩
 ·have HR:Hid (q1P E x f=3):=vv (by rw[HC.o,if_neg a,if_neg c]);have t1:((x:Int)==0)=false:=by rw[beq_eq_false_iff_ne];omega
  have t2:((x:Int)==(m:Int))=false:=by rw[beq_eq_false_iff_ne];omega
  clear a c;go_enter Tryz.func228,Tryz.ntmps228
  go_wp2_with fail
  refine(HF.o _).mono ?_;rintro e w1 ⟨rfl,hB⟩;have a0:=vn HB hB;have c0:=(HQ.o.below hB).cell 0;have cl:=(HQ.o.below hB).lt;simp only[List.getElem?_cons_zero,List.getElem?_cons_succ] at c0;clear hB;go_wp2_with fail
  refine(HM.o _).mono ?_;rintro e w' ⟨rfl,rfl⟩;go_wp2;go_ret2
  rw[HR.o];exact⟨rfl,a0.o.alloc a0.o.size _⟩
end Go.Proofs.YtppgcnhlpnmieaaGreatDoor.Fms
namespace Go.Proofs.YtppgcnhlpnmieaaGreatDoor.Pnt
open Go Go.RowKit R5 Scn
theorem Of(n:Nat)(w:World)(hn:n<18446744073709551616):
  Calls Tryz.prog 70 #[.int .u64 (n:Int)] w fun e w'=>∃A m,e=.returned (q1u A m m)/\Rd w' A m m (toL n)/\Fr w.heap.size A/\Below w.heap.size w w':=by
 obtain⟨lo,a8⟩:=yx (n%4294967296);obtain⟨hi,a9⟩:=yx (n/4294967296);have h1:(n:Int)%4294967296=(lo:Int):=by omega
 have h2:(n:Int)/4294967296=(hi:Int):=by omega
 have h3:(hi:Int)%4294967296=(hi:Int):=by omega
 have hv:val [lo,hi]=n:=by simp [val];omega
 have a0:lo<4294967296:=by omega
 have a1:hi<4294967296:=by omega
 obtain⟨o1,o2⟩:=R1.two_words (w.alloc (.cells #[.slice none 0 0] 28)) lo hi a0 a1 34;have hs:(w.alloc (.cells #[.slice none 0 0] 28)).heap.size=w.heap.size+1:=by simp
 have hN:Blk (w.alloc (.cells #[.slice none 0 0] 28)) w.heap.size 28 [.slice none 0 0]:=Blk.made w 28 [.slice none 0 0];have hB:=(Below.refl w.heap.size w).alloc (o:=.cells #[.slice none 0 0] 28) lr;have HN:=vv (hN.below o2);have HB:=vv (hB.trans (o2.mono (by simp)));rw[hs] at o1;have HT:=vv (Nat_.trimmed (some ⟨w.heap.size+1,0,none⟩) 2 2 [lo,hi] _ o1);rw[hv] at HT;clear a8 a9 hn hv a0 a1 o1 o2 hs hN hB;go_enter Tryz.func70,Tryz.ntmps70
 go_wp2_with fail
 refine HT.o.mono ?_;rintro e w1 ⟨A',m,rfl,hR,hA,a3⟩;have a4:=vv (HN.o.below a3);have b0:=vn HB a3;have c0:=a4.o.cell 0;have fz:=a4.o.fz 0;have lt:=a4.o.lt;simp only[List.getElem?_cons_zero] at c0;have a7:Hid (Fr (w.heap.size+1) A'):=vv (fun a e=>by have:=hA a e;cases this;exact⟨lr,rfl⟩);have a5:Hid (Rd (w1.setCell ⟨w.heap.size,0,none⟩ (.slice A' m m)) A' m m (toL n)):=vv (hR.other _ _ _ (fun a e=>by have:=(a7.o a e).1;omega));have a6:Hid (Below w.heap.size w (w1.setCell ⟨w.heap.size,0,none⟩ (.slice A' m m))):=vv (b0.o.setCell lr _);have a2:(w1.setCell ⟨w.heap.size,0,none⟩ (.slice A' m m)).cell? ⟨w.heap.size,0,none⟩=some (.slice A' m m):=q0r c0;clear a3 hR hA;go_wp2;exact bodyPost_ret (v:=q1u A' m m) (by simp [results,Tryz.results70,go_sem,a2]) rfl ⟨A',m,rfl,a5.o,a7.o.mono (Nat.le_succ _),a6.o⟩
end Go.Proofs.YtppgcnhlpnmieaaGreatDoor.Pnt
namespace Go.Proofs.YtppgcnhlpnmieaaGreatDoor.Exa
open Go Go.RowKit R5 Scn
theorem q3J(A:Option Addr)(n c N:Nat)(w:World)(ha:Rd w A n c (toL N))(h0:0<N)(hs:Std w)(hn:n<=16384):
  Calls Tryz.prog 297 #[q1u A n c] w fun e w'=>e=.returned (.int .i64 ((tz N:Nat):Int))/\Below w.heap.size w w':=by
 have hb:Below w.heap.size w (w.alloc (.cells #[.slice A n c] 28)):=(Below.refl _ _).alloc lr _;have HB:=vv hb;have a8:(n:Int)<=16384:=by omega
 have a3:Hid (N<4294967296^n):=vv (by have:=ha.lt;rwa [q00] at this);have a1:0<n:=by
  rcases Nat.eq_zero_or_pos n with rfl|h
  ·have:=a3.o;rw[Nat.pow_zero] at this;omega
  ·exact h
 obtain⟨b,off,rfl,a9,a0⟩:=ha.cell a1;have HC:=vv a0;have HA:=vv ha;clear ha a0 hb;go_enter Tryz.func297,Tryz.ntmps297
 go_wp2;go_loop [3] (fun t=>∃k:Nat,k<n/\t=.int .i64 (32*(k:Int))/\N%4294967296^k=0) (fun t=>32*n-(intOf t).toNat)
 case atStart=>exact⟨0,a1,rfl,by rw[Nat.pow_zero,Nat.mod_one]⟩
 case round =>
  obtain⟨k,hk,rfl,hz⟩:=hrel;have HZ:=vv hz;clear hz;have hx:=HC.o k hk;have hl:=HA.o.nth_lt k;have a2:=vv (q0K N k);have b0:32*(k:Int)/32=(k:Int):=by omega
  have b1:(k:Int)<(n:Int):=by omega
  obtain⟨y,hy⟩:=yx (nth (toL N) k);rw[<- hy] at hx hl a2;by_cases h0:y=0
  ·have h1:((y:Int)==0)=true:=by rw[h0];rfl
   have HN:Hid (N%4294967296^(k+1)=0):=vv (by
    rw[Nat.pow_succ,Nat.mod_mul,HZ.o,<- a2.o,h0];simp)
   have a4:k+1<n:=by
    rcases Nat.lt_or_ge (k+1) n with h|h
    ·exact h
    ·exfalso
     have e:k+1=n:=by omega
     have:=HN.o;rw[e,Nat.mod_eq_of_lt a3.o] at this;omega
   clear h0 hy;go_wp2;go_round
   case rel=>exact⟨k+1,a4,by go_num,HN.o⟩
   case measure=>simp [intOf];omega
  ·have h1:((y:Int)==0)=false:=by rw[beq_eq_false_iff_ne];omega
   have HT:=vv (q69 HZ.o (by rw[<- a2.o];exact h0));have a5:Hid (tz y<=31):=vv (by
    have:=q0Y (Nat.pos_of_ne_zero h0);have h2:bl y<=32:=q0t (by omega);omega)
   have HE:=vv (qbw (Nat.pos_of_ne_zero h0) hl);have a6:=vv (qd9 y _ hl (Nat.pos_of_ne_zero h0) (hs.below HB.o));have HY:=vv hy;clear h0 hy;go_wp2_with fail
   refine a6.o.mono ?_;rintro e w' ⟨rfl,rfl⟩;rw[HE.o];have a7:=a5.o;go_wp2;go_ret
   exact⟨q0T (by rw[HT.o,<- a2.o];omega),HB.o⟩
def DyP(neg:Bool)(N:Nat)(x:Int)(w:World)(e:Ending)(w':World):Prop:=
 ∃A m,e=.returned (.tuple #[q2V neg A m m x,.int .i64 0])/\Rd w' A m m (toL N)/\Fr w.heap.size A/\Below w.heap.size w w'
theorem qdv(neg:Bool)(A:Option Addr)(c:Nat)(x:Int)(w:World)(ha:Rd w A 0 c (toL 0)):
  Calls Tryz.prog 229 #[.bool neg,q1u A 0 c,.int .i64 x] w (DyP false 0 0 w):=by
 obtain⟨w0,a0⟩:=yx ((w.alloc (.cells #[.slice A 0 c] 28)).alloc (.cells #[.bool false,.slice none 0 0,.int .i64 0] 30));have hb:Below w.heap.size w w0:=by rw[a0];exact((Below.refl _ _).alloc lr _).alloc (by simp) _
 have hQ:Blk w0 w.heap.size 28 [.slice A 0 c]:=by rw[a0];exact(Blk.made w 28 [.slice A 0 c]).alloc _
 have hR:Blk w0 (w.heap.size+1) 30 [.bool false,.slice none 0 0,.int .i64 0]:=by
  rw[a0];have:=Blk.made (w.alloc (.cells #[.slice A 0 c] 28)) 30 [.bool false,.slice none 0 0,.int .i64 0]
  rwa [World.size_alloc] at this
 have HC:=vv (Pnt.Check_ok (ha.below hb rfl) (Nat.zero_le _));have a3:=vv fun w=>qat A c w
 have HB:=vv hb;have HQ:=vv hQ;have HR:=vv hR;have HW:=vv a0;clear hb hQ hR a0 ha;go_enter Tryz.func229,Tryz.ntmps229
 go_wp2_with fail
 rw[<- HW.o];refine HC.o.mono ?_;rintro e w1 ⟨rfl,hB⟩;have a4:=vv (HR.o.below hB);have a5:=vn HB hB;have c0:=(HQ.o.below hB).cell 0;have cl:=(HQ.o.below hB).lt;simp only[List.getElem?_cons_zero] at c0;clear hB;go_wp2_with fail
 refine(a3.o _).mono ?_;rintro e w2 ⟨rfl,hB⟩;have a6:=vv (a4.o.below hB);have a1:=vn a5 hB;clear hB c0 cl;go_wp2_with (with_reducible refine q07 rfl 30 (.tmp 6) (.tmp 20) rfl (w.heap.size+1) [.bool false,.slice none 0 0,.int .i64 0] rfl rfl 30 _ a6.o (by kernel_rfl) rfl rfl ?_)
 intro w8 hB a2;have a7:=vv (q0a a1.o a2 a1.o.size (Nat.le_succ _));obtain⟨k0,k1,k2⟩:=Fms.blk3 hB;have K:=vv (And.intro k0 (And.intro k1 k2));clear hB a2 k0 k1 k2;go_wp2;obtain⟨k0,k1,k2⟩:=K.o;exact bodyPost_ret (v:=.tuple #[q2V false none 0 0 0,.int .i64 0]) (by simp [results,Tryz.results229,go_sem,k0,k1,k2]) rfl ⟨none,0,rfl,Rd.nil _,Fr.none_ _,a7.o⟩
theorem Make(neg:Bool)(A:Option Addr)(n c N:Nat)(x:Int)(w:World)(ha:Rd w A n c (toL N))(h0:0<N)(hs:Std w)(hn:n<=16384)(hx:-1073741824<=x)(hx2:x+(tz N:Int)<=1073741824):
  Calls Tryz.prog 229 #[.bool neg,q1u A n c,.int .i64 x] w (DyP neg (N/2^tz N) (x+(tz N:Int)) w):=by
 obtain⟨w0,a0⟩:=yx ((w.alloc (.cells #[.slice A n c] 28)).alloc (.cells #[.bool false,.slice none 0 0,.int .i64 0] 30));have hb:Below w.heap.size w w0:=by rw[a0];exact((Below.refl _ _).alloc lr _).alloc (by simp) _
 have hQ:Blk w0 w.heap.size 28 [.slice A n c]:=by rw[a0];exact(Blk.made w 28 [.slice A n c]).alloc _
 have hR:Blk w0 (w.heap.size+1) 30 [.bool false,.slice none 0 0,.int .i64 0]:=by
  rw[a0];have:=Blk.made (w.alloc (.cells #[.slice A n c] 28)) 30 [.bool false,.slice none 0 0,.int .i64 0]
  rwa [World.size_alloc] at this
 have HC:=vv (Pnt.Check_ok (ha.below hb rfl) hn);have HB:=vv hb;have HQ:=vv hQ;have HR:=vv hR;have HW:=vv a0;have a1:0<n:=by
  rcases Nat.eq_zero_or_pos n with rfl|h
  ·have:=ha.lt;rw[q00,Nat.pow_zero] at this;omega
  ·exact h
 have c2:bl N<=524288:=by
  have h:=ha.lt;rw[q00,q1J] at h;have:=q0t h;omega
 have b0:=q0Y h0;have c3:=vv fun w=>q6N A n c w a1
 have b1:=vv fun w' (h:Below w.heap.size w w')=>q3J A n c N w' (ha.below h rfl) h0 (hs.below h) hn
 have b2:=vv fun w' (h:Below w.heap.size w w')=>Pnt.Down A n c N (tz N) w' (ha.below h rfl) hn (by omega)
 obtain⟨z,hz⟩:=yx (tz N);rw[<- hz] at b1 b2 b0 hx2 ⊢;have c9:(z:Int)<=524288:=by omega
 have b3:=vv fun w=>far (x+(z:Int)) w
 have a2:Dec.farB (x+(z:Int))=false:=by unfold Dec.farB;rw[decide_eq_false (by omega),decide_eq_false (by omega)];rfl
 rw[a2] at b3;clear hb hQ hR a0 ha h0 hs a1 c2 b0 hz a2 hn;go_enter Tryz.func229,Tryz.ntmps229
 go_wp2_with fail
 rw[<- HW.o];refine HC.o.mono ?_;rintro e w1 ⟨rfl,hB⟩;have a4:=vv (HQ.o.below hB);have c4:=vv (HR.o.below hB);have c5:=vn HB hB;have c0:=a4.o.cell 0;have cl:=a4.o.lt;simp only[List.getElem?_cons_zero] at c0;clear hB;go_wp2_with fail
 refine(c3.o _).mono ?_;rintro e w2 ⟨rfl,hB⟩;have a5:=vv (a4.o.below hB);have c6:=vv (c4.o.below hB);have b4:=vn c5 hB;have c0:=a5.o.cell 0;have cl:=a5.o.lt;simp only[List.getElem?_cons_zero] at c0;clear hB;go_wp2_with fail
 refine(b1.o _ b4.o).mono ?_;rintro e w3 ⟨rfl,hB⟩;have b5:=vv (a5.o.below hB);have b6:=vv (c6.o.below hB);have a6:=vn b4 hB;have c0:=b5.o.cell 0;have cl:=b5.o.lt;simp only[List.getElem?_cons_zero] at c0;clear hB;go_wp2_with fail
 refine(b3.o _).mono ?_;rintro e w' ⟨rfl,rfl⟩;go_wp2_with fail
 refine(b2.o _ a6.o).mono ?_;rintro e w4 ⟨A4,m,rfl,b7,b8,hB⟩;have a3:Below w4.heap.size w4 (w4.alloc (.cells #[.slice A4 m m] 28)):=(Below.refl _ _).alloc lr _;have c7:=vv ((b6.o.below hB).below a3);have b9:=vv (a6.o.trans ((hB.trans (a3.mono hB.size)).mono a6.o.size));have a7:=vv (b7.below a3 rfl);have c1:Hid (Fr (w.heap.size+2) A4):=vv (b8.mono b6.o.lt);clear b7 b8 hB a3;go_wp2_with (with_reducible refine q07 rfl 30 (.tmp 6) (.tmp 52) rfl (w.heap.size+1) [.bool neg,.slice A4 m m,.int .i64 (x+(z:Int))] rfl rfl 30 _ c7.o (by kernel_rfl) rfl rfl ?_)
 intro w8 hB a8;have c8:=vv (q0a b9.o a8 b9.o.size (Nat.le_succ _));have a9:=vv (a7.o.only a8 (fun a e=>by have:=(c1.o a e).1;omega));obtain⟨k0,k1,k2⟩:=Fms.blk3 hB;have K:=vv (And.intro k0 (And.intro k1 k2));clear hB a8 k0 k1 k2;go_wp2;obtain⟨k0,k1,k2⟩:=K.o;exact bodyPost_ret (v:=.tuple #[q2V neg A4 m m (x+(z:Int)),.int .i64 0]) (by simp [results,Tryz.results229,go_sem,k0,k1,k2]) rfl ⟨A4,m,rfl,a9.o,c1.o.mono (by omega),c8.o⟩
end Go.Proofs.YtppgcnhlpnmieaaGreatDoor.Exa
namespace Go.Proofs.YtppgcnhlpnmieaaGreatDoor.Exa
open Go Go.RowKit R5 Scn Fms
def q0U(F x f:Nat):Nat:=if x=0 then f else f+2^F
def q1k(E F x:Nat):Int:=2-(2^(E-1):Nat)-F+(if x=0 then 0 else(x:Int)-1)
def qbH(neg:Bool)(M:Nat)(p:Int)(w:World)(e:Ending)(w':World):Prop:=
 if M=0 then DyP false 0 0 w e w' else DyP neg (M/2^tz M) (p+(tz M:Int)) w e w'
theorem Value(E F b:Nat)(w:World)(h1:2<=E)(h2:E<=11)(h3:1<=F)(h4:F<=52)(hb:b<2^(1+E+F))(hf:q0f E F b≠R3.tw E-1)(hs:Std w):
  Calls Tryz.prog 129 #[fm E F,.int .u64 (b:Int)] w (qbH (q0L E F b) (q0U F (q0f E F b) (q0u F b)) (q1k E F (q0f E F b)) w):=by
 have a4:=vv fun w=>Split E F b w h1 h2 h3 h4 hb
 have b5:=vv fun w=>qaj E F b w h1 h2 h3 h4 hb
 have d1:q0f E F b<2^11:=Nat.lt_of_lt_of_le (Nat.mod_lt _ (Nat.two_pow_pos _)) (Nat.pow_le_pow_right (by decide) h2);have c4:q0u F b<2^F:=Nat.mod_lt _ (Nat.two_pow_pos _);obtain⟨x,hx⟩:=yx (q0f E F b);obtain⟨f,d2⟩:=yx (q0u F b);obtain⟨neg,a5⟩:=yx (q0L E F b);rw[<- hx] at a4 b5 d1 hf ⊢;rw[<- d2] at a4 b5 c4 ⊢;rw[<- a5] at a4 ⊢;obtain⟨Po,a3⟩:=yx (qbH neg (q0U F x f) (q1k E F x) w);rw[<- a3];have a2:=vv a3;clear a3;have a6:2^F<=2^52:=Nat.pow_le_pow_right (by decide) h4;have a7:2^(E-1)<=2^10:=Nat.pow_le_pow_right (by decide) (by omega);obtain⟨P,hP⟩:=yx (2^(E-1));rw[<- hP] at a7;have g5:(x:Int)<=2047:=by omega
 have g6:(E:Int)<=11:=by omega
 have g7:(2:Int)<=(E:Int):=by omega
 have g8:(F:Int)<=52:=by omega
 have g9:(P:Int)<=1024:=by omega
 obtain⟨w0,a8⟩:=yx ((w.alloc (.cells #[.int .i64 (E:Int),.int .i64 (F:Int)] 23)).alloc (.cells #[.bool false,.slice none 0 0,.int .i64 0] 30));have hB:Below w.heap.size w w0:=by rw[a8];exact((Below.refl _ _).alloc lr _).alloc (by simp) _
 have hR:Blk w0 (w.heap.size+1) 30 [.bool false,.slice none 0 0,.int .i64 0]:=by
  rw[a8];have:=Blk.made (w.alloc (.cells #[.int .i64 (E:Int),.int .i64 (F:Int)] 23)) 30 [.bool false,.slice none 0 0,.int .i64 0]
  rwa [World.size_alloc] at this
 have hQ:Blk w0 w.heap.size 23 [.int .i64 (E:Int),.int .i64 (F:Int)]:=by
  rw[a8];exact(Blk.made w 23 [.int .i64 (E:Int),.int .i64 (F:Int)]).alloc _
 have HW:=vv a8;have HB:=vv hB;have HR:=vv hR;have HQ:=vv hQ;have HS:=vv hs;have b6:IntKind.i64.wrap ((E:Int)-1)=(E:Int)-1:=IntWalk.i64_in _ (by omega);have a1:IntKind.i64.wrap (2-(P:Int))=2-(P:Int):=IntWalk.i64_in _ (by omega);have a9:IntKind.i64.wrap (2-(P:Int)-(F:Int))=2-(P:Int)-(F:Int):=IntWalk.i64_in _ (by omega);have d3:=vv (And.intro b6 (And.intro a1 a9));have HX:=vv hx;have b0:=vv hP;have b7:=vv (And.intro hf (And.intro c4 a6));have HH:=vv (And.intro h1 (And.intro h2 (And.intro h3 h4)));clear hx d2 a5 hb a8 hB hR hQ hs b6 a1 a9 hP h1 h2 h3 h4 hf c4 a6 d1 a7;go_enter Tryz.func129,Tryz.ntmps129
 go_wp2_with fail
 rw[<- HW.o];refine(a4.o _).mono ?_;rintro e w1 ⟨rfl,hB⟩;have b1:Below w1.heap.size w1 (w1.alloc (.cells #[.bool neg,.int .i64 (x:Int),.int .u64 (f:Int)] 101)):=(Below.refl _ _).alloc lr _;obtain⟨w2,a1⟩:=yx (w1.alloc (.cells #[.bool neg,.int .i64 (x:Int),.int .u64 (f:Int)] 101));have d4:Blk w2 w1.heap.size 101 [.bool neg,.int .i64 (x:Int),.int .u64 (f:Int)]:=by rw[a1];exact Blk.made w1 101 [.bool neg,.int .i64 (x:Int),.int .u64 (f:Int)]
 rw[<- a1] at b1;have f5:=vv a1;have d5:=vv d4;have d6:=vv ((HR.o.below hB).below b1);have d7:=vv ((HQ.o.below hB).below b1);have d8:=vv (HB.o.trans ((hB.trans (b1.mono hB.size)).mono HB.o.size));have c0:=(HQ.o.below hB).cell 0;have c1:=(HQ.o.below hB).cell 1;have cl:=(HQ.o.below hB).lt;simp only[List.getElem?_cons_zero,List.getElem?_cons_succ] at c0 c1;clear hB b1 a1 d4;go_wp2_with fail
 rw[<- f5.o];refine(b5.o _).mono ?_;rintro e w3 ⟨rfl,hB⟩;have b8:=vv (d5.o.below hB);have d9:=vv (d6.o.below hB);have b2:=vv (d7.o.below hB);have e0:=vn d8 hB;obtain⟨p0,p1,p2⟩:=blk3 b8.o;have c0:=b2.o.cell 0;have c1:=b2.o.cell 1;have cl:=b2.o.lt;have pl:=b8.o.lt;simp only[List.getElem?_cons_zero,List.getElem?_cons_succ] at c0 c1;clear hB;go_wp2_with fail
 refine q01 (fun w'=>w'.cell? ⟨w.heap.size,0,none⟩=some (.int .i64 (E:Int))/\w'.cell? ⟨w.heap.size,1,none⟩=some (.int .i64 (F:Int))/\w'.cell? ⟨w1.heap.size,2,none⟩=some (.int .u64 (f:Int))) 12
  (.still 0 (.still 1 (.still 2 (.still 3 (.still 4 (.still 5 (.still 6 (.still 7 (.still 8 (.still 9 (.still 10 (.still 11 .done)))))))))))) (by kernel_rfl) (by kernel_rfl) (fun _ _ d _ _ h=>by cases d<;>exact h) ⟨c0,c1,p2⟩ (fun hS0=>?_)
 obtain⟨b6,a1,a9⟩:=d3.o
 iterate 12
  refine q02 (v:=?_) rfl (by rfl) ?_ ?_;rotate_left
  ·intro w e3;go_simp;with_reducible rfl
  simp only[Act.put,sa,sb,sc]
 refine q0G rfl ?_;have hp:IntKind.i64.wrap ((2:Int)^(E-1))=(P:Int):=by
  rw[show((2:Int)^(E-1))=((2^(E-1):Nat):Int) by simp,<- b0.o];exact IntWalk.i64_in _ (by omega)
 rw[hp,a1,a9];clear b6 a1 a9 hp d3 hS0 c0 c1 cl pl p0 p1 p2;obtain⟨B,c5⟩:=yx (2-(P:Int)-(F:Int));have i0:-2000<=B:=by omega
 have i1:B<=2:=by omega
 rw[<- c5];have b3:=vv c5;have b9:=vv (b8.o.below (q04 (Below.refl _ _)));have e4:=vv (d9.o.below (q04 (Below.refl _ _)));have c2:=vv (b2.o.below (q04 (Below.refl _ _)));have c3:Hid (Below w.heap.size w w3.drew):=vv (q04 e0.o);obtain⟨w4,e5⟩:=yx (w3.drew);rw[<- e5] at b9 e4 c2 c3 ⊢;clear e5 c5 b8 d9 b2 e0 d5 d6 d7 d8 HR HQ HB;obtain⟨p0,p1,p2⟩:=blk3 b9.o;have c0:=c2.o.cell 0;have c1:=c2.o.cell 1;have cl:=c2.o.lt;have pl:=b9.o.lt;simp only[List.getElem?_cons_zero,List.getElem?_cons_succ] at c0 c1;obtain⟨c,hc⟩:=yx (q1P E x f);rw[<- hc];have f6:(x=0/\f=0/\c=1)\/(x=0/\f≠0/\c=2)\/(x≠0/\c=3):=by
  have:=b7.o.1;rw[hc];unfold q1P;by_cases h:x=0
  ·by_cases h':f=0
   ·exact Or.inl ⟨h,h',by rw[if_pos h,if_pos h']⟩
   ·exact Or.inr (Or.inl ⟨h,h',by rw[if_pos h,if_neg h']⟩)
  ·exact Or.inr (Or.inr ⟨h,by rw[if_neg h,if_neg this]⟩)
 clear hc;obtain⟨M,hM⟩:=yx (q0U F x f);obtain⟨p,hp⟩:=yx (q1k E F x);have hV:M<2^53 /\ -2000<=p/\p<=2050:=by
  have h:=b7.o;unfold q0U at hM;unfold q1k at hp;rw[<- b0.o,<- b3.o] at hp;split at hM
  next e=>rw[if_pos e] at hp;omega
  next e=>rw[if_neg e] at hp;omega
 rcases f6 with ⟨a0,c6,rfl⟩|⟨a0,c6,rfl⟩|⟨a0,rfl⟩
 case' inr.inr =>
  have h1:IntKind.i64.wrap ((x:Int)-1)=(x:Int)-1:=IntWalk.i64_in _ (by omega);have h2:IntKind.i64.wrap (B+((x:Int)-1))=p:=by
   rw[hp];unfold q1k;rw[if_neg a0,<- b0.o,<- b3.o];exact IntWalk.i64_in _ (by omega)
  have H3:Hid (IntKind.u64.wrap ((2:Int)^F)=((2^F:Nat):Int)):=vv (R5.wu_pow (by omega));have e6:Hid (bits .or .u64 (f:Int) ((2^F:Nat):Int)=(M:Int)):=vv (by
   have h:=b7.o;rw[u64_or_nat _ _ (by omega) (by omega),hM];unfold q0U;rw[if_neg a0,Nat.or_comm];have h:=Nat.two_pow_add_eq_or_of_lt (i:=F) (b:=f) (by omega) 1;rw[Nat.mul_one] at h;rw[<- h,Nat.add_comm])
  clear a0;have HM:=vv hM;have HP:=vv hp;have HV:=vv hV;clear hM hp hV;go_wp2_with fail
  rw[H3.o,e6.o];clear h1 h2 H3 e6
 case' inl =>
  have e1:f=M:=by rw[hM];unfold q0U;rw[if_pos a0]
  have e2:B=p:=by rw[hp];unfold q1k;rw[if_pos a0,b3.o,b0.o];omega
  rw[e1,e2];clear a0 c6;have HM:=vv hM;have HP:=vv hp;have HV:=vv hV;clear hM hp hV e1 e2;go_wp2_with fail
 case' inr.inl =>
  have e1:f=M:=by rw[hM];unfold q0U;rw[if_pos a0]
  have e2:B=p:=by rw[hp];unfold q1k;rw[if_pos a0,b3.o,b0.o];omega
  rw[e1,e2];clear a0 c6;have HM:=vv hM;have HP:=vv hp;have HV:=vv hV;clear hM hp hV e1 e2;go_wp2_with fail
 all_goals
  have a2:Hid (∀e w',qbH neg M p w e w'->Po e w'):=vv (by rw[a2.o,<- HM.o,<- HP.o];exact fun _ _ h=>h);have f7:=vv fun w=>Pnt.Of M w (by have:=HV.o.1;omega)
  have f8:=vv (HS.o.below c3.o);clear c0 c1 cl p1 p2 HP HX b7 b3 HM b5 a4;refine q01 (fun w'=>w'.cell? ⟨w1.heap.size,0,none⟩=some (.bool neg)) 8
   (.still 0 (.still 1 (.still 2 (.still 4 (.one 3 (.one 5 (.still 6 (.still 7 .done)))))))) (by kernel_rfl) (by kernel_rfl) (fun _ _ d _ _ h=>by cases d<;>exact h) p0 (fun hS0=>?_)
  iterate 4
   refine q02 (v:=?_) rfl (by rfl) ?_ ?_;rotate_left
   ·intro w e3;go_simp;with_reducible rfl
   simp only[Act.put,sa,sb,sc]
  refine q03 rfl (by rfl) (fun K hK=>?_);go_simp;refine(f7.o _).mono ?_;rintro e w5 ⟨A,m,rfl,hA,hF,hB⟩;have hB:Below w4.heap.size w4 w5:=⟨hB.os,hB.tape,hB.output,hB.size,hB.block⟩;have e7:=vv (b9.o.below hB);have e8:=vv (e4.o.below hB);have f9:=vn c3 hB;have c7:=vv (f8.o.below hB);have i2:=vv (hF.mono (Nat.le_trans c3.o.size lr));have e9:=vv hA;clear hB hF hA;go_wp2_with fail
  refine hK.out _ _ (e7.o.cell 0) (fun b4=>?_);clear hK;have c8:Hid (∃ng N2 x2,Calls Tryz.prog 229 #[.bool neg,q1u A m m,.int .i64 p] w5 (DyP ng N2 x2 w5)/\∀e w',DyP ng N2 x2 w e w'->Po e w'):=vv (by
   have hA:=e9.o;have hm:m<=2:=hA.bound (by have:=HV.o.1;omega);by_cases h0:M=0
   ·refine⟨false,0,0,?_,fun e w' h=>a2.o e w' (by unfold qbH;rw[if_pos h0];exact h)⟩;rw[h0,q32] at hA;have:m=0:=hA.len.symm;subst this;exact qdv neg A 0 p w5 (by rw[q32];exact hA)
   ·have ht:=q0Y (Nat.pos_of_ne_zero h0);have hb:=q0t HV.o.1;have hv:=HV.o;exact⟨neg,_,_,Make neg A m m M p w5 hA (Nat.pos_of_ne_zero h0) c7.o (by omega) (by omega) (by omega),fun e w' h=>a2.o e w' (by unfold qbH;rw[if_neg h0];exact h)⟩)
  obtain⟨ng,N2,x2,f0,a3⟩:=c8.o;have c8:=vv f0;have g0:=vv a3;clear f0 a3 e9 HV;refine q03 rfl (by rfl) (fun K hK=>?_);go_simp;refine c8.o.mono ?_;rintro e w6 ⟨A6,m6,rfl,f1,f2,hB⟩;have g1:=vv (e7.o.below hB);have g2:=vv (e8.o.below hB);have f3:=vn f9 hB;have f4:=vv (f2.mono e8.o.lt);have g3:=vv f1;clear hB f2 f1;go_wp2_with fail
  refine hK.out _ _ (g1.o.cell 0) (fun b4=>?_);clear hK
  iterate 2
   refine q02 (v:=?_) rfl (by rfl) ?_ ?_;rotate_left
   ·intro w e3;go_simp;with_reducible rfl
   simp only[Act.put,sa,sb,sc]
  refine q08 ?_;simp only[List.drop_succ_cons,List.drop_zero];go_wp2_with (with_reducible refine q07 rfl 30 (.tmp 4) (.tmp 63) rfl (w.heap.size+1) [.bool ng,.slice A6 m6 m6,.int .i64 x2] rfl rfl 30 _ g2.o (by kernel_rfl) rfl rfl ?_)
  all_goals
   intro w8 hB c9;have g4:=vv (q0a f3.o c9 f3.o.size (Nat.le_succ _));have d0:=vv (g3.o.only c9 (fun a e=>by have:=(f4.o a e).1;omega));obtain⟨k0,k1,k2⟩:=Fms.blk3 hB;have K:=vv (And.intro k0 (And.intro k1 k2));clear hB c9 k0 k1 k2;go_wp2;obtain⟨k0,k1,k2⟩:=K.o;exact bodyPost_ret (v:=.tuple #[q2V ng A6 m6 m6 x2,.int .i64 0]) (by simp [results,Tryz.results129,go_sem,k0,k1,k2]) rfl (g0.o _ _ ⟨A6,m6,rfl,d0.o,f4.o.mono (by omega),g4.o⟩)
end Go.Proofs.YtppgcnhlpnmieaaGreatDoor.Exa
namespace Go.Proofs.YtppgcnhlpnmieaaGreatDoor.R2
open Go Go.RowKit B
theorem IntW(A:Option Addr)(n c:Nat)(xs:List Nat)(w:World)(hr:Rd w A n c xs):
  Calls Tryz.prog 78 #[.agg #[.slice A n c]] w (q1d (val xs:Int) w):=by
 have a1:Below w.heap.size w (w.alloc (.cells #[.slice A n c] 28)):=(Below.refl _ w).alloc lr _;have a3:=vv a1;have HR:=vv hr;clear hr a1;go_enter Tryz.func78,Tryz.ntmps78
 go_wp2_with fail
 have a0:=((Below.refl w.heap.size w).alloc (o:=.cells #[.slice A n c] 28) lr).alloc (o:=.cells #[.bool false,.slice none 0 0] 107) (by simp);have hZ:IntAt ((w.alloc (.cells #[.slice A n c] 28)).alloc (.cells #[.bool false,.slice none 0 0] 107)) (w.heap.size+1) 0 0:=by
  have h:=IntAt.zero (w.alloc (.cells #[.slice A n c] 28)) 107
  rwa [World.size_alloc] at h
 refine(B.SetWords (w.heap.size+1) 0 0 A n c xs _ hZ (HR.o.below a0 rfl)).mono ?_;rintro e w1 ⟨rfl,hI,hF⟩;have HI:=vv hI;have HF:=vv hF;have a2:=vv a0;clear hI hF a0;go_wp2;go_ret
 exact⟨_,rfl,by simp,HI.o,HF.o.below a2.o (by simp;omega) (by simp)⟩
end Go.Proofs.YtppgcnhlpnmieaaGreatDoor.R2
