/- Lemmas. -/
import Derived.Test.YtcdimmblnbkjjaaGreatDoorPartBD
import Derived.Test.YtcdimmblnbkjjaaGreatDoorPartAX
import Derived.Deep.MidRow
import Derived.Test.YtcdimmblnbkjjaaGreatDoorPartAK
import Derived.Test.YtcdimmblnbkjjaaGreatDoorPartAW
import Derived.Test.YtcdimmblnbkjjaaGreatDoorPartAO
import Derived.Test.YtcdimmblnbkjjaaGreatDoorPartAS
set_option linter.all false
set_option maxRecDepth 100000
namespace Go.Proofs.YtcdimmblnbkjjaaGreatDoor
open Go Go.RowKit
theorem Fm.grown{g o:Nat}{w w':World}(h:Fm g o w w'):w.grownBy w' (some g):=⟨h.os,h.tape,h.output,h.size,fun i hi hne=>h.block i hi (fun e=>hne (by rw[e]))⟩
end Go.Proofs.YtcdimmblnbkjjaaGreatDoor
namespace Go.Proofs.YtcdimmblnbkjjaaGreatDoor.Scn
open Go Go.RowKit R5
theorem IntAt.of_blk{w:World}{g:Nat}{t:TypeId}(h:Blk w g t [.bool false,.slice none 0 0]):IntAt w g 0 0:=
 ⟨h.lt,⟨false,h.cell 0⟩,h.fz,none,0,0,h.cell 0,h.cell 1,by
  have:toL (0:Int).natAbs=[]:=rfl;rw[this];exact Rd.nil _,fun a e=>by cases e⟩
theorem Blk.alloc{w:World}{g:Nat}{t:TypeId}{cs:List Value}(h:Blk w g t cs)(o:Obj):Blk (w.alloc o) g t cs:=h.below ((Below.refl _ _).alloc lr _)
theorem Blk.set{w:World}{g:Nat}{t:TypeId}{cs:List Value}(h:Blk w g t cs)(j:Nat)(v:Value):Blk (w.setCell ⟨g,j,none⟩ v) g t (cs.set j v):=by
 unfold Blk;have:w.heap[g]?=some (.cells cs.toArray t (0,0)):=h;simp [World.setCell,Array.getElem?_modify,this]
theorem q0x{P:Program}{ops:Array Oper}{rest:List Oper}{o:Oper}{a:Act}{w:World}{Q:Exit->Act->World->Prop}(hgd:o.guard=none)(ty:TypeId)(x:Operand)(ho:o.op=.load ty x)
  (g:Nat) (hx:a.eval x=.pointer (some ⟨g,0,none⟩)) (t:TypeId) (cs:List Value) (d:TypeDesc) (hg:Blk w g t cs)
  (hu:P.underlying ty=some d) (hd:(match d with|.struct _|.array _ _=>true|_=>false)=true) (hi:(P.info? ty).map (·.size)=some cs.length)
  (h:wpList P ops Q rest (a.put o.dst (.agg cs.toArray)) w):wpList P ops Q (o::rest) a w:=
 wpList_load_row hgd ty x ho g hx t cs.toArray (0,0) d hg hu hd (by simpa using hi) h
theorem q2g{P:Program}{ops:Array Oper}{rest:List Oper}{op:Oper}{a:Act}{w:World}{Q:Exit->Act->World->Prop}(hgd:op.guard=none)(ty:TypeId)(x y:Operand)(ho:op.op=.store ty x y)
  (b o:Nat) (v0 v1 v2:Value) (hx:a.eval x=.pointer (some ⟨b,o,none⟩)) (hy:a.eval y=.agg #[v0,v1,v2])
  (t:TypeId) (cs:List Value) (hg:Blk w b t cs) (hl:o+3<=cs.length) (hi:(P.info? ty).map (·.size)=some 3) (h1:v0.oneCell'=true/\v1.oneCell'=true/\v2.oneCell'=true)
  (h:∀w',Blk w' b t (((cs.set o v0).set (o+1) v1).set (o+2) v2)->w.grownBy w' (some b)->wpList P ops Q rest (a.put op.dst undef) w'):wpList P ops Q (op::rest) a w:=by
 refine wpList_store_mid hgd ty x y ho b o #[v0,v1,v2] hx hy (fun j hj=>⟨?_,hg.fz _⟩) hi (by simp [h1]) (h _ ?_ ?_)
 ·rw[hg.cell,List.getElem?_eq_getElem (by simp at hj;omega)];rfl
 ·exact((hg.set o v0).set (o+1) v1).set (o+2) v2
 ·exact q07 (q07 (q07 (World.grownBy.refl w (some b)) (p:=⟨b,o,none⟩) (.inl rfl) v0) (p:=⟨b,o+1,none⟩) (.inl rfl) v1) (p:=⟨b,o+2,none⟩) (.inl rfl) v2
def q4x(L:List Nat)(k:Nat):List Nat:=(L.take k).map A.fig++L.drop k
theorem q7c(L:List Nat):q4x L L.length=L.map A.fig:=by unfold q4x;rw[List.take_length,List.drop_length,List.append_nil]
theorem q7b(L:List Nat)(k:Nat)(h:k<L.length):nth (q4x L k) k=nth L k:=by
 unfold q4x nth;rw[List.getD_eq_getElem?_getD,List.getD_eq_getElem?_getD,List.getElem?_append_right (by simp;omega),List.length_map,List.length_take,Nat.min_eq_left (by omega),Nat.sub_self,List.getElem?_drop,Nat.add_zero]
theorem q7a(L:List Nat)(k:Nat)(h:k<L.length):(q4x L k).set k (A.fig (nth L k))=q4x L (k+1):=by
 unfold q4x;rw[q2v L k h,List.map_append,List.map_singleton,List.set_append_right _ _ (by simp;omega),List.length_map,List.length_take,Nat.min_eq_left (by omega),Nat.sub_self,List.append_assoc];congr 1
 rw[<- List.getElem_cons_drop h]
 rfl
theorem q95{d:Nat}(h:d<16):A.fig d<256:=by unfold A.fig;split<;>omega
theorem q8p{L:List Nat}(h:∀d∈L,d<16):A.Hexs (txt (L.map A.fig)) L:=by
 have hs:(txt (L.map A.fig)).size=L.length:=by show(List.toArray _).size=_;simp
 refine⟨hs,fun i hi=>?_,fun i=>?_⟩
 ·have a0:i<L.length:=by omega
  have e:(txt (L.map A.fig))[i]'hi=UInt8.ofNat (A.fig L[i]):=by
   show((L.map A.fig).map UInt8.ofNat).toArray[i]'_=_;simp
  rw[e,UInt8.toNat_ofNat',Nat.mod_eq_of_lt (q95 (h _ (List.getElem_mem a0))),List.getD_eq_getElem?_getD,List.getElem?_eq_getElem a0];rfl
 ·rw[List.getD_eq_getElem?_getD];rcases Nat.lt_or_ge i L.length with hi|hi
  ·rw[List.getElem?_eq_getElem hi];exact h _ (List.getElem_mem hi)
  ·rw[List.getElem?_eq_none hi];decide
def qbY:ByteArray:=⟨#[48,49,50,51,52,53,54,55,56,57,97,98,99,100,101,102]⟩
theorem q9Y:∀d:Fin 16,∃h:d.val<qbY.size,(qbY[d.val]'h).toNat=A.fig d.val:=by decide
def q9d(b:Nat)(L:List Nat)(v:St)(x:Value)(B Z:Nat)(w:World)(i:Value)(wr:World):Prop:=
 ∃q:Nat,q<=L.length/\i=.int .i64 (q:Int)/\wr.ownsRow B 5 1 x L.length (u8s (q4x L q))/\ScAt wr b v/\w.grownBy wr (some b)/\Blk wr w.heap.size 33 q1y/\Blk wr Z 143 [.bool false,.slice none 0 0]/\B<=wr.heap.size
set_option maxHeartbeats 4000000 in
theorem hex(b:Nat)(s:St)(neg:Bool)(w:World)(h:ScAt w b s)(hg:Bg w):
  Calls Tryz.prog 177 #[.pointer (some ⟨b,0,none⟩),.bool neg] w (qbF b (s.hex neg).1 (s.hex neg).2 w):=by
 obtain⟨L,k,u,hm⟩:∃L k u,s.mantissa q14=(L,k,u):=⟨_,_,_,rfl⟩;obtain⟨x,v,hx⟩:∃x v,u.exponent [112]=(x,v):=⟨_,_,rfl⟩;have c9:=q3k u [112];rw[hx] at c9
 try dsimp only at c9
 have HE:Hid (s.hex neg=(if A.wv L=0 then⟨2,neg,false,[],0,false,0,0,0⟩ else⟨2,neg,false,[],0,neg,A.wv L/2^tz (A.wv L),q7w (x-4*k+tz (A.wv L)),0⟩,v)):=vv (by
  unfold St.hex;rw[hm];dsimp only;rw[hx]
  rfl)
 have HX:=vv c9;have HM:=vv hm;have m1:=vv hx;have HH:=vv h;have HG:=vv hg;have HL:=vv h.lt;have d0:=vv fun w h hg=>mantissa 227 q14 q4v b s w h hg
 rw[hm] at d0;replace d0:Hid (∀w,ScAt w b s->Bg w->Calls Tryz.prog 226 #[.pointer (some ⟨b,0,none⟩),.func (.func 227) #[] #[]] w (q1A b L k u w)):=d0;have d1:=vv fun w h hg=>exponent b u ⟨#[112]⟩ w h hg (by decide)
 rw[show(⟨#[112]⟩:ByteArray).data.toList=[112] from rfl,hx] at d1;replace d1:Hid (∀w,ScAt w b u->Bg w->Calls Tryz.prog 228 #[.pointer (some ⟨b,0,none⟩),.string ⟨#[112]⟩] w (ScP b v (.int .i64 x) w)):=d1;clear hm hx c9 h hg;go_enter Tryz.func177,Tryz.ntmps177
 go_wp2_with fail
 obtain⟨w0,a9⟩:=yx (w.alloc (.cells #[.int .u8 0,.bool false,.bool false,.string ⟨#[]⟩,.int .i64 0,.bool false,.slice none 0 0,.int .i64 0,.int .u64 0] 33));rw[<- a9];have d6:w.grownBy w0 (some b):=by rw[a9];exact q0n (World.grownBy.refl w _) _
 have j1:Hid (Blk w0 w.heap.size 33 q1y):=vv (by rw[a9];exact Blk.made w _ q1y);have b3:ScAt w0 b s:=HH.o.grown (row:=none) (by rw[a9];exact q0n (World.grownBy.refl w _) _) (fun k e=>by cases e);have b0:Hid (w0.heap.size=w.heap.size+1):=vv (by rw[a9];simp);have j2:=vv d6;have b4:Hid (b≠w.heap.size):=vv (by have:=HL.o;omega);have j3:=vv (d0.o w0 b3 (HG.o.grown d6 HH.o));clear d6 b3 a9;refine j3.o.mono ?_;rintro e w1 ⟨y,rfl,a0,a6,a1,m2,hk,f4⟩;have b5:=vv a0;have j4:=vv (j1.o.grown a1 (fun e=>b4.o (by injection e)));have f5:=vv (q02 j2.o a1);have d7:=vv f4;have j5:=vv (d1.o w1 a6 (HG.o.grown f5.o HH.o));have m3:=a1.size;clear a0 a6 a1 f4;go_wp2_with fail
 refine j5.o.mono ?_;rintro e w2 ⟨rfl,a6,a1⟩;obtain⟨Aq,cap,hy⟩:=q18 b5.o;subst hy;have j6:=HX.o.1;have j7:=HX.o.2;have m4:(k:Int)<=65536:=by omega
 have m5:(L.length:Int)<=131072:=by omega
 have m6:=a1.size;obtain⟨w3,d2⟩:=yx (w2.alloc (.cells #[.bool false,.slice none 0 0] 143));have b6:=vv (q0J b5.o a1 (by have:=b0.o;have:=HL.o;omega));have j8:Hid (∀g,Aq=some ⟨g,0,none⟩->g<w2.heap.size):=vv (fun g e=>by
  subst e;rcases b6.o.2 with ⟨h,_⟩|⟨g',cap',cur,hv,_,hg,_⟩
  ·cases h
  ·cases hv;exact(Array.getElem?_eq_some_iff.1 hg).1)
 have b1:Below w2.heap.size w2 w3:=by rw[d2];exact(Below.refl _ _).alloc lr _
 have f6:Hid (q9d b L v (.slice Aq L.length cap) w0.heap.size w2.heap.size w (.int .i64 0) w3):=vv ⟨0,Nat.zero_le _,rfl,q1h b6.o (fun g _ hs=>b1.block g hs),a6.below b1 a6.lt,q02 (q02 f5.o a1) (q0j b1 _),(j4.o.grown a1 (fun e=>b4.o (by injection e))).below b1,by rw[d2];exact Blk.made w2 _ [.bool false,.slice none 0 0],by have:=b1.size;omega⟩;have j9:=vv d2;clear a6 a1 b1 d2;go_wp2;rw[<- j9.o];go_loopw [27] (fun i wr=>q9d b L v (.slice Aq L.length cap) w0.heap.size w2.heap.size w i wr) (fun i _=>L.length-(intOf i).toNat)
 case atStart=>exact f6.o
 case round =>
  clear f6;obtain⟨q,hq,rfl,a0,a6,a1,hR,hZ,f7⟩:=hrel;have HR:=vv hR;have HZ:=vv hZ;have f8:=vv a0;have d3:=vv a6;have f9:=vv a1;have m7:=vv f7;clear a6 a1 hR f7 hZ;by_cases hql:q<L.length
  ·obtain⟨g,cap',e,m8⟩:=q2y a0 (by omega);cases e
   obtain⟨r1,r2,r3,r4⟩:=q37 a0 hql;rw[q7b L q hql] at r1;have b7:nth L q<16:=d7.o _ (q6S hql);obtain⟨d,hd⟩:=yx (nth L q);obtain⟨f,hf⟩:=yx (A.fig d);have m9:(d:Int)<=15:=by omega
   have HS:=vv (q5p a0 q (A.fig (nth L q)));rw[q7a L q hql,<- hd,<- hf] at HS;rw[<- hd] at r1 b7;obtain⟨k0,g0⟩:=q9Y ⟨d,b7⟩;have n0:(q:Int)<(L.length:Int):=by omega
   have a7:g≠b/\g≠w.heap.size/\g≠w2.heap.size:=by have:=b0.o;have:=HL.o;have:=j8.o g rfl;omega
   have a2:=q07 (World.grownBy.refl wr (some g)) (p:=⟨g,q,none⟩) (.inl rfl) (.int .u8 (f:Int));have d8:=vv (d3.o.grown a2 (fun k e=>by cases e;exact a7.1));have k1:=vv (HR.o.grown a2 (fun e=>a7.2.1 (by injection e)));have k2:=vv (HZ.o.grown a2 (fun e=>a7.2.2 (by injection e)));have k3:=vv (q0f f9.o a2 (fun k e=>by cases e;have:=b0.o;omega));have n1:=a2.size;have k4:Hid (((⟨#[48,49,50,51,52,53,54,55,56,57,97,98,99,100,101,102]⟩:ByteArray)[d]'k0).toNat=f):=vv (g0.trans hf.symm);clear a0 hd hf g0 a2 a7;go_wp2;go_roundw
   case rel=>erw [k4.o];exact⟨q+1,by omega,by go_num,HS.o,d8.o,k3.o,k1.o,k2.o,by omega⟩
   case measure=>simp [intOf];omega
  ·have k5:q=L.length:=by omega
   subst k5;rw[q7c] at f8;have a4:∀o,(convert 85 9 (.slice Aq L.length cap)).run Tryz.prog (wr.alloc o)=.ok (.string (txt (L.map A.fig))) (wr.alloc o):=fun o=>q2x (q1h f8.o fun g _ hs=>Below.heap_alloc wr o g hs) (fun y hy=>by
    obtain⟨d,hd,rfl⟩:=List.mem_map.1 hy;exact q95 (d7.o d hd))
   obtain⟨t,ht⟩:=yx (txt (L.map A.fig));have d9:t.size=L.length:=by rw[ht];show(List.toArray _).size=_;simp
   rw[<- ht] at a4;obtain⟨w4,d4⟩:=yx (wr.alloc (.cells #[.int .u8 2,.bool neg,.bool false,.string ⟨#[]⟩,.int .i64 0,.bool false,.slice none 0 0,.int .i64 0,.int .u64 0] 33));have b8:Below wr.heap.size wr w4:=by rw[d4];exact(Below.refl _ _).alloc lr _
   have g1:Hid (Blk w4 wr.heap.size 33 [.int .u8 2,.bool neg,.bool false,.string ⟨#[]⟩,.int .i64 0,.bool false,.slice none 0 0,.int .i64 0,.int .u64 0]):=vv (by rw[d4];exact Blk.made wr _ [.int .u8 2,.bool neg,.bool false,.string ⟨#[]⟩,.int .i64 0,.bool false,.slice none 0 0,.int .i64 0,.int .u64 0]);have g2:=vv (HR.o.below b8);have k6:=vv (HZ.o.below b8);have b9:=vv (d3.o.below b8 d3.o.lt);have g3:=vv (q02 f9.o (q0j b8 _));have k7:=HR.o.lt;have k8:=HZ.o.lt;have k9:=a4 (.cells #[.int .u8 2,.bool neg,.bool false,.string ⟨#[]⟩,.int .i64 0,.bool false,.slice none 0 0,.int .i64 0,.int .u64 0] 33);have g4:=vv d4;have HT:=vv ht;clear a0 b8 d4 ht a4;by_cases hL0:L.length=0
   ·have g5:L=[]:=List.eq_nil_of_length_eq_zero hL0;have a8:Hid (s.hex neg=(⟨2,neg,false,[],0,false,0,0,0⟩,v)):=vv (by rw[HE.o,if_pos (by rw[g5];rfl)]);obtain rfl:t=⟨#[]⟩:=ByteArray.ext (Array.eq_empty_of_size_eq_zero (by rw[<- hL0,<- d9];rfl));have d5:=vv fun g w=>A.SetString_nil g 0 w
    subst g5;simp only[List.length_nil] at k9;clear d9 hL0;go_wp2_with fail
    refine(d5.o _ _).mono ?_;rintro e w' ⟨rfl,rfl⟩;rw[<- g4.o];go_wp2_with (with_reducible first
     | refine q08 rfl 33 (.tmp 4) (.tmp 55) rfl w.heap.size [.int .u8 2,.bool neg,.bool false,.string ⟨#[]⟩,.int .i64 0,.bool false,.slice none 0 0,.int .i64 0,.int .u64 0] rfl rfl 33 q1y g2.o (by kernel_rfl) rfl rfl ?_
     | refine q0x rfl 33 (.tmp 10) rfl wr.heap.size rfl 33 _ _ g1.o Tryz.underlying33 rfl (by kernel_rfl) ?_)
    intro w8 hB a3;have c0:=vv (b9.o.grown a3 (fun k e=>by cases e;exact fun e=>b4.o e.symm));have c1:=vv (q0f g3.o a3 (fun k e=>by cases e;exact lr));have c2:=vv hB;clear hB a3;go_wp2;rw[a8.o];exact bodyPost_ret (results_cell_row rfl _ _ _ _ _ _ _ rfl c2.o Tryz.underlying33 rfl (by kernel_rfl)) rfl ⟨none,0,0,rfl,Rd.nil _,Fr.none_ _,c0.o,c1.o⟩
   ·have e0:A.Hexs t L:=by rw[HT.o];exact q8p d7.o
    have g6:0<t.size:=by omega
    have g7:bl (A.wv L)<=4*L.length:=q1F (by rw[Nat.pow_mul];exact A.wv_lt e0.mem);have d5:=vv (A.SetString w2.heap.size 0 0 t L w4 (IntAt.of_blk k6.o) e0 g6 (by omega));have e1:Hid (bl (A.wv L)<=524288):=vv (Nat.le_trans g7 (by omega));have g8:w2.heap.size≠w.heap.size/\w2.heap.size≠wr.heap.size/\w2.heap.size≠b:=by have:=b0.o;have:=HL.o;omega
    have b2:=vv g8;obtain⟨U,hU⟩:=yx (A.wv L);rw[<- hU] at HE d5 e1;clear d9 e0 g6 g7 hL0 hU g8;go_wp2_with fail
    rw[<- g4.o];refine d5.o.mono ?_;rintro e w5 ⟨rfl,hI,c3⟩;have a5:=c3.grown;have e2:=vv hI;have g9:=vv (g2.o.grown a5 (fun e=>b2.o.1 (by injection e)));have i0:=vv (g1.o.grown a5 (fun e=>b2.o.2.1 (by injection e)));have c4:=vv (b9.o.grown a5 (fun k e=>by cases e;exact b2.o.2.2));have e3:=vv (q0f g3.o a5 (fun k e=>by cases e;have:=b0.o;omega));have e4:=vv (A.Sign w2.heap.size 0 (U:Int) w5 hI);obtain⟨sg,c5⟩:=yx ((U:Int).sign);rw[<- c5] at e4;clear hI c3 a5;by_cases hU0:U=0
    ·have t1:(sg==0)=true:=by rw[c5,hU0];rfl
     have a8:Hid (s.hex neg=(⟨2,neg,false,[],0,false,0,0,0⟩,v)):=vv (by rw[HE.o,if_pos hU0]);clear hU0 c5;go_wp2_with fail
     refine e4.o.mono ?_;rintro e w6 ⟨rfl,rfl⟩;go_wp2_with (with_reducible first
      | refine q08 rfl 33 (.tmp 4) (.tmp 55) rfl w.heap.size [.int .u8 2,.bool neg,.bool false,.string ⟨#[]⟩,.int .i64 0,.bool false,.slice none 0 0,.int .i64 0,.int .u64 0] rfl rfl 33 q1y g9.o (by kernel_rfl) rfl rfl ?_
      | refine q0x rfl 33 (.tmp 10) rfl wr.heap.size rfl 33 _ _ i0.o Tryz.underlying33 rfl (by kernel_rfl) ?_)
     intro w8 hB a3;have c0:=vv (c4.o.grown a3 (fun k e=>by cases e;exact fun e=>b4.o e.symm));have c1:=vv (q0f e3.o a3 (fun k e=>by cases e;exact lr));have c2:=vv hB;clear hB a3;go_wp2;rw[a8.o];exact bodyPost_ret (results_cell_row rfl _ _ _ _ _ _ _ rfl c2.o Tryz.underlying33 rfl (by kernel_rfl)) rfl ⟨none,0,0,rfl,Rd.nil _,Fr.none_ _,c0.o,c1.o⟩
    ·have t1:(sg==0)=false:=by rw[c5,Int.sign_eq_one_of_pos (by omega)];rfl
     obtain⟨Z,hZ⟩:=yx (tz U);have l0:=e1.o;have i1:=q1S (n:=U) (by omega);rw[<- hZ] at i1;have n2:(Z:Int)<=524288:=by omega
     have HT:=vv (A.TrailingZeroBits w2.heap.size 0 (U:Int) w5 e2.o (by omega) (HG.o.grown e3.o HH.o).std);rw[Int.natAbs_natCast,<- hZ] at HT;have e5:=vv (A.Rsh w2.heap.size 0 w2.heap.size 0 Z (U:Int) (U:Int) w5 e2.o e2.o (by omega) (by omega));have i2:(U:Int)/2^Z=((U/2^Z:Nat):Int):=by rw[Int.natCast_ediv,Int.natCast_pow];rfl
     rw[i2] at e5;have a8:Hid (s.hex neg=(⟨2,neg,false,[],0,neg,U/2^Z,q7w (x-4*k+Z),0⟩,v)):=vv (by rw[HE.o,if_neg hU0,<- hZ]);have i3:Hid (bl (U/2^Z)<=524288):=vv (Nat.le_trans (q7y (Nat.div_le_self _ _)) e1.o);obtain⟨M,hM⟩:=yx (U/2^Z);rw[<- hM] at e5 a8 i3;clear hU0 c5 hZ i2 hM l0 i1;go_wp2_with fail
     refine e4.o.mono ?_;rintro e w6 ⟨rfl,rfl⟩;go_wp2_with fail
     refine HT.o.mono ?_;rintro e w6 ⟨rfl,rfl⟩;go_wp2_with fail
     refine e5.o.mono ?_;rintro e w6 ⟨rfl,hI,c3⟩;have a5:=c3.grown;have e6:=vv (g9.o.grown a5 (fun e=>b2.o.1 (by injection e)));have i4:=vv (i0.o.grown a5 (fun e=>b2.o.2.1 (by injection e)));have c6:=vv (c4.o.grown a5 (fun k e=>by cases e;exact b2.o.2.2));have l1:=vv (q0f e3.o a5 (fun k e=>by cases e;have:=b0.o;omega));have i5:=vv (q8l w2.heap.size 0 (M:Int) w6 hI (by rw[Int.natAbs_natCast];have:=i3.o;omega));rw[Int.natAbs_natCast] at i5;clear hI c3 a5;go_wp2_with fail
     refine i5.o.mono ?_;rintro e w7 ⟨Am,n,rfl,i6,i7,c7⟩;have l2:=vv i6;have e7:=vv i7;have l3:=vv (e6.o.below c7);have l4:=vv (i4.o.below c7);have e8:=vv (c6.o.below c7 c6.o.lt);have l5:=vv (q02 l1.o (q0j c7 _));obtain⟨cl,i8⟩:=yx (q7w (x-4*(k:Int)+(Z:Int)));have i9:=vv fun w=>qb7 (x-4*(k:Int)+(Z:Int)) w
     rw[<- i8] at a8 i9;clear i6 i7 c7 i8;go_wp2_with fail
     refine(i9.o _).mono ?_;rintro e w8 ⟨rfl,rfl⟩;have l6:Hid (∀a,Am=some a->a.block≠wr.heap.size):=vv (fun a e=>by have:=(e7.o a e).1;have:=i4.o.lt;omega);have l7:Hid (∀a,Am=some a->a.block≠w.heap.size):=vv (fun a e=>by have:=(e7.o a e).1;have:=e6.o.lt;omega);have e9:Hid (wr.heap.size≠w.heap.size/\wr.heap.size≠b/\w.heap.size<=wr.heap.size):=vv (by have:=HL.o;have:=d3.o.lt;omega);go_wp2_with (refine q2g rfl 30 (.tmp 71) (.tmp 70) rfl wr.heap.size 5 (.bool neg) (.slice Am n n) (.int .i64 cl) rfl rfl 33 _ l4.o (Nat.le_of_ble_eq_true rfl) (by kernel_rfl) ⟨rfl,rfl,rfl⟩ ?_)
     intro w9 j0 c8;have l8:Hid (Blk w9 wr.heap.size 33 [.int .u8 2,.bool neg,.bool false,.string ⟨#[]⟩,.int .i64 0,.bool neg,.slice Am n n,.int .i64 cl,.int .u64 0]):=vv j0;have l9:=vv (l3.o.grown c8 (fun e=>e9.o.1 (by injection e)));have f0:=vv (e8.o.grown c8 (fun k e=>by cases e;exact e9.o.2.1));have m0:=vv (q0f l5.o c8 (fun k e=>by cases e;exact e9.o.2.2));have f1:=vv (l2.o.only c8 l6.o);clear j0 c8;go_wp2_with (with_reducible first
      | refine q08 rfl 33 (.tmp 4) (.tmp 72) rfl w.heap.size [.int .u8 2,.bool neg,.bool false,.string ⟨#[]⟩,.int .i64 0,.bool neg,.slice Am n n,.int .i64 cl,.int .u64 0] rfl rfl 33 q1y l9.o (by kernel_rfl) rfl rfl ?_
      | refine q0x rfl 33 (.tmp 10) rfl wr.heap.size rfl 33 _ _ l8.o Tryz.underlying33 rfl (by kernel_rfl) ?_)
     intro w8 hB a3;have c0:=vv (f0.o.grown a3 (fun k e=>by cases e;exact fun e=>b4.o e.symm));have c1:=vv (q0f m0.o a3 (fun k e=>by cases e;exact lr));have c2:=vv hB;have f2:=vv (f1.o.only a3 l7.o);have f3:=vv (e7.o.mono (Nat.le_of_lt e6.o.lt));clear hB a3;go_wp2;rw[a8.o];exact bodyPost_ret (results_cell_row rfl _ _ _ _ _ _ _ rfl c2.o Tryz.underlying33 rfl (by kernel_rfl)) rfl ⟨Am,n,n,rfl,f2.o,f3.o,c0.o,c1.o⟩
end Go.Proofs.YtcdimmblnbkjjaaGreatDoor.Scn
namespace Go.Proofs.YtcdimmblnbkjjaaGreatDoor.Pnt
open Go Go.RowKit R5 Scn
def qcC(N:Nat)(w:World)(e:Ending)(w':World):Prop:=
 ∃A m,e=.returned (.tuple #[q4b A m m,.int .i64 0])/\Rd w' A m m (toL N)/\Fr w.heap.size A/\Below w.heap.size w w'
end Go.Proofs.YtcdimmblnbkjjaaGreatDoor.Pnt
namespace Go.Proofs.YtcdimmblnbkjjaaGreatDoor.Fms
open Go Go.RowKit R5 Scn
def qbv(E F:Int)(b:Nat):Int:=if R3.formOk E F then(if 1+E+F<(bl b:Int) then 6 else 0) else 5
def qcc(E F b:Nat):Bool:=b/2^(F+E)%2==1
def qci(E F b:Nat):Nat:=b/2^F%2^E
def qbX(F b:Nat):Nat:=b%2^F
abbrev qbP(neg:Bool)(x f:Nat):Value:=.agg #[.bool neg,.int .i64 (x:Int),.int .u64 (f:Int)]
def qck(E x f:Nat):Nat:=if x=0 then(if f=0 then 1 else 2) else if x=R3.tw E-1 then(if f=0 then 4 else 5) else 3
end Go.Proofs.YtcdimmblnbkjjaaGreatDoor.Fms
namespace Go.Proofs.YtcdimmblnbkjjaaGreatDoor.Pnt
open Go Go.RowKit R5 Scn
end Go.Proofs.YtcdimmblnbkjjaaGreatDoor.Pnt
namespace Go.Proofs.YtcdimmblnbkjjaaGreatDoor.Exa
open Go Go.RowKit R5 Scn
def DyP(neg:Bool)(N:Nat)(x:Int)(w:World)(e:Ending)(w':World):Prop:=
 ∃A m,e=.returned (.tuple #[q7l neg A m m x,.int .i64 0])/\Rd w' A m m (toL N)/\Fr w.heap.size A/\Below w.heap.size w w'
end Go.Proofs.YtcdimmblnbkjjaaGreatDoor.Exa
namespace Go.Proofs.YtcdimmblnbkjjaaGreatDoor.Exa
open Go Go.RowKit R5 Scn Fms
def qbR(F x f:Nat):Nat:=if x=0 then f else f+2^F
def qca(E F x:Nat):Int:=2-(2^(E-1):Nat)-F+(if x=0 then 0 else(x:Int)-1)
def qcB(neg:Bool)(M:Nat)(p:Int)(w:World)(e:Ending)(w':World):Prop:=
 if M=0 then DyP false 0 0 w e w' else DyP neg (M/2^tz M) (p+(tz M:Int)) w e w'
end Go.Proofs.YtcdimmblnbkjjaaGreatDoor.Exa
