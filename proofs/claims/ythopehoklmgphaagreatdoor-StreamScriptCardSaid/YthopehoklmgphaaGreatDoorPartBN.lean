/- Lemmas. -/
import Derived.Test.YthopehoklmgphaaGreatDoorPartBM
import Derived.Test.YthopehoklmgphaaGreatDoorPartBB
set_option linter.all false
set_option maxRecDepth 100000
open Go.Proofs.Tryz
open Bool renaming false->qa
open Go renaming World.grownBy.refl->qb,World->qd,results_cell_row->qe,bodyPost_ret->qg,Value->qh
open Option renaming none->qc,some->qf
namespace Go.Proofs.YthopehoklmgphaaGreatDoor
variable{g:Nat}{w:qd}{t:TypeId}{cs:List qh}{P:Program}{ops:Array Oper}{rest:List Oper}{a:Act}{Q:Exit->Act->qd->Prop}
section
open Go Go.RowKit
theorem Fm.grown{o:Nat}{w':qd}(h:Fm g o w w'):w.grownBy w' (qf g):=⟨h.os,h.tape,h.output,h.size,fun i hi hne=>h.block i hi (fun e=>hne (by rw[e]))⟩
end
namespace Scn
open Go Go.RowKit R5
theorem IntAt.of_blk(h:Blk w g t [.bool qa,.slice qc 0 0]):IntAt w g 0 0:=⟨h.lt,⟨qa,h.cell 0⟩,h.fz,qc,0,0,h.cell 0,h.cell 1,by have:toL (0:Int).natAbs=[]:=rfl;rw[this];exact Rd.nil _,fun a e=>by cases e⟩
theorem Blk.alloc(h:Blk w g t cs)(o:Obj):Blk (w.alloc o) g t cs:=h.below ((Below.refl _ _).alloc lr _)
theorem Blk.set(h:Blk w g t cs)(j:Nat)(v:qh):Blk (w.setCell ⟨g,j,qc⟩ v) g t (cs.set j v):=by unfold Blk;have:w.heap[g]?=qf (.cells cs.toArray t (0,0)):=h;simp [World.setCell,k1S,this]
theorem q0O{o:Oper}(hgd:o.guard=qc)(ty:TypeId)(x:Operand)(ho:o.op=.load ty x)
  (g:Nat) (hx:a.eval x=.pointer (qf ⟨g,0,qc⟩)) (t:TypeId) (cs:List qh) (d:TypeDesc) (hg:Blk w g t cs)
  (hu:P.underlying ty=qf d) (hd:(match d with|.struct _|.array _ _=>true|_=>qa)=true) (hi:(P.info? ty).map (·.size)=qf cs.length)
  (h:wpList P ops Q rest (a.put o.dst (.agg cs.toArray)) w):wpList P ops Q (o::rest) a w:=
 wpList_load_row hgd ty x ho g hx t cs.toArray (0,0) d hg hu hd (by simpa using hi) h
theorem q31{op:Oper}(hgd:op.guard=qc)(ty:TypeId)(x y:Operand)(ho:op.op=.store ty x y)
  (b o:Nat) (v0 v1 v2:qh) (hx:a.eval x=.pointer (qf ⟨b,o,qc⟩)) (hy:a.eval y=.agg #[v0,v1,v2])
  (t:TypeId) (cs:List qh) (hg:Blk w b t cs) (hl:o+3<=cs.length) (hi:(P.info? ty).map (·.size)=qf 3) (h1:v0.oneCell'=true/\v1.oneCell'=true/\v2.oneCell'=true)
  (h:∀w',Blk w' b t (((cs.set o v0).set (o+1) v1).set (o+2) v2)->w.grownBy w' (qf b)->wpList P ops Q rest (a.put op.dst undef) w'):wpList P ops Q (op::rest) a w:=by
 refine wpList_store_mid hgd ty x y ho b o #[v0,v1,v2] hx hy (fun j hj=>⟨?_,hg.fz _⟩) hi (by simp [h1]) (h _ ?_ ?_)
 ·rw[hg.cell,k0n (by simp at hj;omega)];rfl
 ·exact((hg.set o v0).set (o+1) v1).set (o+2) v2
 ·exact q09 (q09 (q09 (qb w (qf b)) (p:=⟨b,o,qc⟩) (.inl rfl) v0) (p:=⟨b,o+1,qc⟩) (.inl rfl) v1) (p:=⟨b,o+2,qc⟩) (.inl rfl) v2
def q60(L:List Nat)(k:Nat):List Nat:=(L.take k).map A.fig++L.drop k
theorem q9k(L:List Nat):q60 L L.length=L.map A.fig:=by unfold q60;rw[k1m,List.drop_length,k23]
theorem q9j(L:List Nat)(k:Nat)(h:k<L.length):nth (q60 L k) k=nth L k:=by unfold q60 nth;rw[k08,k08,k2C (by simp;omega),k1l,k0l,k0K (by omega),k2B,k1u,k0S]
theorem q9i(L:List Nat)(k:Nat)(h:k<L.length):(q60 L k).set k (A.fig (nth L k))=q60 L (k+1):=by unfold q60;rw[q2G L k h,List.map_append,List.map_singleton,List.set_append_right _ _ (by simp;omega),k1l,k0l,k0K (by omega),k2B,List.append_assoc];congr 1;rw[<- List.getElem_cons_drop h];rfl
theorem qbx{d:Nat}(h:d<16):A.fig d<256:=by unfold A.fig;split<;>omega
theorem qaR{L:List Nat}(h:∀d∈L,d<16):A.Hexs (txt (L.map A.fig)) L:=by
 have b:(txt (L.map A.fig)).size=L.length:=by show(List.toArray _).size=_;simp
 refine⟨b,fun i hi=>?_,fun i=>?_⟩
 ·have a:i<L.length:=by omega
  have e:(txt (L.map A.fig))[i]'hi=UInt8.ofNat (A.fig L[i]):=by show((L.map A.fig).map UInt8.ofNat).toArray[i]'_=_;simp
  rw[e,UInt8.toNat_ofNat',k0F (qbx (h _ (k1D a))),k08,k0n a];rfl
 ·rw[k08];rcases k0M i L.length with hi|hi
  ·rw[k0n hi];exact h _ (k1D hi)
  ·rw[k1h hi];decide
def qeH:ByteArray:=⟨#[48,49,50,51,52,53,54,55,56,57,97,98,99,100,101,102]⟩
theorem qcr:∀d:Fin 16,∃h:d.val<qeH.size,(qeH[d.val]'h).toNat=A.fig d.val:=by decide
def qbG(b:Nat)(L:List Nat)(v:St)(x:qh)(B Z:Nat)(w:qd)(i:qh)(wr:qd):Prop:=
 ∃q:Nat,q<=L.length/\i=.int .i64 (q:Int)/\wr.ownsRow B 5 1 x L.length (u8s (q60 L q))/\ScAt wr b v/\w.grownBy wr (qf b)/\Blk wr w.heap.size 92 q1o/\Blk wr Z 200 [.bool qa,.slice qc 0 0]/\B<=wr.heap.size
set_option maxHeartbeats 4000000 in
theorem hex(b:Nat)(s:St)(neg:Bool)(w:qd)(h:ScAt w b s)(hg:Bg w):Calls Tryz.prog 114 #[.pointer (qf ⟨b,0,qc⟩),.bool neg] w (qeq b (s.hex neg).1 (s.hex neg).2 w):=by
 obtain⟨L,k,u,hm⟩:∃L k u,s.mantissa sixteen=(L,k,u):=⟨_,_,_,rfl⟩;obtain⟨x,v,hx⟩:∃x v,u.exponent [112]=(x,v):=⟨_,_,rfl⟩;have a9:=q4h u [112];rw[hx] at a9
 try dsimp only at a9
 have HE:Hid (s.hex neg=(if A.wv L=0 then⟨2,neg,qa,[],0,qa,0,0,0⟩ else⟨2,neg,qa,[],0,neg,A.wv L/2^tz (A.wv L),q2u (x-4*k+tz (A.wv L)),0⟩,v)):=vv (by unfold St.hex;rw[hm];dsimp only;rw[hx];rfl);have HX:=vv a9;have HM:=vv hm;have k2:=vv hx;have HH:=vv h;have HG:=vv hg;have HL:=vv h.lt;have b0:=vv fun w h hg=>mantissa 177 sixteen q5X b s w h hg
 rw[hm] at b0;replace b0:Hid (∀w,ScAt w b s->Bg w->Calls Tryz.prog 176 #[.pointer (qf ⟨b,0,qc⟩),.func (.func 177) #[] #[]] w (q2m b L k u w)):=b0;have b1:=vv fun w h hg=>exponent b u ⟨#[112]⟩ w h hg (by decide)
 rw[show(⟨#[112]⟩:ByteArray).data.toList=[112] from rfl,hx] at b1;replace b1:Hid (∀w,ScAt w b u->Bg w->Calls Tryz.prog 178 #[.pointer (qf ⟨b,0,qc⟩),.string ⟨#[112]⟩] w (ScP b v (.int .i64 x) w)):=b1;clear hm hx a9 h hg;go_enter func114,ntmps114;go_wp2_with fail;obtain⟨E,G⟩:=yx (w.alloc (.cells #[.int .u8 0,.bool qa,.bool qa,.string ⟨#[]⟩,.int .i64 0,.bool qa,.slice qc 0 0,.int .i64 0,.int .u64 0] 92));rw[<- G];have b6:w.grownBy E (qf b):=by rw[G];exact q0x (qb w _) _
 have g2:Hid (Blk E w.heap.size 92 q1o):=vv (by rw[G];exact Blk.made w _ q1o);have a2:ScAt E b s:=HH.o.grown (row:=qc) (by rw[G];exact q0x (qb w _) _) (fun k e=>by cases e);have H:Hid (E.heap.size=w.heap.size+1):=vv (by rw[G];simp);have g3:=vv b6;have P:Hid (b≠w.heap.size):=vv (by have:=HL.o;omega);have g4:=vv (b0.o E a2 (HG.o.grown b6 HH.o));clear b6 a2 G;refine g4.o.mono ?_;rintro e w1 ⟨y,rfl,r,z,j,k3,hk,d5⟩;have a3:=vv r;have g5:=vv (g2.o.grown j (fun e=>P.o (by injection e)));have d6:=vv (q00 g3.o j);have b7:=vv d5;have g6:=vv (b1.o w1 z (HG.o.grown d6.o HH.o));have k4:=j.size;clear r z j d5;go_wp2_with fail;refine g6.o.mono ?_;rintro e c ⟨rfl,z,j⟩;obtain⟨Aq,cap,hy⟩:=q0E a3.o;subst hy;have j8:=HX.o.1;have j9:=HX.o.2;have k5:(k:Int)<=65536:=by omega
 have k6:(L.length:Int)<=131072:=by omega
 have k7:=j.size;obtain⟨w3,b2⟩:=yx (c.alloc (.cells #[.bool qa,.slice qc 0 0] 200));have a4:=vv (q0s a3.o j (by have:=H.o;have:=HL.o;omega));have g7:Hid (∀g,Aq=qf ⟨g,0,qc⟩->g<c.heap.size):=vv (fun g e=>by
  subst e;rcases a4.o.2 with ⟨h,_⟩|⟨g',c8,k8,hv,_,hg,_⟩
  ·cases h
  ·cases hv;exact(k09.1 hg).1)
 have I:Below c.heap.size c w3:=by rw[b2];exact(Below.refl _ _).alloc lr _
 have d7:Hid (qbG b L v (.slice Aq L.length cap) E.heap.size c.heap.size w (.int .i64 0) w3):=vv ⟨0,k0d _,rfl,q0A a4.o (fun g _ hs=>I.block g hs),z.below I z.lt,q00 (q00 d6.o j) (q03 I _),(g5.o.grown j (fun e=>P.o (by injection e))).below I,by rw[b2];exact Blk.made c _ [.bool qa,.slice qc 0 0],by have:=I.size;omega⟩;have g8:=vv b2;clear z j I b2;go_wp2;rw[<- g8.o];go_loopw [27] (fun i wr=>qbG b L v (.slice Aq L.length cap) E.heap.size c.heap.size w i wr) (fun i _=>L.length-(intOf i).toNat)
 case atStart=>exact d7.o
 case round =>
  clear d7;obtain⟨q,hq,rfl,r,z,j,hR,F,d8⟩:=hrel;have HR:=vv hR;have HZ:=vv F;have d9:=vv r;have b3:=vv z;have e0:=vv j;have k9:=vv d8;clear z j hR d8 F;by_cases hql:q<L.length
  ·obtain⟨g,c8,e,l0⟩:=q26 r (by omega);cases e;obtain⟨r1,r2,r3,r4⟩:=q27 r hql;rw[q9j L q hql] at r1;have a5:nth L q<16:=b7.o _ (q5m hql);obtain⟨d,hd⟩:=yx (nth L q);obtain⟨f,hf⟩:=yx (A.fig d);have l1:(d:Int)<=15:=by omega
   have HS:=vv (q71 r q (A.fig (nth L q)));rw[q9i L q hql,<- hd,<- hf] at HS;rw[<- hd] at r1 a5;obtain⟨g9,e1⟩:=qcr ⟨d,a5⟩;have l2:(q:Int)<(L.length:Int):=by omega
   have a1:g≠b/\g≠w.heap.size/\g≠c.heap.size:=by have:=H.o;have:=HL.o;have:=g7.o g rfl;omega
   have J:=q09 (qb wr (qf g)) (p:=⟨g,q,qc⟩) (.inl rfl) (.int .u8 (f:Int));have c9:=vv (b3.o.grown J (fun k e=>by cases e;exact a1.1));have i0:=vv (HR.o.grown J (fun e=>a1.2.1 (by injection e)));have i1:=vv (HZ.o.grown J (fun e=>a1.2.2 (by injection e)));have i2:=vv (q0e e0.o J (fun k e=>by cases e;have:=H.o;omega));have l3:=J.size;have i3:Hid (((⟨#[48,49,50,51,52,53,54,55,56,57,97,98,99,100,101,102]⟩:ByteArray)[d]'g9).toNat=f):=vv (e1.trans hf.symm);clear r hd hf e1 J a1;go_wp2;go_roundw
   case rel=>erw [i3.o];exact⟨q+1,by omega,by go_num,HS.o,c9.o,i2.o,i0.o,i1.o,by omega⟩
   case measure=>simp [intOf];omega
  ·have i4:q=L.length:=by omega
   subst i4;rw[q9k] at d9;have a0:∀o,(convert 56 9 (.slice Aq L.length cap)).run Tryz.prog (wr.alloc o)=.ok (.string (txt (L.map A.fig))) (wr.alloc o):=fun o=>q2H (q0A d9.o fun g _ hs=>Below.heap_alloc wr o g hs) (fun y hy=>by obtain⟨d,hd,rfl⟩:=List.mem_map.1 hy;exact qbx (b7.o d hd))
   obtain⟨t,ht⟩:=yx (txt (L.map A.fig));have b8:t.size=L.length:=by rw[ht];show(List.toArray _).size=_;simp
   rw[<- ht] at a0;obtain⟨w4,b4⟩:=yx (wr.alloc (.cells #[.int .u8 2,.bool neg,.bool qa,.string ⟨#[]⟩,.int .i64 0,.bool qa,.slice qc 0 0,.int .i64 0,.int .u64 0] 92));have Q:Below wr.heap.size wr w4:=by rw[b4];exact(Below.refl _ _).alloc lr _
   have e2:Hid (Blk w4 wr.heap.size 92 [.int .u8 2,.bool neg,.bool qa,.string ⟨#[]⟩,.int .i64 0,.bool qa,.slice qc 0 0,.int .i64 0,.int .u64 0]):=vv (by rw[b4];exact Blk.made wr _ [.int .u8 2,.bool neg,.bool qa,.string ⟨#[]⟩,.int .i64 0,.bool qa,.slice qc 0 0,.int .i64 0,.int .u64 0]);have e3:=vv (HR.o.below Q);have i5:=vv (HZ.o.below Q);have a6:=vv (b3.o.below Q b3.o.lt);have e4:=vv (q00 e0.o (q03 Q _));have k0:=HR.o.lt;have k1:=HZ.o.lt;have i6:=a0 (.cells #[.int .u8 2,.bool neg,.bool qa,.string ⟨#[]⟩,.int .i64 0,.bool qa,.slice qc 0 0,.int .i64 0,.int .u64 0] 92);have e5:=vv b4;have HT:=vv ht;clear r Q b4 ht a0;by_cases hL0:L.length=0
   ·have e6:L=[]:=k0s hL0;have D:Hid (s.hex neg=(⟨2,neg,qa,[],0,qa,0,0,0⟩,v)):=vv (by rw[HE.o,if_pos (by rw[e6];rfl)]);obtain rfl:t=⟨#[]⟩:=ByteArray.ext (k1e (by rw[<- hL0,<- b8];rfl));have b5:=vv fun g w=>A.SetString_nil g 0 w
    subst e6;simp only[k1p] at i6;clear b8 hL0;go_wp2_with fail;refine(b5.o _ _).mono ?_;rintro e w' ⟨rfl,rfl⟩;rw[<- e5.o];go_wp2_with (with_reducible first
     | refine q05 rfl 92 (.tmp 4) (.tmp 55) rfl w.heap.size [.int .u8 2,.bool neg,.bool qa,.string ⟨#[]⟩,.int .i64 0,.bool qa,.slice qc 0 0,.int .i64 0,.int .u64 0] rfl rfl 92 q1o e3.o (by kernel_rfl) rfl rfl ?_
     | refine q0O rfl 92 (.tmp 10) rfl wr.heap.size rfl 92 _ _ e2.o underlying92 rfl (by kernel_rfl) ?_)
    intro w8 C l;have R:=vv (a6.o.grown l (fun k e=>by cases e;exact fun e=>P.o e.symm));have S:=vv (q0e e4.o l (fun k e=>by cases e;exact lr));have T:=vv C;clear C l;go_wp2;rw[D.o];exact qg (qe rfl _ _ _ _ _ _ _ rfl T.o underlying92 rfl (by kernel_rfl)) rfl ⟨qc,0,0,rfl,Rd.nil _,Fr.none_ _,R.o,S.o⟩
   ·have b9:A.Hexs t L:=by rw[HT.o];exact qaR b7.o
    have e7:0<t.size:=by omega
    have e8:bl (A.wv L)<=4*L.length:=q1g (by rw[k18];exact A.wv_lt b9.mem);have b5:=vv (A.SetString c.heap.size 0 0 t L w4 (IntAt.of_blk i5.o) b9 e7 (by omega));have c0:Hid (bl (A.wv L)<=524288):=vv (k06 e8 (by omega));have e9:c.heap.size≠w.heap.size/\c.heap.size≠wr.heap.size/\c.heap.size≠b:=by have:=H.o;have:=HL.o;omega
    have K:=vv e9;obtain⟨U,hU⟩:=yx (A.wv L);rw[<- hU] at HE b5 c0;clear b8 b9 e7 e8 hL0 hU e9;go_wp2_with fail;rw[<- e5.o];refine b5.o.mono ?_;rintro e w5 ⟨rfl,N,V⟩;have m:=V.grown;have c1:=vv N;have f0:=vv (e3.o.grown m (fun e=>K.o.1 (by injection e)));have f1:=vv (e2.o.grown m (fun e=>K.o.2.1 (by injection e)));have a7:=vv (a6.o.grown m (fun k e=>by cases e;exact K.o.2.2));have c2:=vv (q0e e4.o m (fun k e=>by cases e;have:=H.o;omega));have c3:=vv (A.Sign c.heap.size 0 (U:Int) w5 N);obtain⟨sg,W⟩:=yx ((U:Int).sign);rw[<- W] at c3;clear N V m;by_cases hU0:U=0
    ·have t1:(sg==0)=true:=by rw[W,hU0];rfl
     have D:Hid (s.hex neg=(⟨2,neg,qa,[],0,qa,0,0,0⟩,v)):=vv (by rw[HE.o,if_pos hU0]);clear hU0 W;go_wp2_with fail;refine c3.o.mono ?_;rintro e w6 ⟨rfl,rfl⟩;go_wp2_with (with_reducible first
      | refine q05 rfl 92 (.tmp 4) (.tmp 55) rfl w.heap.size [.int .u8 2,.bool neg,.bool qa,.string ⟨#[]⟩,.int .i64 0,.bool qa,.slice qc 0 0,.int .i64 0,.int .u64 0] rfl rfl 92 q1o f0.o (by kernel_rfl) rfl rfl ?_
      | refine q0O rfl 92 (.tmp 10) rfl wr.heap.size rfl 92 _ _ f1.o underlying92 rfl (by kernel_rfl) ?_)
     intro w8 C l;have R:=vv (a7.o.grown l (fun k e=>by cases e;exact fun e=>P.o e.symm));have S:=vv (q0e c2.o l (fun k e=>by cases e;exact lr));have T:=vv C;clear C l;go_wp2;rw[D.o];exact qg (qe rfl _ _ _ _ _ _ _ rfl T.o underlying92 rfl (by kernel_rfl)) rfl ⟨qc,0,0,rfl,Rd.nil _,Fr.none_ _,R.o,S.o⟩
    ·have t1:(sg==0)=qa:=by rw[W,k0G (by omega)];rfl
     obtain⟨Z,F⟩:=yx (tz U);have i7:=c0.o;have f2:=q1j (n:=U) (by omega);rw[<- F] at f2;have l4:(Z:Int)<=524288:=by omega
     have HT:=vv (A.TrailingZeroBits c.heap.size 0 (U:Int) w5 c1.o (by omega) (HG.o.grown c2.o HH.o).std);rw[k0b,<- F] at HT;have c4:=vv (A.Rsh c.heap.size 0 c.heap.size 0 Z (U:Int) (U:Int) w5 c1.o c1.o (by omega) (by omega));have f3:(U:Int)/2^Z=((U/2^Z:Nat):Int):=by rw[k1k,k0v];rfl
     rw[f3] at c4;have D:Hid (s.hex neg=(⟨2,neg,qa,[],0,neg,U/2^Z,q2u (x-4*k+Z),0⟩,v)):=vv (by rw[HE.o,if_neg hU0,<- F]);have f4:Hid (bl (U/2^Z)<=524288):=vv (k06 (q5w (k0y _ _)) c0.o);obtain⟨M,hM⟩:=yx (U/2^Z);rw[<- hM] at c4 D f4;clear hU0 W F f3 hM i7 f2;go_wp2_with fail;refine c3.o.mono ?_;rintro e w6 ⟨rfl,rfl⟩;go_wp2_with fail;refine HT.o.mono ?_;rintro e w6 ⟨rfl,rfl⟩;go_wp2_with fail;refine c4.o.mono ?_;rintro e w6 ⟨rfl,N,V⟩;have m:=V.grown;have c5:=vv (f0.o.grown m (fun e=>K.o.1 (by injection e)));have f5:=vv (f1.o.grown m (fun e=>K.o.2.1 (by injection e)));have a8:=vv (a7.o.grown m (fun k e=>by cases e;exact K.o.2.2));have i8:=vv (q0e c2.o m (fun k e=>by cases e;have:=H.o;omega));have f6:=vv (qaI c.heap.size 0 (M:Int) w6 N (by rw[k0b];have:=f4.o;omega));rw[k0b] at f6;clear N V m;go_wp2_with fail;refine f6.o.mono ?_;rintro e w7 ⟨O,n,rfl,f7,f8,X⟩;have i9:=vv f7;have c6:=vv f8;have j0:=vv (c5.o.below X);have j1:=vv (f5.o.below X);have d0:=vv (a8.o.below X a8.o.lt);have j2:=vv (q00 i8.o (q03 X _));obtain⟨cl,f9⟩:=yx (q2u (x-4*(k:Int)+(Z:Int)));have g0:=vv fun w=>qdK (x-4*(k:Int)+(Z:Int)) w
     rw[<- f9] at D g0;clear f7 f8 X f9;go_wp2_with fail;refine(g0.o _).mono ?_;rintro e w8 ⟨rfl,rfl⟩;have j3:Hid (∀a,O=qf a->a.block≠wr.heap.size):=vv (fun a e=>by have:=(c6.o a e).1;have:=f5.o.lt;omega);have j4:Hid (∀a,O=qf a->a.block≠w.heap.size):=vv (fun a e=>by have:=(c6.o a e).1;have:=c5.o.lt;omega);have c7:Hid (wr.heap.size≠w.heap.size/\wr.heap.size≠b/\w.heap.size<=wr.heap.size):=vv (by have:=HL.o;have:=b3.o.lt;omega);go_wp2_with (refine q31 rfl 90 (.tmp 71) (.tmp 70) rfl wr.heap.size 5 (.bool neg) (.slice O n n) (.int .i64 cl) rfl rfl 92 _ j1.o (Nat.le_of_ble_eq_true rfl) (by kernel_rfl) ⟨rfl,rfl,rfl⟩ ?_);intro w9 g1 Y;have j5:Hid (Blk w9 wr.heap.size 92 [.int .u8 2,.bool neg,.bool qa,.string ⟨#[]⟩,.int .i64 0,.bool neg,.slice O n n,.int .i64 cl,.int .u64 0]):=vv g1;have j6:=vv (j0.o.grown Y (fun e=>c7.o.1 (by injection e)));have d1:=vv (d0.o.grown Y (fun k e=>by cases e;exact c7.o.2.1));have j7:=vv (q0e j2.o Y (fun k e=>by cases e;exact c7.o.2.2));have d2:=vv (i9.o.only Y j3.o);clear g1 Y;go_wp2_with (with_reducible first
      | refine q05 rfl 92 (.tmp 4) (.tmp 72) rfl w.heap.size [.int .u8 2,.bool neg,.bool qa,.string ⟨#[]⟩,.int .i64 0,.bool neg,.slice O n n,.int .i64 cl,.int .u64 0] rfl rfl 92 q1o j6.o (by kernel_rfl) rfl rfl ?_
      | refine q0O rfl 92 (.tmp 10) rfl wr.heap.size rfl 92 _ _ j5.o underlying92 rfl (by kernel_rfl) ?_)
     intro w8 C l;have R:=vv (d1.o.grown l (fun k e=>by cases e;exact fun e=>P.o e.symm));have S:=vv (q0e j7.o l (fun k e=>by cases e;exact lr));have T:=vv C;have d3:=vv (d2.o.only l j4.o);have d4:=vv (c6.o.mono (k1j c5.o.lt));clear C l;go_wp2;rw[D.o];exact qg (qe rfl _ _ _ _ _ _ _ rfl T.o underlying92 rfl (by kernel_rfl)) rfl ⟨O,n,n,rfl,d3.o,d4.o,R.o,S.o⟩
end Scn
namespace Pnt
open Go Go.RowKit R5 Scn
def qeQ(N:Nat)(w:qd)(e:Ending)(w':qd):Prop:=
 ∃A m,e=.returned (.tuple #[q4w A m m,.int .i64 0])/\Rd w' A m m (toL N)/\Fr w.heap.size A/\Below w.heap.size w w'
end Pnt
namespace Fms
open Go Go.RowKit R5 Scn
def qeg(E F:Int)(b:Nat):Int:=if R3.formOk E F then(if 1+E+F<(bl b:Int) then 6 else 0) else 5
def qf3(E F b:Nat):Bool:=b/2^(F+E)%2==1
def qfa(E F b:Nat):Nat:=b/2^F%2^E
def qeG(F b:Nat):Nat:=b%2^F
abbrev qez(neg:Bool)(x f:Nat):qh:=.agg #[.bool neg,.int .i64 (x:Int),.int .u64 (f:Int)]
def qfd(E x f:Nat):Nat:=if x=0 then(if f=0 then 1 else 2) else if x=R3.tw E-1 then(if f=0 then 4 else 5) else 3
end Fms
namespace Pnt
open Go Go.RowKit R5 Scn
end Pnt
namespace Exa
open Go Go.RowKit R5 Scn
def DyP(neg:Bool)(N:Nat)(x:Int)(w:qd)(e:Ending)(w':qd):Prop:=
 ∃A m,e=.returned (.tuple #[q5s neg A m m x,.int .i64 0])/\Rd w' A m m (toL N)/\Fr w.heap.size A/\Below w.heap.size w w'
end Exa
namespace Exa
open Go Go.RowKit R5 Scn Fms
def qeB(F x f:Nat):Nat:=if x=0 then f else f+2^F
def qf1(E F x:Nat):Int:=2-(2^(E-1):Nat)-F+(if x=0 then 0 else(x:Int)-1)
def qfy(neg:Bool)(M:Nat)(p:Int)(w:qd)(e:Ending)(w':qd):Prop:=
 if M=0 then DyP qa 0 0 w e w' else DyP neg (M/2^tz M) (p+(tz M:Int)) w e w'
end Exa
namespace R2
open Go Go.RowKit B AB
end R2
end Go.Proofs.YthopehoklmgphaaGreatDoor
