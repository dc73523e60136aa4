/- Lemmas. -/
import Derived.Test.YtppgcnhlpnmieaaGreatDoorPartBL
import Derived.Outline
import Derived.Test.YtppgcnhlpnmieaaGreatDoorPartAZ
import Derived.Test.YtppgcnhlpnmieaaGreatDoorPartAY
import Derived.Test.YtppgcnhlpnmieaaGreatDoorPartBA
import Derived.Test.YtppgcnhlpnmieaaGreatDoorPartAW
set_option linter.all false
set_option maxHeartbeats 4000000
set_option maxRecDepth 100000
namespace Go.Proofs.YtppgcnhlpnmieaaGreatDoor.A
open Go Go.RowKit Scn
theorem qbD(x:Nat)(h:x<4294967296):bits .and .u32 (x:Int) 4294967295=(x:Int):=by
 have:=u32_and_nat x 4294967295 h (by omega);have e:x &&& 4294967295=x:=by
  have h2:=Nat.and_two_pow_sub_one_eq_mod x 32;rw[show(2:Nat)^32-1=4294967295 from rfl,show(2:Nat)^32=4294967296 from rfl] at h2;rw[h2];omega
 rw[e] at this;exact this
def qe8(w:World)(R:Nat)(i:Value)(wr:World):Prop:=
 ∃k:Nat,k<=1/\i=.int .i64 (k:Int)/\Own wr w.heap.size 34 [if k=0 then 0 else R]/\Below w.heap.size w wr
theorem And32(g o gx ox gy oy:Nat)(v:Int)(X:Nat)(w:World)(h:IntAt w g o v)(hx:IntAt w gx ox (X:Int))(hy:IntAt w gy oy 4294967295)(sX:Sz X)(h0:0<X):
  Calls Tryz.prog 260 #[.pointer (some ⟨g,o,none⟩),.pointer (some ⟨gx,ox,none⟩),.pointer (some ⟨gy,oy,none⟩)] w (q0i g o ((X%4294967296:Nat):Int) w):=by
 have HI:=vv h;have a8:=hx.lt;have a9:=hy.lt;obtain⟨A,n,c,-,h1,hr,hz⟩:=hx.ex;obtain⟨B,m,d,-,k1,hs,b0⟩:=hy.ex;rw[Int.natAbs_natCast] at hr;have hs:Rd w B m d (toL 4294967295):=hs;have b3:m=1:=by
  have a:=hs.bound (k:=1) (by rw[Nat.pow_one];decide);rcases Nat.eq_zero_or_pos m with e|e
  ·subst e;have:=hs.lt;rw[q00,Nat.pow_zero] at this;omega
  ·omega
 subst b3;have b4:=hr.sz sX;have a4:0<n:=by
  rcases Nat.eq_zero_or_pos n with e|e
  ·subst e;have:=hr.lt;rw[q00,Nat.pow_zero] at this;omega
  ·exact e
 obtain⟨b1,o1,rfl,b5,a5⟩:=hr.cell a4;obtain⟨b2,o2,rfl,b6,a6⟩:=hs.cell (by decide);have x0:=a5 0 a4;have y0:=a6 0 (by decide);rw[Nat.add_zero] at x0 y0;have ex:nth (toL X) 0=X%4294967296:=by rw[q0K,Nat.pow_zero,Nat.div_one]
 have ey:((nth (toL 4294967295) 0:Nat):Int)=4294967295:=by rw[q0K];rfl
 rw[ex] at x0;rw[ey] at y0;obtain⟨R,hR⟩:=yx (X%4294967296);rw[<- hR] at x0 ⊢;have a1:R<4294967296:=by omega
 have d1:(n:Int)<=8589934592:=by omega
 have b7:(1:Int)<=(n:Int):=by omega
 have b8:=vv a1;have a2:=vv (qbD R a1);have b9:=vv (fun(w':World) (h:Below w.heap.size w w')=>And.intro ((h.cell (p:=⟨gx,ox+1,none⟩) a8).trans h1) (And.intro ((h.cell (p:=⟨gy,oy+1,none⟩) a9).trans k1) (And.intro ((h.cell (p:=⟨b1,o1,none⟩) b5).trans x0) ((h.cell (p:=⟨b2,o2,none⟩) b6).trans y0))));have d2:∀w,(Instr.makeSlice 26 (.int .i64 1) (.int .i64 1)).run Tryz.prog w=.ok (.slice (some ⟨w.heap.size,0,none⟩) 1 1) (w.alloc (.cells (madeCells #[.int .u32 0] 1) 34)):=fun w=>mk 1 (by omega) w
 have c0:min (n:Int) 1=1:=by omega
 clear hx hy h a5 a6 hr hs hz b0 ex ey hR a1 sX h0 b4;go_enter Tryz.func260,Tryz.ntmps260
 go_wp2_with fail
 refine q01 (fun w'=>w'.cell? ⟨gx,ox+1,none⟩=some (.slice (some ⟨b1,o1,none⟩) n c)/\w'.cell? ⟨gy,oy+1,none⟩=some (.slice (some ⟨b2,o2,none⟩) 1 d)) 11
  (.still 0 (.still 1 (.still 2 (.still 3 (.still 4 (.still 5 (.still 6 (.still 7 (.still 8 (.still 9 (.still 10 .done))))))))))) (by kernel_rfl) (by kernel_rfl) (fun _ _ d _ _ h=>by cases d<;>exact h) ⟨h1,k1⟩ (fun hS0=>?_)
 iterate 11
  refine q02 (v:=?_) rfl (by rfl) ?_ ?_;rotate_left
  ·intro w c5;go_simp;with_reducible rfl
  simp only[Act.put,sa,sb,sc]
 refine q08 ?_;simp only[List.drop_succ_cons,List.drop_zero];clear hS0;go_wp2;have hO:Own (w.drew.alloc (.cells (madeCells #[.int .u32 0] 1) 34)) w.heap.size 34 [0]:=Own.made w.drew 1 34;have hB:Below w.heap.size w (w.drew.alloc (.cells (madeCells #[.int .u32 0] 1) 34)):=(q04 (Below.refl _ w)).alloc lr _;have HO:=vv hO;have HB:=vv hB;clear hO hB;go_loopw [9] (fun i wr=>qe8 w R i wr) (fun i _=>1-(intOf i).toNat)
 case atStart=>exact⟨0,by omega,rfl,HO.o,HB.o⟩
 case round =>
  obtain⟨k,hk,rfl,hO,hB⟩:=hrel;have HO:=vv hO;have HB:=vv hB;clear hO hB;rcases(by omega:k=0\/k=1) with rfl|rfl
  ·obtain⟨c1,c2,c3,c4⟩:=b9.o _ HB.o;have ow:=HO.o.cell (i:=0) (by simp);have of:=HO.o.frozen 0;have ol:=HO.o.lt;go_wp2_with fail
   refine q01 (fun w'=>w'.cell? ⟨gx,ox+1,none⟩=some (.slice (some ⟨b1,o1,none⟩) n c)/\w'.cell? ⟨gy,oy+1,none⟩=some (.slice (some ⟨b2,o2,none⟩) 1 d)/\w'.cell? ⟨b1,o1,none⟩=some (.int .u32 (R:Int))/\w'.cell? ⟨b2,o2,none⟩=some (.int .u32 4294967295)) 18
    (.still 0 (.still 1 (.still 2 (.still 3 (.still 4 (.still 5 (.still 6 (.still 7 (.still 8 (.still 9 (.still 10 (.still 11 (.still 12 (.still 13 (.still 14 (.still 15 (.still 16 (.still 17 .done)))))))))))))))))) (by kernel_rfl) (by kernel_rfl) (fun _ _ d _ _ h=>by cases d<;>exact h) ⟨c1,c2,c3,c4⟩ (fun hS0=>?_)
   have a3:=a2.o
   iterate 18
    refine q02 (v:=?_) rfl (by rfl) ?_ ?_;rotate_left
    ·intro w c5;go_simp;with_reducible rfl
    simp only[Act.put,sa,sb,sc]
   refine q08 ?_;simp only[List.drop_succ_cons,List.drop_zero];clear hS0 a3 c1 c2 c3 c4;obtain⟨w2,a0⟩:=yx ((wr.setCell ⟨w.heap.size,0,none⟩ (.int .u32 (R:Int))).drew);have c6:Hid (Own w2 w.heap.size 34 [R]):=vv (by rw[a0];exact(HO.o.set (i:=0) (x:=R) (by simp) b8.o rfl).drew);have c7:Hid (Below w.heap.size w w2):=vv (by rw[a0];exact q04 (HB.o.setCell lr _));have a7:=vv a0;clear a0;go_wp2;go_roundw
   case rel=>exact⟨1,by omega,by go_num,by rw[<- a7.o];exact c6.o,by rw[<- a7.o];exact c7.o⟩
   case measure=>simp [intOf]
  ·have HR:Hid (Rd wr (some ⟨w.heap.size,0,none⟩) 1 1 [R]):=vv (HO.o.rd rfl lr (by decide));have c8:=vv (HI.o.below HB.o);clear hk;go_wp2_with fail
   refine(qaV g o v ((R:Nat):Int) false _ 1 1 [R] wr c8.o HR.o (fun a e=>by cases e;rfl) (by rw[Int.natAbs_natCast];simp [val]) (by rw[Bool.false_and];exact decide_eq_false (by omega))).mono ?_;rintro e w3 ⟨rfl,hI,hF⟩;have c9:=vv hI;have d0:=vv (Fm.trans (Fm.of_below HB.o HI.o.lt) hF);clear hI hF;go_wp2;go_ret
   exact⟨rfl,c9.o,d0.o⟩
def qdP(g o:Nat)(u:Int)(B:Nat)(w:World)(e:Ending)(w':World):Prop:=
 q0i g o u w e w'/\∃A n c,w'.cell? ⟨g,o+1,none⟩=some (.slice A n c)/\Fr B A
def qaH(g o:Nat)(u:Int)(w:World)(e:Ending)(w':World):Prop:=qdP g o u w.heap.size w e w'
theorem q80(g o:Nat)(v u:Int)(b:Bool)(A:Option Addr)(n c N B:Nat)(w:World)(h:IntAt w g o v)(hr:Rd w A n c (toL N))(hz:Fr B A)
  (hu:u.natAbs=N) (hb:decide (u<0)=(b && decide (0<N))) :
  Calls Tryz.prog 240 #[.pointer (some ⟨g,o,none⟩),.bool b,.slice A n c] w (qdP g o u B w):=by
 have a2:=hr.sm;have HT:=vv (q1a A n c (toL N) w hr);have HI:=vv h;have a5:=h.lt;have a6:=h.fz o;have a7:=h.fz (o+1);obtain⟨A',n',c',h0,h1,a3,a4⟩:=h.ex;have HU:=vv hu;have HB:=vv hb;have HZ:=vv hz;clear h hr a3 a4 hu hb;have H1:=vv h1;go_enter Tryz.func240,Tryz.ntmps240
 go_wp2_with fail
 refine HT.o.mono ?_;rintro e w' ⟨m,rfl,rfl,hR⟩;rw[q00] at hR;have a8:=hR.sm;have a0:m=0↔N=0:=by
  have:=hR.words;rw[<- this];exact q05
 have HR:=vv hR;clear hR HT a2;have ne:(⟨g,o,none⟩:Addr)≠⟨g,o+1,none⟩:=fun e=>by injection e with _ e;omega
 have a1:=vv ne;clear ne;cases b
 ·have HF:Hid (decide (u<0)=false):=vv (by rw[HB.o];rfl);clear a0;go_wp2;go_ret
  exact⟨⟨rfl,HI.o.put HF.o.symm (by rw[HU.o];exact HR.o) (fun a e=>(HZ.o a e).2),q3S _ _ _ _ _⟩,A,m,c,(q0z a1.o).trans (q0r H1.o),HZ.o⟩
 ·have HF:Hid (decide (u<0)=decide (0<m)):=vv (by rw[HB.o,Bool.true_and];by_cases h:m=0<;>simp<;>omega);clear a0;go_wp2;go_ret
  exact⟨⟨rfl,HI.o.put HF.o.symm (by rw[HU.o];exact HR.o) (fun a e=>(HZ.o a e).2),q3S _ _ _ _ _⟩,A,m,c,(q0z a1.o).trans (q0r H1.o),HZ.o⟩
theorem Set_own(g o gx ox:Nat)(v u:Int)(w:World)(h:IntAt w g o v)(hx:IntAt w gx ox u):
  Calls Tryz.prog 250 #[.pointer (some ⟨g,o,none⟩),.pointer (some ⟨gx,ox,none⟩)] w (qaH g o u w):=by
 have HI:=vv h;have a0:=hx.lt;obtain⟨A,n,c,h0,h1,hr,hz⟩:=hx.ex;have HR:=vv hr.drew;have HZ:=vv hz;clear hr hz h hx;go_enter Tryz.func250,Tryz.ntmps250
 go_wp2_with fail
 go_region_with (first
  | (go_at_call 241;(with_reducible refine(q0F _ _ _ _ _ HR.o).mono ?_);rintro e w1 ⟨rfl,hO,hB⟩;have a1:Hid (Rd w1 (some ⟨w.heap.size,0,none⟩) n n (toL u.natAbs)):=vv (hO.rd HR.o.len.symm lr HR.o.sm);have a2:=(hB.cell (p:=⟨gx,ox,none⟩) a0).trans h0)
  | (go_at_call 240;(with_reducible refine(q80 g o v u _ _ n n u.natAbs w.heap.size _ (HI.o.drew.below hB) a1.o (Fr.at_ lr) rfl (q6d u)).mono ?_);rintro e w2 ⟨⟨rfl,hI,hF⟩,hX⟩))
 all_goals
  have HX:=vv hX;clear hX;go_wp2;go_ret
  exact⟨⟨rfl,hI,((Fm.of_below hB HI.o.lt).trans hF).undrew⟩,HX.o⟩
theorem Rsh_own(g o gx ox k:Nat)(v u:Int)(w:World)(h:IntAt w g o v)(hx:IntAt w gx ox u)(hu:0<=u)(hk:k<1000000000000):
  Calls Tryz.prog 259 #[.pointer (some ⟨g,o,none⟩),.pointer (some ⟨gx,ox,none⟩),.int .u64 (k:Int)] w (qaH g o (u/2^k) w):=by
 have HI:=vv h;have a0:=hx.lt;obtain⟨A,n,c,h0,h1,hr,hz⟩:=hx.ex;have hd:decide (u<0)=false:=decide_eq_false (by omega);rw[hd] at h0;have a2:IntKind.i64.wrap (k:Int)=(k:Int):=by rw[IntKind.wrap_i64];omega
 have HM:=vv (qaC A n c _ k _ rfl w hr (by omega));have HU:Hid ((u/2^k).natAbs=u.natAbs/2^k):=vv (by
  obtain⟨N,rfl⟩:∃N:Nat,u=(N:Int):=⟨u.toNat,by omega⟩;have:((N:Int)/2^k)=((N/2^k:Nat):Int):=by rw[Int.natCast_ediv,Int.natCast_pow];rfl
  rw[this];rfl)
 have HP:Hid (0<=u/2^k):=vv (Int.ediv_nonneg hu (by
  have:(0:Int)<2^k:=by exact_mod_cast Nat.pow_pos (n:=k) (show 0<2 by decide)
  omega))
 clear hr hz h hx hk hu hd;go_enter Tryz.func259,Tryz.ntmps259
 go_wp2_with fail
 refine HM.o.mono ?_;rintro e w1 ⟨A',m',c',rfl,hR,a1,hB⟩;have HB:=vv hB;have j0:=(hB.cell (p:=⟨gx,ox,none⟩) a0).trans h0;have j1:=(hB.cell (p:=⟨gx,ox+1,none⟩) a0).trans h1;rw[q00] at hR;have HR:=vv hR;have HF:=vv a1;have a3:gx<w1.heap.size:=Nat.lt_of_lt_of_le a0 hB.size;clear hR a1 hB h0 h1 a0;go_wp2_with fail
 refine(q80 g o v (u/2^k) _ A' m' c' (u.natAbs/2^k) w.heap.size _ (HI.o.below HB.o) HR.o HF.o HU.o (q1w HP.o)).mono ?_;rintro e w2 ⟨⟨rfl,hI,hF⟩,hX⟩;have HX:=vv hX;clear hX;go_wp2;go_ret
 exact⟨⟨rfl,hI,(Fm.of_below HB.o HI.o.lt).trans hF⟩,HX.o⟩
end Go.Proofs.YtppgcnhlpnmieaaGreatDoor.A
namespace Go.Proofs.YtppgcnhlpnmieaaGreatDoor.Rnd
open Go Go.RowKit R5 Scn
theorem q4I(N k:Nat)(h:k<words N):(toL N).take (k+1)=(toL N).take k++[N/4294967296^k%4294967296]:=by
 have e:=q0K N k;unfold words at h;rw[List.take_succ_eq_append_getElem h];congr 2
 rw[<- e];unfold nth;rw[List.getD_eq_getElem?_getD,List.getElem?_eq_getElem h]
 rfl
theorem q30(N k:Nat):0<N/4294967296^k↔k<words N:=by
 constructor
 ·intro h;rcases Nat.lt_or_ge k (words N) with h1|h1
  ·exact h1
  ·have h2:=q0h N;have h3:N<4294967296^k:=Nat.lt_of_lt_of_le h2 (Nat.pow_le_pow_right (by decide) h1);rw[Nat.div_eq_of_lt h3] at h;omega
 ·intro h;rcases Nat.eq_zero_or_pos (N/4294967296^k) with h1|h1
  ·have h3:N<4294967296^k:=by
    rcases Nat.lt_or_ge N (4294967296^k) with h4|h4
    ·exact h4
    ·have:=Nat.div_pos h4 (Nat.pow_pos (by decide));omega
   have:=q1q h3;omega
  ·exact h1
theorem Rd.row{w w':World}{A:Option Addr}{n c:Nat}{xs:List Nat}{row:Option Nat}(h:Rd w A n c xs)(hg:w.grownBy w' row)(hne:∀a,A=some a->row≠some a.block):Rd w' A n c xs:=
 ⟨h.len,h.le,h.sm,h.lim,fun hn=>by
  obtain⟨b,off,e,hlt,hc⟩:=h.cell hn;exact⟨b,off,e,Nat.lt_of_lt_of_le hlt hg.size,fun j hj=>(World.cell?_of_block (a:=⟨b,off+j,none⟩) (hg.block b hlt (fun k=>hne _ e k.symm))).trans (hc j hj)⟩⟩
def q4g(wr:World)(g:Nat)(X:Nat)(row:Option Nat):Prop:=IntAt wr g 0 (X:Int)/\∃A n c,wr.cell? ⟨g,0+1,none⟩=some (.slice A n c)/\∀a,A=some a->row≠some a.block
theorem q4g.below{w w':World}{g X:Nat}{row:Option Nat}(h:q4g w g X row)(hb:Below w.heap.size w w'):q4g w' g X row:=by
 obtain⟨h1,A,n,c,h2,h3⟩:=h;exact⟨h1.below hb,A,n,c,(hb.cell (p:=⟨g,0+1,none⟩) h1.lt).trans h2,h3⟩
theorem q4g.grown{w w':World}{g X:Nat}{row:Option Nat}(h:q4g w g X row)(hg:w.grownBy w' row)(hne:row≠some g):IntAt w' g 0 (X:Int):=by
 obtain⟨h1,A,n,c,h2,h3⟩:=h;obtain⟨A',n',c',k0,k1,hr,hz⟩:=h1.ex;rw[h2] at k1;cases k1
 have hb:w'.heap[g]?=w.heap[g]?:=hg.block g h1.lt (fun k=>hne k.symm);obtain⟨x,hx⟩:=h1.head;exact⟨Nat.lt_of_lt_of_le h1.lt hg.size,⟨x,(World.cell?_of_block (a:=⟨g,0,none⟩) hb).trans hx⟩,fun j=>(World.frozen?_of_block (a:=⟨g,j,none⟩) hb).trans (h1.fz j),
  A,n,c,(World.cell?_of_block (a:=⟨g,0,none⟩) hb).trans k0,(World.cell?_of_block (a:=⟨g,0+1,none⟩) hb).trans h2,Rd.row hr hg h3,hz⟩
theorem q4g.fs{w w':World}{g g' X:Nat}{row:Option Nat}(h:q4g w g X row)(hf:Fs [(g',0,2)] w w')(hne:g'≠g):q4g w' g X row:=by
 obtain⟨h1,A,n,c,h2,h3⟩:=h;exact⟨h1.fs1 hf hne,A,n,c,(hf.cell g (0+1) h1.lt (fun p hp e=>by rw[List.mem_singleton.1 hp] at e;exact absurd e hne)).trans h2,h3⟩
def LmI(w:World)(N:Nat)(v:Value)(wr:World):Prop:=
 ∃(k:Nat),k<=words N/\(∃A cap,v=.slice A k cap)/\q4g wr (w.heap.size+1) (N/4294967296^k) v.ownBlock/\wr.ownsRow (w.heap.size+2) 34 1 v k (q0p ((toL N).take k)) /\
  Ctx w [(w.heap.size,28,[.slice none 0 0])] wr/\w.heap.size+2<=wr.heap.size
def qcT(N:Nat)(w:World)(e:Ending)(w':World):Prop:=∃A n c,e=.returned (q1u A n c)/\Rd w' A n c (toL N)/\Fr w.heap.size A/\Below w.heap.size w w'
def lmM(N:Nat)(v:Value):Nat:=match v with|.slice _ n _=>words N-n|_=>0
theorem q7x(g N:Nat)(w:World)(h:IntAt w g 0 (N:Int))(sN:bl N<=4294967296):
  Calls Tryz.prog 166 #[.pointer (some ⟨g,0,none⟩)] w (qcT N w):=by
 have c5:=h.lt;have c6:words N<=8589934592:=Sz.words (by unfold Sz;omega);obtain⟨w0,a6⟩:=yx ((w.alloc (.cells #[.slice none 0 0] 28)).alloc (.cells #[.bool false,.slice none 0 0] 206));have hC:Ctx w [(w.heap.size,28,[.slice none 0 0])] w0:=by
  rw[a6];exact((Ctx.nil w).new _ _ rfl).step ((Below.refl _ _).alloc lr _)
 have hZ:IntAt w0 (w.heap.size+1) 0 0:=by
  rw[a6];have:=IntAt.zero (w.alloc (.cells #[.slice none 0 0] 28)) 206
  rwa [World.size_alloc] at this
 have c7:w0.heap.size=w.heap.size+2:=by rw[a6];simp
 have HC:=vv hC;have HZ:=vv hZ;have HI:=vv (h.below hC.low);have HW:=vv a6;have f5:=vv c7;have i7:=vv c5;have c8:=vv c6;have f6:=vv (show Sz N by unfold Sz;omega);obtain⟨i0,hi,f7,f8,f9⟩:=info_parts Go.Proofs.YtppgcnhlpnmieaaGreatDoor.A.inf;clear a6 hC hZ c7 h c5 sN c6;go_enter Tryz.func166,Tryz.ntmps166
 go_wp2_with fail
 rw[<- HW.o];refine(A.Set_own (w.heap.size+1) 0 g 0 0 (N:Int) _ HZ.o HI.o).mono ?_;rintro e w1 ⟨⟨rfl,hI,hF⟩,hX⟩;have c9:Hid (q4g w1 (w.heap.size+1) N none):=vv ⟨hI,by
  obtain⟨A,n,c,h1,-⟩:=hX;exact⟨A,n,c,h1,fun a e k=>by cases k⟩⟩
 have d0:=vv (HC.o.write hF.grown (by omega) (by intro x hx;rw[List.mem_singleton.1 hx];show w.heap.size≠_;omega));have d1:Hid (w.heap.size+2<=w1.heap.size):=vv (by have:=hF.size;have:=f5.o;omega);clear hI hF HC HZ HI hX;go_wp2;go_loopw [3] (fun v wr=>LmI w N v wr) (fun v _=>lmM N v)
 case atStart=>exact⟨0,Nat.zero_le _,⟨none,0,rfl⟩,(by rw[Nat.pow_zero,Nat.div_one];exact c9.o),World.ownsRow_nil _ _ _ _,d0.o,d1.o⟩
 case round =>
  obtain⟨k,hk,⟨A0,cap,rfl⟩,hI,hR,hC,hS⟩:=hrel;have HI:=vv hI;have HC:=vv hC;have HR:=vv hR;have g0:=vv hS;have HK:=vv hk;obtain⟨X,hX⟩:=yx (N/4294967296^k);rw[<- hX] at HI;have HX:=vv hX;have a4:Hid (∀b,(Value.slice A0 k cap).ownBlock=some b->w.heap.size+2<=b/\b<wr.heap.size):=vv (fun b e=>hR.lt b e);clear hI hR hC hS hk hX d0 c9 d1;rcases Nat.eq_zero_or_pos X with h0|h0
  ·have HE:Hid (k=words N):=vv (by
    have h1:=(q30 N k).2;have:=HK.o;have h2:=HX.o;rw[h0] at h2;rcases Nat.lt_or_ge k (words N) with h3|h3
    ·have:=h1 h3;omega
    ·omega)
   have hs:((X:Nat):Int).sign=0:=by rw[h0];rfl
   have b8:=vv hs;have b0:=HC.o.get 0 rfl |>.cell 0;have bl:=HC.o.get 0 rfl |>.lt;have bf:=HC.o.get 0 rfl |>.fz 0;simp only[List.getElem?_cons_zero] at b0;obtain⟨w9,a7⟩:=yx (wr.setCell ⟨w.heap.size,0,none⟩ (.slice A0 k cap));have a8:=A.row_rd HR.o (by exact q0k (q1A N) _) (by have:=c8.o;have:=HK.o;omega);have ht:(toL N).take k=toL N:=by rw[HE.o];exact List.take_length
   rw[ht] at a8;have g1:Hid (Rd w9 A0 k cap (toL N)):=vv (by rw[a7];exact a8.1.other _ _ _ (fun a e=>by have:=(a8.2 a e).1;omega));have g2:Hid (Fr w.heap.size A0):=vv (a8.2.mono (by omega));have g3:Hid (Below w.heap.size w w9):=vv (by rw[a7];exact HC.o.low.setCell lr _);have k0:w9.cell? ⟨w.heap.size,0,none⟩=some (.slice A0 k cap):=by rw[a7];exact q0r b0
   have g4:=vv a7;have g5:=vv k0;clear hs h0 a8 ht a7 k0;go_wp2_with fail
   refine(A.Sign (w.heap.size+1) 0 _ _ HI.o.1).mono ?_;rintro e w' ⟨rfl,rfl⟩;rw[b8.o];go_wp2;rw[<- g4.o];have k0:=g5.o;exact bodyPost_ret (v:=q1u A0 k cap) (by simp [results,Tryz.results166,go_sem,k0]) rfl ⟨A0,k,cap,rfl,g1.o,g2.o,g3.o⟩
  ·obtain⟨v,hv⟩:=yx (Value.slice A0 k cap);rw[<- hv] at HR HI a4 ⊢;have HV:=vv hv;clear hv;have hs:((X:Nat):Int).sign=1:=Int.sign_eq_one_of_pos (by omega);have b8:=vv hs;have b1:Hid (k<words N):=vv ((q30 N k).1 (by rw[<- HX.o];exact h0));have g6:=vv h0;have g7:Hid (Sz X):=vv (Sz.mono f6.o (by rw[HX.o];exact Nat.div_le_self _ _));clear hs h0;go_wp2_with fail
   refine(A.Sign (w.heap.size+1) 0 _ _ HI.o.1).mono ?_;rintro e w' ⟨rfl,rfl⟩;rw[b8.o];go_wp2_with fail
   obtain⟨w2,b2⟩:=yx (wr.alloc (.cells #[.bool false,.slice none 0 0] 206));have b3:Below wr.heap.size wr w2:=by rw[b2];exact(Below.refl _ _).alloc lr _
   obtain⟨gz,a9⟩:=yx (wr.heap.size);have d2:Hid (IntAt w2 gz 0 0):=vv (by rw[b2,a9];exact IntAt.zero _ _);have d3:=vv (HI.o.below b3);have d4:=vv (HC.o.step b3);have d5:Hid (w2.ownsRow (w.heap.size+2) 34 1 v k (q0p ((toL N).take k))):=vv (row_below HR.o b3 rfl);have b4:Hid (w.heap.size+2<=gz):=vv (by rw[a9];exact g0.o);rw[<- a9] at a4;rw[<- b2,<- a9];clear b3 b2 a9;refine(A.NewInt 4294967295 w2 (by omega) (by omega)).mono ?_;rintro e w3 ⟨gy,rfl,g8,d6,hB⟩;have d7:=vv d6;have b9:=vv (d2.o.below hB);have c0:=vv (d3.o.below hB);have d8:=vv (d4.o.step hB);have d9:Hid (w3.ownsRow (w.heap.size+2) 34 1 v k (q0p ((toL N).take k))):=vv (row_below d5.o hB rfl);have b5:Hid (∀b,v.ownBlock=some b->w.heap.size+2<=b/\b<gz):=vv a4.o;clear d6 g8 hB d2 d3 d4 d5;go_wp2_with fail
   refine(A.And32 gz 0 (w.heap.size+1) 0 gy 0 0 X w3 b9.o c0.o.1 d7.o g7.o g6.o).mono ?_;rintro e w4 ⟨rfl,hI,a1⟩;have hF:=a1.fs b9.o hI;obtain⟨R,hR⟩:=yx (X%4294967296);rw[<- hR] at hI;have e0:R<4294967296:=by omega
   have c2:=vv hI;have e3:=vv (c0.o.fs hF (by have:=b4.o;omega));have c3:=vv (d8.o.write a1.grown (by have:=b4.o;omega) (by intro x hx;rw[List.mem_singleton.1 hx];have:=b4.o;show w.heap.size≠_;omega));have e4:Hid (w4.ownsRow (w.heap.size+2) 34 1 v k (q0p ((toL N).take k))):=vv (d9.o.kept a1.grown (by
    right
    intro e;have:=(b5.o gz e).2;omega))
   have g9:=vv hR;have i8:(R:Int)<=4294967295:=by omega
   have i1:=vv e0;clear hI a1 hF hR b9 c0 d8 d9 d7 e0;go_wp2_with fail
   refine(A.Uint64 gz 0 (R:Int) w4 c2.o (by rw[Int.natAbs_natCast];have:=i1.o;omega)).mono ?_;rintro e w' ⟨rfl,rfl⟩;rw[Int.natAbs_natCast];have a5:Hid (w.heap.size+2<=w4.heap.size):=vv (by have:=b4.o;have:=c2.o.lt;omega);have i2:=b1.o;have i3:=c8.o;go_wp2_with (at_builtin;refine wpList_append_own _ rfl _ _ 26 rfl (w.heap.size+2) 34 i0 (.int .u32 0) 1 4 Tryz.underlying26 hi f7 f8 f9 rfl (by decide) _ k (q0p ((toL N).take k)) rfl (e4.o.alloc _) ⟨w4.heap.size,0,none⟩ 1 1 [.int .u32 (R:Int)] rfl rfl (cell_one_new _ _ _) (by simp [Value.oneCell']) (by unfold maxLen;omega) (by omega) (by have:=c3.o.low.size;have:=a5.o;simp;omega) ?_)
   intro v' w5 a2 a0 _;have b6:Below w4.heap.size w4 (w4.alloc (.cells #[.int .u32 (R:Int)] 34)):=(Below.refl _ _).alloc lr _;have e5:IntAt w5 (w.heap.size+1) 0 (X:Int):=(e3.o.below b6).grown a0 (fun e=>by have:=(b5.o _ e).1;omega);have e6:Ctx w [(w.heap.size,28,[.slice none 0 0])] w5:=(c3.o.step b6).row a0 (fun b e=>⟨by have:=(b5.o _ e).1;omega,fun x hx=>by rw[List.mem_singleton.1 hx];have:=(b5.o _ e).1;show w.heap.size≠b;omega⟩);have e7:w.heap.size+2<=w5.heap.size:=by have:=a5.o;have:=b6.size;have:=a0.size;omega
   have a3:w5.ownsRow (w.heap.size+2) 34 1 v' (k+1) (q0p ((toL N).take (k+1))):=by
    rw[q4I N k b1.o,<- HX.o,<- g9.o];have e:q0p ((toL N).take k++[R])=q0p ((toL N).take k)++[.int .u32 (R:Int)]:=by simp [q0p]
    rw[e];exact a2
   have c4:=vv e5;have e8:=vv e6;have b7:=vv a3;have e9:=vv e7;clear b6 e5 e6 e7 a3 a2 a0 i2 i3 e3 c3 e4 c2 a5;go_wp2_with fail
   refine(A.Rsh_own (w.heap.size+1) 0 (w.heap.size+1) 0 32 (X:Int) (X:Int) w5 c4.o c4.o (by omega) (by omega)).mono ?_;rintro e w6 ⟨⟨rfl,hI,a1⟩,f0⟩;have f1:v'.ownBlock≠some (w.heap.size+1):=fun e=>by have:=(b7.o.lt _ e).1;omega
   have f2:Hid (w6.ownsRow (w.heap.size+2) 34 1 v' (k+1) (q0p ((toL N).take (k+1)))):=vv (b7.o.kept a1.grown (.inr f1));have i4:=vv (e8.o.write a1.grown (by omega) (by intro x hx;rw[List.mem_singleton.1 hx];show w.heap.size≠_;omega));have i5:Hid (w.heap.size+2<=w6.heap.size):=vv (by have:=a1.size;have:=e9.o;omega);have f3:((X:Int)/2^32)=((N/4294967296^(k+1):Nat):Int):=by
    rw[Nat.pow_succ,<- Nat.div_div_eq_div_mul,<- HX.o];omega
   rw[f3] at hI;have i6:Hid (q4g w6 (w.heap.size+1) (N/4294967296^(k+1)) v'.ownBlock):=vv ⟨hI,by
    obtain⟨A,n,c,h1,h2⟩:=f0;refine⟨A,n,c,h1,fun a e e2=>?_⟩;have:=(b7.o.lt _ e2).2;have:=(h2 a e).1;omega⟩
   have f4:=vv (Pnt.row_len_any f2.o);clear hI a1 f0 f3 f1 b7 e8 c4 e9;go_wp2;go_roundw
   case rel=>exact⟨k+1,b1.o,f4.o,i6.o,f2.o,i4.o,i5.o⟩
   case measure =>
    obtain⟨A1,c1,e1⟩:=f4.o;rw[e1,HV.o];have:=b1.o;show words N-(k+1)<words N-k;omega
end Go.Proofs.YtppgcnhlpnmieaaGreatDoor.Rnd
namespace Go.Proofs.YtppgcnhlpnmieaaGreatDoor.Rtp
open Go Go.RowKit R5 Scn
def RatP(p:Int)(D:Nat)(w:World)(e:Ending)(w':World):Prop:=
 ∃X n Y m,e=.returned (.tuple #[q1b (decide (p<0)) X n n Y m m,.int .i64 0])/\Rd w' X n n (toL (lp p D).natAbs)/\Rd w' Y m m (toL (ld p D))/\Below w.heap.size w w'
theorem wds_bl{N:Nat}{w:World}{A:Option Addr}{n c:Nat}(h:Rd w A n c (toL N))(hn:n<=16384):bl N<=524288:=by
 have k1:=q0h N;rw[h.words,q1J] at k1;have:=q0t k1;omega
theorem lp_le(p:Int)(D:Nat):(lp p D).natAbs<=p.natAbs:=by
 rw[q2I];exact Nat.div_le_self _ _
theorem q2U(p:Int)(D:Nat)(h:0<D):ld p D<=D:=by
 exact Nat.div_le_self _ _
def MkI(w:World)(X:Option Addr)(n c:Nat)(Y:Option Addr)(m d:Nat)(i:Value)(wr:World):Prop:=
 ∃k:Nat,k<=2/\i=.int .i64 (k:Int)/\Ctx w [(w.heap.size+3,28,[.slice X n c,.slice Y m d]),(w.heap.size+2,115,[.bool false,.slice none 0 0,.slice none 0 0]),(w.heap.size+1,28,[.slice Y m d]),(w.heap.size,28,[.slice X n c])] wr
theorem Make(neg:Bool)(X:Option Addr)(n c:Nat)(Y:Option Addr)(m d N D:Nat)(w:World)(hX:Rd w X n c (toL N))(hY:Rd w Y m d (toL D))(hn:n<=16384)(hm:m<=16384)(hD:0<D)(hst:Std w):
  Calls Tryz.prog 69 #[.bool neg,q1u X n c,q1u Y m d] w (RatP (sg neg N) D w):=by
 have d6:=wds_bl hX hn;have d7:=wds_bl hY hm;have d8:0<m:=by
  rcases Nat.eq_zero_or_pos m with h|h
  ·subst h;have:=hY.lt;rw[q00,Nat.pow_zero] at this;omega
  ·exact h
 have d9:Hid (∀wr,Rd wr X n c (toL N)->Calls Tryz.prog 131 #[q1u X n c] wr fun e w'=>e=.returned (.int .i64 0)/\Below wr.heap.size wr w'):=vv fun wr h=>Pnt.Check_ok h hn
 have a9:Hid (∀wr,Rd wr Y m d (toL D)->Calls Tryz.prog 131 #[q1u Y m d] wr fun e w'=>e=.returned (.int .i64 0)/\Below wr.heap.size wr w'):=vv fun wr h=>Pnt.Check_ok h hm
 have e0:=vv fun wr (h:Rd wr X n c (toL N))=>q3z X n c N wr h (by omega)
 have e1:=vv fun wr (h:Rd wr Y m d (toL D))=>q3z Y m d D wr h (by omega)
 have e2:=vv fun g wr (h:IntAt wr g 0 (N:Int))=>A.Neg g 0 g 0 (N:Int) (N:Int) wr h h
 have e3:=vv fun g gx gy u wr (h:RatSh wr g) (hx:IntAt wr gx 0 u) (hy:IntAt wr gy 0 (D:Int)) (hu:u.natAbs=N) (hs:Std wr)=>A.SetFrac g gx gy u D wr h hx hy hD hs (by rw[hu];unfold Sz;omega) (by unfold Sz;omega)
 obtain⟨p,hp⟩:=yx (sg neg N);have b1:p.natAbs=N:=by rw[hp];exact q0C _ _
 have e4:=vv fun g wr (h:RatAt wr g p D)=>qcZ g p D wr h (by have:=q1R (lp_le p D);rw[b1] at this;omega) (by have:=q1R (q2U p D hD);omega)
 rw[<- hp];have HP:=vv hp;have e5:=vv b1;have HX:=vv hX;have HY:=vv hY;have e6:=vv hst;obtain⟨w3,b2⟩:=yx ((((w.alloc (.cells #[.slice X n c] 28)).alloc (.cells #[.slice Y m d] 28)).alloc (.cells #[.bool false,.slice none 0 0,.slice none 0 0] 115)).alloc (.cells #[.slice X n c,.slice Y m d] 28));have hC:Ctx w [(w.heap.size+3,28,[.slice X n c,.slice Y m d]),(w.heap.size+2,115,[.bool false,.slice none 0 0,.slice none 0 0]),(w.heap.size+1,28,[.slice Y m d]),(w.heap.size,28,[.slice X n c])] w3:=by
  rw[b2];exact((((Ctx.nil w).new _ _ rfl).new _ _ (by simp)).new _ _ (by simp)).new _ _ (by simp)
 have HW:=vv b2;have HC:=vv hC;have f4:(n:Int)<=16384:=by omega
 have f5:(m:Int)<=16384:=by omega
 have tm:((m:Int)==0)=false:=by rw[beq_eq_false_iff_ne];omega
 clear b2 hC hX hY hn hm hD hst d6 d7 d8 hp b1;go_enter Tryz.func69,Tryz.ntmps69
 go_wp2;rw[<- HW.o];go_loopw [16] (fun i wr=>MkI w X n c Y m d i wr) (fun i _=>2-(intOf i).toNat)
 case atStart=>exact⟨0,by omega,rfl,HC.o⟩
 case round =>
  obtain⟨k,hk,rfl,hC⟩:=hrel;have HC:=vv hC;have a0:=hC.get 0 rfl |>.cell 0;have a1:=hC.get 0 rfl |>.cell 1;have al:=hC.get 0 rfl |>.lt;simp only[List.getElem?_cons_zero,List.getElem?_cons_succ] at a0 a1;clear hC;rcases(by omega:k=0\/k=1\/k=2) with rfl|rfl|rfl
  ·go_wp2_with fail
   refine(d9.o _ ?_).mono ?_
   ·exact(HX.o.below HC.o.low rfl).below ((Below.refl _ _).alloc lr _) rfl
   rintro e w1 ⟨rfl,hB⟩;have b3:=vv (HC.o.step (((Below.refl _ _).alloc lr _).trans (hB.mono (by simp))));clear hB a0 a1 al;go_wp2;go_roundw
   case rel=>exact⟨1,by omega,by go_num,b3.o⟩
   case measure=>simp [intOf]
  ·go_wp2_with fail
   refine(a9.o _ ?_).mono ?_
   ·exact(HY.o.below HC.o.low rfl).below ((Below.refl _ _).alloc lr _) rfl
   rintro e w1 ⟨rfl,hB⟩;have b3:=vv (HC.o.step (((Below.refl _ _).alloc lr _).trans (hB.mono (by simp))));clear hB a0 a1 al;go_wp2;go_roundw
   case rel=>exact⟨2,by omega,by go_num,b3.o⟩
   case measure=>simp [intOf]
  ·have b0:=HC.o.get 2 rfl |>.cell 0;have bl:=HC.o.get 2 rfl |>.lt;have n0:=HC.o.get 3 rfl |>.cell 0;have nl:=HC.o.get 3 rfl |>.lt;simp only[List.getElem?_cons_zero] at b0 n0;go_wp2_with fail
   refine(e0.o _ (HX.o.below HC.o.low rfl)).mono ?_;rintro e w4 ⟨g4,rfl,e7,c4,hB⟩;have a5:=vv c4;have c5:Hid (w.heap.size+3<g4):=vv (by have:=HC.o.get 0 rfl |>.lt;omega);have a6:=vv (HC.o.step hB);clear c4 e7 hB a0 a1 al b0 bl n0 nl;have nw:∀x∈([(w.heap.size+3,28,[.slice X n c,.slice Y m d]),(w.heap.size+2,115,[.bool false,.slice none 0 0,.slice none 0 0]),(w.heap.size+1,28,[.slice Y m d]),(w.heap.size,28,[.slice X n c])]:List q7O),x.1<g4:=by
    have:=c5.o;intro x hx;simp only[List.mem_cons,List.not_mem_nil,or_false] at hx;rcases hx with rfl|rfl|rfl|rfl<;>show _<g4<;>simp only<;>omega
   have c6:=vv nw;clear nw;cases neg
   obtain⟨w5,rfl⟩:=yx (w4);have a7:Hid (IntAt w5 g4 0 p):=vv (by rw[HP.o];exact a5.o);have a3:=a6;have b0:=a3.o.get 2 rfl |>.cell 0;have bl:=a3.o.get 2 rfl |>.lt;simp only[List.getElem?_cons_zero] at b0;clear a5 a6;go_wp2_with fail
   rotate_left;go_wp2_with fail
   refine(e2.o g4 _ a5.o).mono ?_;rintro e w5 ⟨rfl,hI,hF⟩;have a7:Hid (IntAt w5 g4 0 p):=vv (by rw[HP.o];exact hI);have a3:=vv (a6.o.write hF.grown (by have:=c5.o;omega) (fun x hx=>Nat.ne_of_lt (c6.o x hx)));have b0:=a3.o.get 2 rfl |>.cell 0;have bl:=a3.o.get 2 rfl |>.lt;simp only[List.getElem?_cons_zero] at b0;clear a5 a6 hI hF;go_wp2_with fail
   rotate_left;all_goals
    obtain⟨gr,b4⟩:=yx (w5.heap.size);rw[<- b4];obtain⟨w6,a8⟩:=yx (w5.alloc (.cells #[.bool false,.slice none 0 0,.slice none 0 0] 208));have b5:Below w5.heap.size w5 w6:=by rw[a8];exact(Below.refl _ _).alloc lr _
    have b6:Hid (RatAt w6 gr 0 1):=vv (by rw[a8,b4];exact RatAt.zero _ _);have e8:Hid (w.heap.size+3<gr):=vv (by have:=a3.o.get 0 rfl |>.lt;omega);have e9:Hid (g4<gr):=vv (by have:=a7.o.lt;omega);have b7:=vv (a3.o.step b5);have c7:=vv (a7.o.below b5);rw[<- a8];clear b4 a8 b5 b0 bl a3 a7;refine(e1.o _ (HY.o.below b7.o.low rfl)).mono ?_;rintro e w7 ⟨g7,rfl,f0,c8,hB⟩;have c9:=vv c8;have f6:Hid (gr<g7):=vv (by have:=b6.o.lt;omega);have d0:=vv (b6.o.below hB);have b8:=vv (b7.o.step hB);have d1:=vv (c7.o.below hB);clear c8 f0 hB b7 c7 b6;go_wp2_with fail
    refine(e3.o gr g4 g7 _ _ d0.o.sh d1.o c9.o e5.o (b8.o.std e6.o)).mono ?_;rintro e w8 ⟨rfl,hR,hF⟩;have d2:=vv hR;have d3:=vv (b8.o.fs hF (by intro p hp;rw[List.mem_singleton.1 hp];have:=e8.o;show _<=gr;omega) (by intro x hx p hp;rw[List.mem_singleton.1 hp];have:=c6.o x hx;have:=e9.o;show gr≠_;omega));clear hR hF b8 d0 d1 c9;go_wp2_with fail
    refine(e4.o _ _ d2.o).mono ?_;rintro e w9 ⟨X',n',Y',m',rfl,d4,d5,hB⟩;have b9:=vv (d3.o.step hB);have f1:=vv d4;have f2:=vv d5;clear hB d4 d5 d3 d2;have c0:=vv (b9.o.get 1 rfl);obtain⟨sgn,a4⟩:=yx (decide (p<0));rw[<- a4];have f3:=vv a4;clear a4;go_wp2_with (with_reducible refine q07 rfl 115 (.tmp 6) (.tmp 44) rfl (w.heap.size+1+1) [.bool sgn,.slice X' n' n',.slice Y' m' m'] rfl rfl 115 _ c0.o (by kernel_rfl) rfl rfl ?_)
    intro w10 hB a2;have c1:=vv (q0a b9.o.low a2 b9.o.low.size (by omega));have c2:=vv (f1.o.else_ c0.o rfl a2);have c3:=vv (f2.o.else_ c0.o rfl a2);obtain⟨k0,k1,k2⟩:=Fms.blk3 hB;have K:=vv (And.intro k0 (And.intro k1 k2));clear hB a2 k0 k1 k2;go_wp2;obtain⟨k0,k1,k2⟩:=K.o;exact bodyPost_ret (v:=.tuple #[q1b sgn X' n' n' Y' m' m',.int .i64 0]) (by simp [results,Tryz.results69,go_sem,k0,k1,k2]) rfl ⟨X',n',Y',m',by rw[<- f3.o],c2.o,c3.o,c1.o⟩
theorem q33(b:Bool)(N M:Nat):sg b N*(M:Int)=sg b (N*M):=by
 cases b
 ·exact(Int.natCast_mul N M).symm
 ·show -(N:Int)*(M:Int) = -((N*M:Nat):Int);rw[Int.natCast_mul,Int.neg_mul]
theorem qaQ(g gx gy y:Nat)(w:World)(h:IntAt w g 0 0)(hx:IntAt w gx 0 2)(hy:IntAt w gy 0 (y:Int))(h0:0<y)(hb:y<=20000):
  Calls Tryz.prog 160 #[.pointer (some ⟨g,0,none⟩),.pointer (some ⟨gx,0,none⟩),.pointer (some ⟨gy,0,none⟩),.pointer none] w (qah g 0 ((2^y:Nat):Int) w):=
 A.Exp g 0 gx 0 gy 0 0 2 y w h hx hy (by decide) h0 (by
  have:bl (2^y)<=y+1:=q0t (Nat.pow_lt_pow_right (by decide) (by omega));unfold Sz;omega) (by unfold Sz;have:bl y<=y:=q0t Nat.lt_two_pow_self;omega)
theorem q7f(N y:Nat):bl (N*2^y)<=bl N+y:=q0t (by
 rw[Nat.pow_add];exact Nat.mul_lt_mul_of_pos_right (q1l N) (Nat.two_pow_pos y))
theorem Scale(neg:Bool)(X:Option Addr)(n c:Nat)(Y:Option Addr)(m d N D:Nat)(k:Int)(w:World)(hX:Rd w X n c (toL N))(hY:Rd w Y m d (toL D))(hn:n<=16384)(hm:m<=16384)(hD:0<D)(hg:Nat.gcd N D=1)(hN:0<N)
  (hk1:-20000<=k) (hk2:k<=20000) (hbN:bl N<=500000) (hbD:bl D<=500000) (hst:Std w) :
  Calls Tryz.prog 71 #[q1b neg X n c Y m d,.int .u32 2,.int .i64 k] w (RatP (sg neg (N*p2 k)) (D*p2 (-k)) w):=by
 obtain⟨w0,d1⟩:=yx ((w.alloc (.cells #[.bool neg,.slice X n c,.slice Y m d] 115)).alloc (.cells #[.bool false,.slice none 0 0,.slice none 0 0] 115));have hC:Ctx w [(w.heap.size+1,115,[.bool false,.slice none 0 0,.slice none 0 0]),(w.heap.size,115,[.bool neg,.slice X n c,.slice Y m d])] w0:=by
  rw[d1];exact((Ctx.nil w).new _ _ rfl).new _ _ (by simp)
 have d7:=vv (qc3 neg X n c Y m d N D w0 (hC.rd hX) (hC.rd hY) hn hm hD hg (fun _=>hN) (hC.std hst));have i5:=vv fun w=>(Tryz.bits_Len32 2 w (by omega) (by omega))
 have d8:=vv fun g p D' wr (h:RatAt wr g p D') (h1:bl p.natAbs<=524288) (h2:bl D'<=524288)=>qcZ g p D' wr h (Nat.le_trans (q1R (lp_le p D')) h1) (Nat.le_trans (q1R (Nat.div_le_self _ _)) h2)
 have i6:=vv hst;obtain⟨p,hp⟩:=yx (sg neg N);have i7:(p.sign==0)=false:=by
  rw[beq_eq_false_iff_ne];have:p≠0:=by rw[hp];cases neg<;>simp [sg]<;>omega
  intro e;exact this (Int.sign_eq_zero_iff_zero.1 e)
 have d9:p.natAbs=N:=by rw[hp];exact q0C _ _
 rw[<- hp] at d7;obtain⟨s,hs⟩:=yx (p.sign);rw[<- hs] at i7;have HS:=vv hs;have HP:=vv hp;have c4:=vv d9;have c5:=vv hbN;have c6:=vv hbD;have HD:=vv hD;have HC:=vv hC;have HW:=vv d1;have f0:=hC.get 1 rfl |>.cell 0;have f1:=hC.get 1 rfl |>.cell 1;have f2:=hC.get 1 rfl |>.cell 2;have fl:=hC.get 1 rfl |>.lt;simp only[List.getElem?_cons_zero,List.getElem?_cons_succ] at f0 f1 f2;clear d1 hC hX hY hn hm hD hg hN hbN hbD hst hs hp d9;go_enter Tryz.func71,Tryz.ntmps71
 go_wp2_with fail
 rw[<- HW.o];go_wp2_with fail
 refine d7.o.mono ?_;rintro e w1 ⟨g,rfl,hg,hR,hB⟩;have a9:=vv hR;have d2:=vv (HC.o.step hB);have a3:Hid (w.heap.size+1<g):=vv (by have:=HC.o.get 0 rfl |>.lt;omega);clear hg hR hB f0 f1 f2 fl HC;by_cases hk0:k=0
 ·subst hk0;go_wp2_with fail
  refine(d8.o _ _ _ _ a9.o (by rw[c4.o];have:=c5.o;omega) (by have:=c6.o;omega)).mono ?_;rintro e w9 ⟨X',n',Y',m',rfl,b0,b1,hB⟩;have a4:=vv (d2.o.step hB);have d3:=vv b0;have d4:=vv b1;clear hB b0 b1;have a5:=vv (a4.o.get 0 rfl);obtain⟨sgn,a1⟩:=yx (decide (p<0));rw[<- a1];have d5:=vv a1;clear a1;go_wp2_with (with_reducible refine q07 rfl 115 (.tmp 6) (.tmp 39) rfl (w.heap.size+1) [.bool sgn,.slice X' n' n',.slice Y' m' m'] rfl rfl 115 _ a5.o (by kernel_rfl) rfl rfl ?_)
  intro w10 hB a0;have a6:=vv (q0a a4.o.low a0 a4.o.low.size (by omega));have a7:=vv (d3.o.else_ a5.o rfl a0);have a8:=vv (d4.o.else_ a5.o rfl a0);obtain⟨k0,k1,k2⟩:=Fms.blk3 hB;have K:=vv (And.intro k0 (And.intro k1 k2));clear hB a0 k0 k1 k2;go_wp2;obtain⟨k0,k1,k2⟩:=K.o;have e1:sg neg (N*p2 0)=p:=by rw[HP.o,show p2 0=1 from rfl,Nat.mul_one]
  have e2:D*p2 (-0)=D:=by rw[show p2 (-0)=1 from rfl,Nat.mul_one]
  exact bodyPost_ret (v:=.tuple #[q1b sgn X' n' n' Y' m' m',.int .i64 0]) (by simp [results,Tryz.results71,go_sem,k0,k1,k2]) rfl (by rw[e1,e2];exact⟨X',n',Y',m',by rw[<- d5.o],a7.o,a8.o,a6.o⟩)
 ·have t0:(k==0)=false:=by rw[beq_eq_false_iff_ne];exact hk0
  obtain⟨j,hj⟩:=yx (k.natAbs);have e0:0<j:=by omega
  have e3:j<=20000:=by omega
  have j4:(j:Int)<=20000:=by omega
  have e4:max k (-k)=(j:Int):=by omega
  have HJ:=vv hj;have i8:=vv e0;have b2:=vv e3;have i9:=vv e4;have j5:=vv hk0;clear hj e0 e3 hk0 e4;go_wp2_with fail
  refine(A.RSign g _ _ _ a9.o).mono ?_;rintro e w' ⟨rfl,rfl⟩;rw[<- HS.o];go_wp2_with fail
  refine(i5.o _).mono ?_;rintro e wL ⟨rfl,hw⟩;subst hw;rw[show Lib.bitLen (2:Int).toNat=2 from by kernel_rfl];go_wp2_with fail
  obtain⟨gR,b3⟩:=yx (wL.heap.size);rw[<- b3];obtain⟨w2,b4⟩:=yx ((wL.alloc (.cells #[.bool false,.slice none 0 0,.slice none 0 0] 208)).alloc (.cells #[.bool false,.slice none 0 0] 206));have d6:Below wL.heap.size wL w2:=by rw[b4];exact((Below.refl _ _).alloc lr _).alloc (by simp) _
  have e5:Hid (RatAt w2 gR 0 1):=vv (by
   rw[b4,b3];exact(RatAt.zero wL _).below ((Below.refl _ _).alloc lr _))
  have e6:Hid (IntAt w2 (gR+1) 0 0):=vv (by
   rw[b4,b3];have:=IntAt.zero (wL.alloc (.cells #[.bool false,.slice none 0 0,.slice none 0 0] 208)) 206
   rwa [World.size_alloc] at this)
  have a2:Hid (g<gR):=vv (by rw[b3];exact a9.o.lt);have e7:=vv (d2.o.step d6);have e8:=vv (a9.o.below d6);rw[<- b4];clear b3 b4 d6 a9 d2;refine(A.NewInt 2 w2 (by omega) (by omega)).mono ?_;rintro e w3 ⟨g3,rfl,j0,e9,hB⟩;have f3:=vv e9;have f4:=vv (e5.o.below hB);have f5:=vv (e6.o.below hB);have f6:=vv (e7.o.step hB);have f7:=vv (e8.o.below hB);clear j0 e9 hB e5 e6 e7 e8;go_wp2_with fail
  rw[i9.o];refine(A.NewInt (j:Int) w3 (by omega) (by omega)).mono ?_;rintro e w4 ⟨g4,rfl,j1,f8,hB⟩;have f9:=vv f8;have g0:=vv (f3.o.below hB);have g1:=vv (f4.o.below hB);have g2:=vv (f5.o.below hB);have g5:=vv (f6.o.step hB);have g6:=vv (f7.o.below hB);clear j1 f8 hB f3 f4 f5 f6 f7;go_wp2_with fail
  refine(qaQ (gR+1) g3 g4 j w4 g2.o g0.o f9.o i8.o b2.o).mono ?_;rintro e w5 hP;have hF:=hP.2.2;have g7:=vv (g1.o.fs1 hF (by omega));have g8:=vv (g6.o.fs1 hF (by have:=a2.o;omega));have g9:=vv (g5.o.fs hF (by intro p hp;rw[List.mem_singleton.1 hp];have:=a2.o;have:=a3.o;show _<=gR+1;omega) (by
   intro x hx p hp;rw[List.mem_singleton.1 hp];have:=a2.o;have:=a3.o;simp only[List.mem_cons,List.not_mem_nil,or_false] at hx;rcases hx with rfl|rfl<;>show gR+1≠_<;>omega))
  obtain⟨rfl,i0,-⟩:=hP;have i1:=vv i0;clear hF i0 g2 g0 f9 g1 g5 g6;go_wp2_with fail
  refine(A.SetInt gR (gR+1) _ w5 g7.o.sh i1.o).mono ?_;rintro e w6 hP;have hF:=hP.2.2;have c7:=vv (g8.o.fs1 hF (by have:=a2.o;omega));have c8:=vv (g9.o.fs hF (by intro p hp;rw[List.mem_singleton.1 hp];have:=a2.o;have:=a3.o;show _<=gR;omega) (by
   intro x hx p hp;rw[List.mem_singleton.1 hp];have:=a2.o;have:=a3.o;simp only[List.mem_cons,List.not_mem_nil,or_false] at hx;rcases hx with rfl|rfl<;>show gR≠_<;>omega))
  obtain⟨rfl,i2,-⟩:=hP;have b5:=vv i2;clear hF i2 g7 i1 g9 g8;by_cases hlt:k<0
  have b6:p2 k=1:=q0q (by omega);have b7:p2 (-k)=2^j:=by rw[show -k=(j:Int) by have:=HJ.o;omega,q1B]
  have b8:=vv (And.intro b6 b7);clear b6 b7;go_wp2_with fail
  refine(A.Inv gR gR (2^j) 1 w6 b5.o.sh b5.o (Nat.two_pow_pos _)).mono ?_;rintro e w7 hP;have hF:=hP.2.2;have c9:=vv (c7.o.fs1 hF (by have:=a2.o;omega));have d0:=vv (c8.o.fs hF (by intro p hp;rw[List.mem_singleton.1 hp];have:=a2.o;have:=a3.o;show _<=gR;omega) (by
   intro x hx p hp;rw[List.mem_singleton.1 hp];have:=a2.o;have:=a3.o;simp only[List.mem_cons,List.not_mem_nil,or_false] at hx;rcases hx with rfl|rfl<;>show gR≠_<;>omega))
  obtain⟨rfl,i3,-⟩:=hP;have b9:Hid (RatAt w7 gR ((1:Nat):Int) (2^j)):=vv i3;clear hF i3 c7 c8 b5;have c0:Hid (bl ((1:Nat):Int).natAbs<=30000/\bl (2^j)<=30000):=vv ⟨by decide,by have:=q7f 1 j;rw[Nat.one_mul,show bl 1=1 from rfl] at this;have:=b2.o;omega⟩;have HE:Hid (sg neg (N*p2 k)=p*((1:Nat):Int)/\D*p2 (-k)=D*2^j):=vv ⟨by rw[b8.o.1,HP.o,Nat.mul_one];omega,by rw[b8.o.2]⟩;have c1:Hid (bl (p*((1:Nat):Int)).natAbs<=524288/\bl (D*2^j)<=524288):=vv ⟨by rw[Int.natCast_one,Int.mul_one,c4.o];have:=c5.o;omega,by have:=q7f D j;have:=c6.o;have:=b2.o;omega⟩;obtain⟨Pn,c2⟩:∃Pn:Int,Pn=((1:Nat):Int):=⟨_,rfl⟩;obtain⟨Dn,c3⟩:=yx (2^j);rw[<- c2,<- c3] at HE c1 b9 c0;clear c2 c3;go_wp2_with fail
  rotate_left;have b6:p2 k=2^j:=by rw[show k=(j:Int) by have:=HJ.o;omega,q1B]
  have b7:p2 (-k)=1:=q0q (by omega);have b8:=vv (And.intro b6 b7);clear b6 b7;obtain⟨w7,rfl⟩:=yx (w6);have c9:=c7;have d0:=c8;have b9:Hid (RatAt w7 gR ((2^j:Nat):Int) 1):=b5;clear c7 c8 b5;have c0:Hid (bl ((2^j:Nat):Int).natAbs<=30000/\bl 1<=30000):=vv ⟨by rw[Int.natAbs_natCast];have:=q7f 1 j;rw[Nat.one_mul,show bl 1=1 from rfl] at this;have:=b2.o;omega,by decide⟩;have HE:Hid (sg neg (N*p2 k)=p*((2^j:Nat):Int)/\D*p2 (-k)=D*1):=vv ⟨by rw[b8.o.1,HP.o,q33],by rw[b8.o.2]⟩;have c1:Hid (bl (p*((2^j:Nat):Int)).natAbs<=524288/\bl (D*1)<=524288):=vv ⟨by rw[Int.natAbs_mul,Int.natAbs_natCast,c4.o];have:=q7f N j;have:=c5.o;have:=b2.o;omega,by rw[Nat.mul_one];have:=c6.o;omega⟩;obtain⟨Pn,c2⟩:∃Pn:Int,Pn=((2^j:Nat):Int):=⟨_,rfl⟩;obtain⟨Dn,c3⟩:∃Dn:Nat,Dn=1:=⟨_,rfl⟩;rw[<- c2,<- c3] at HE c1 b9 c0;clear c2 c3;go_wp2_with fail
  rotate_left;all_goals
   refine(A.MulR g g gR p Pn D Dn w7 c9.o.sh c9.o b9.o (d0.o.std i6.o) (by unfold Sz;rw[c4.o];have:=c5.o;omega) (by unfold Sz;have:=c6.o;omega) (by unfold Sz;have:=c0.o.1;omega) (by unfold Sz;have:=c0.o.2;omega)).mono ?_;rintro e w8 hP;have hF:=hP.2.2;have j2:=vv (d0.o.fs hF (by intro p hp;rw[List.mem_singleton.1 hp];have:=a3.o;show _<=g;omega) (by
    intro x hx p hp;rw[List.mem_singleton.1 hp];have:=a3.o;simp only[List.mem_cons,List.not_mem_nil,or_false] at hx;rcases hx with rfl|rfl<;>show g≠_<;>omega))
   obtain⟨rfl,i4,-⟩:=hP;have j3:=vv i4;clear hF i4 d0 c9 b9;go_wp2_with fail
   refine(d8.o _ _ _ _ j3.o c1.o.1 c1.o.2).mono ?_;rintro e w9 ⟨X',n',Y',m',rfl,b0,b1,hB⟩;have a4:=vv (j2.o.step hB);have d3:=vv b0;have d4:=vv b1;clear hB b0 b1;have a5:=vv (a4.o.get 0 rfl);obtain⟨sgn,a1⟩:=yx (decide (p*Pn<0));rw[<- a1];have d5:=vv a1;clear a1;go_wp2_with (with_reducible refine q07 rfl 115 (.tmp 6) (.tmp 86) rfl (w.heap.size+1) [.bool sgn,.slice X' n' n',.slice Y' m' m'] rfl rfl 115 _ a5.o (by kernel_rfl) rfl rfl ?_)
   intro w10 hB a0;have a6:=vv (q0a a4.o.low a0 a4.o.low.size (by omega));have a7:=vv (d3.o.else_ a5.o rfl a0);have a8:=vv (d4.o.else_ a5.o rfl a0);obtain⟨k0,k1,k2⟩:=Fms.blk3 hB;have K:=vv (And.intro k0 (And.intro k1 k2));clear hB a0 k0 k1 k2;go_wp2;obtain⟨k0,k1,k2⟩:=K.o;exact bodyPost_ret (v:=.tuple #[q1b sgn X' n' n' Y' m' m',.int .i64 0]) (by simp [results,Tryz.results71,go_sem,k0,k1,k2]) rfl (by rw[HE.o.1,HE.o.2];exact⟨X',n',Y',m',by rw[<- d5.o],a7.o,a8.o,a6.o⟩)
end Go.Proofs.YtppgcnhlpnmieaaGreatDoor.Rtp
namespace Go.Proofs.YtppgcnhlpnmieaaGreatDoor.Rnd
open Go Go.RowKit R5 Scn
def WlP(neg:Bool)(q:Nat)(same:Bool)(w:World)(e:Ending)(w':World):Prop:=
 ∃A n c,e=.returned (.tuple #[.bool (neg && decide (0<q)),q1u A n c,.bool same,.int .i64 0])/\Rd w' A n c (toL q)/\Fr w.heap.size A/\Below w.heap.size w w'
theorem Whole(neg:Bool)(X:Option Addr)(n c:Nat)(Y:Option Addr)(m d N D:Nat)(mode:Nat)(w:World)(hX:Rd w X n c (toL N))(hY:Rd w Y m d (toL D))(hn:n<=16384)(hm:m<=16384)(hD:0<D)(hg:Nat.gcd N D=1)(h0:neg=true->0<N)(hmd:mode<=4)(hst:Std w):
  Calls Tryz.prog 72 #[q1b neg X n c Y m d,.int .u8 (mode:Int)] w (WlP neg (rnd neg mode N D) (decide (N%D=0)) w):=by
 have c4:=Rtp.wds_bl hX hn;have c5:=Rtp.wds_bl hY hm;have b4:=q89 neg mode N D;have b5:bl (rnd neg mode N D)<=524289:=by
  have h1:=q1R (Nat.le_trans b4 (Nat.add_le_add_right (Nat.div_le_self N D) 1));have h2:=q4e N 1;have:bl 1=1:=rfl;omega
 obtain⟨w0,a8⟩:=yx ((w.alloc (.cells #[.bool neg,.slice X n c,.slice Y m d] 115)).alloc (.cells #[.slice none 0 0] 28));have hC:Ctx w [(w.heap.size+1,28,[.slice none 0 0]),(w.heap.size,115,[.bool neg,.slice X n c,.slice Y m d])] w0:=by
  rw[a8];exact((Ctx.nil w).new _ _ rfl).new _ _ (by simp)
 have c6:=vv fun w' (h:Below w.heap.size w w')=>Rtp.Check neg X n c Y m d N D w' (hX.below h rfl) (hY.below h rfl) hn hm hD hg h0 (hst.below h)
 have c7:=vv fun w' (h:Below w.heap.size w w')=>qbc X n c N w' (hX.below h rfl) (by unfold Sz;omega)
 have c8:=vv fun w' (h:Below w.heap.size w w')=>qbc Y m d D w' (hY.below h rfl) (by unfold Sz;omega)
 have b6:=vv fun gx gy w' (hx:IntAt w' gx 0 (N:Int)) (hy:IntAt w' gy 0 (D:Int))=>q3z gx 0 gy 0 N D neg mode w' hx hy hD (by unfold Sz;omega) (by unfold Sz;omega) hmd
 obtain⟨q,hq⟩:=yx (rnd neg mode N D);obtain⟨same,a0⟩:=yx (decide (N%D=0));rw[<- hq,<- a0] at b6;rw[<- hq] at b5;rw[<- hq,<- a0];have c9:=vv fun g w' (h:IntAt w' g 0 (q:Int))=>q7x g q w' h (by omega)
 have b7:=vv fun g w' (h:IntAt w' g 0 (q:Int))=>A.Sign g 0 (q:Int) w' h
 obtain⟨s,hs⟩:=yx (((q:Nat):Int).sign);rw[<- hs] at b7;have d0:decide (0<s)=decide (0<q):=by
  rw[hs];rcases Nat.eq_zero_or_pos q with h|h
  ·subst h;rfl
  ·rw[Int.sign_eq_one_of_pos (by omega),decide_eq_true h];rfl
 obtain⟨sp,a9⟩:=yx (decide (0<q));rw[<- a9] at d0;have d1:=vv a9;have d8:(mode:Int)<=4:=by omega
 have dm:decide ((4:Int)<(mode:Int))=false:=decide_eq_false (by omega);have HC:=vv hC;have HW:=vv a8;have f0:=hC.get 1 rfl |>.cell 0;have f1:=hC.get 1 rfl |>.cell 1;have f2:=hC.get 1 rfl |>.cell 2;have fl:=hC.get 1 rfl |>.lt;simp only[List.getElem?_cons_zero,List.getElem?_cons_succ] at f0 f1 f2;clear a8 hC hX hY hn hm hD hg h0 hst c4 c5 b4 b5 hq a0 hs a9 hmd;go_enter Tryz.func72,Tryz.ntmps72
 go_wp2_with fail
 rw[<- HW.o];go_wp2_with fail
 refine(c6.o _ HC.o.low).mono ?_;rintro e w1 ⟨rfl,hB⟩;have a2:=vv (HC.o.step hB);clear hB f0 f1 f2 fl HC;go_wp2_with fail
 have f0:=a2.o.get 1 rfl |>.cell 0;have f1:=a2.o.get 1 rfl |>.cell 1;have f2:=a2.o.get 1 rfl |>.cell 2;simp only[List.getElem?_cons_zero,List.getElem?_cons_succ] at f0 f1 f2;refine q01 (fun w'=>w'.cell? ⟨w.heap.size,0,none⟩=some (.bool neg)/\w'.cell? ⟨w.heap.size,1,none⟩=some (.slice X n c)/\w'.cell? ⟨w.heap.size,2,none⟩=some (.slice Y m d)) 15
  (.still 0 (.still 1 (.still 3 (.still 4 (.still 6 (.still 7 (.still 8 (.one 2 (.one 5 (.one 9 (.still 10 (.still 11 (.still 12 (.still 13 (.still 14 .done))))))))))))))) (by kernel_rfl) (by kernel_rfl) (fun _ _ d _ _ h=>by cases d<;>exact h) ⟨f0,f1,f2⟩ (fun hS0=>?_)
 have a2:=vv a2.o.drew;obtain⟨wc,b8⟩:=yx (w1.drew);rw[<- b8] at hS0 a2 ⊢;clear b8 f0 f1 f2
 iterate 7
  refine q02 (v:=?_) rfl (by rfl) ?_ ?_;rotate_left
  ·intro w d2;go_simp;with_reducible rfl
  simp only[Act.put,sa,sb,sc]
 refine q03 rfl (by rfl) (fun K hK=>?_);go_simp;refine(c7.o _ a2.o.low).mono ?_;rintro e w2 ⟨gN,rfl,d3,hI,hB⟩;have a5:=vv hI;have a6:=vv (a2.o.step hB);clear hI d3 hB a2;go_wp2_with fail
 refine hK.out _ _ (Fms.blk3 (a6.o.get 1 rfl)) (fun a1=>?_);clear hK;refine q03 rfl (by rfl) (fun K hK=>?_);go_simp;refine(c8.o _ a6.o.low).mono ?_;rintro e w3 ⟨gD,rfl,d4,hI,hB⟩;have b9:=vv hI;have a5:=vv (a5.o.below hB);have b1:=vv (a6.o.step hB);clear hI d4 hB a6;go_wp2_with fail
 refine hK.out _ _ (Fms.blk3 (b1.o.get 1 rfl)) (fun a1=>?_);clear hK;refine q03 rfl (by rfl) (fun K hK=>?_);go_simp;refine(b6.o gN gD _ a5.o b9.o).mono ?_;rintro e w4 ⟨gQ,rfl,d5,hI,hB⟩;have c0:=vv hI;have a3:=vv (b1.o.step hB);clear hI d5 hB b1 a5 b9;go_wp2_with fail
 refine hK.out _ _ (Fms.blk3 (a3.o.get 1 rfl)) (fun a1=>?_);clear hK
 iterate 5
  refine q02 (v:=?_) rfl (by rfl) ?_ ?_;rotate_left
  ·intro w d2;go_simp;with_reducible rfl
  simp only[Act.put,sa,sb,sc]
 refine q0G rfl ?_;clear a1 hS0;have f0:=a3.o.get 1 rfl |>.cell 0;have fl:=a3.o.get 1 rfl |>.lt;simp only[List.getElem?_cons_zero,List.getElem?_cons_succ] at f0;cases neg
 go_wp2_with fail
 rotate_left;go_wp2_with fail
 refine(b7.o gQ _ c0.o).mono ?_;rintro e w' ⟨rfl,rfl⟩;go_wp2_with fail
 rotate_left;all_goals
  refine(c9.o gQ _ c0.o).mono ?_;rintro e w5 ⟨A',n',c',rfl,hR,b2,hB⟩;have a7:=vv (a3.o.step hB);have b0:=a7.o.get 0 rfl |>.cell 0;have bl:=a7.o.get 0 rfl |>.lt;have bf:=a7.o.get 0 rfl |>.fz 0;simp only[List.getElem?_cons_zero] at b0;obtain⟨w9,a4⟩:=yx (w5.setCell ⟨w.heap.size+1,0,none⟩ (.slice A' n' c'));have b3:=a3.o.get 0 rfl |>.lt;have c1:Hid (Rd w9 A' n' c' (toL q)):=vv (by rw[a4];exact hR.other _ _ _ (fun a e=>by have:=(b2 a e).1;omega));have c2:Hid (Fr w.heap.size A'):=vv (b2.mono a3.o.low.size);have c3:Hid (Below w.heap.size w w9):=vv (by rw[a4];exact a7.o.low.setCell (by show _<=w.heap.size+1;omega) _);have k0:w9.cell? ⟨w.heap.size+1,0,none⟩=some (.slice A' n' c'):=by rw[a4];exact q0r b0
  have d6:=vv a4;have d7:=vv k0;clear hR b2 hB a4 k0 f0 fl b3;go_wp2;rw[<- d6.o];have k0:=d7.o;first
   | exact bodyPost_ret (v:=.tuple #[.bool false,q1u A' n' c',.bool same,.int .i64 0]) (by simp [results,Tryz.results72,go_sem,k0]) rfl ⟨A',n',c',rfl,c1.o,c2.o,c3.o⟩
   | exact bodyPost_ret (v:=.tuple #[.bool sp,q1u A' n' c',.bool same,.int .i64 0]) (by simp [results,Tryz.results72,go_sem,k0]) rfl ⟨A',n',c',by rw[d1.o];rfl,c1.o,c2.o,c3.o⟩
end Go.Proofs.YtppgcnhlpnmieaaGreatDoor.Rnd
namespace Go.Proofs.YtppgcnhlpnmieaaGreatDoor.Hx
open Go Go.RowKit R5 Scn Fms Exa
def q1h(N places:Nat):Int:=4*(places:Int)-((bl N:Int)-1)
def q4t(g:Bool)(N mode places:Nat):Nat:=rnd g mode (N*p2 (q1h N places)) (p2 (-q1h N places))
def q7L(neg g:Bool)(N:Nat)(x:Int)(mode places:Nat):List UInt8:=
 if N=0 then txtL neg (hexL 0 (places+1)) 0 else
 if 4*places+1<bl (q4t g N mode places) then txtL neg (hexL (q4t g N mode places/2) (places+1)) (x+(bl N:Int)-1+1)
 else txtL neg (hexL (q4t g N mode places) (places+1)) (x+(bl N:Int)-1)
theorem qaZ{N:Nat}(h0:0<N)(places:Nat):N*p2 (q1h N places)/p2 (-q1h N places)<2^(4*places+1):=by
 apply Nat.div_lt_of_lt_mul
 have h1:=q1l N;have h2:=q1Q h0;have e:p2 (q1h N places)*2^bl N=p2 (-q1h N places)*2^(4*places+1):=by
  unfold p2;rw[<- Nat.pow_add,<- Nat.pow_add];congr 1
  unfold q1h;omega
 calc N*p2 (q1h N places)<2^bl N*p2 (q1h N places):=Nat.mul_lt_mul_of_pos_right h1 (q0D _)
  _=_:=by rw[Nat.mul_comm,e]
theorem q6i{g:Bool}{N:Nat}(mode:Nat)(h0:0<N)(places:Nat):q4t g N mode places<=2^(4*places+1):=by
 have h1:=q89 g mode (N*p2 (q1h N places)) (p2 (-q1h N places));have h2:=qaZ h0 places;unfold q4t;omega
theorem q5x{g:Bool}{N:Nat}(mode:Nat)(h0:0<N)(places:Nat):(if 4*places+1<bl (q4t g N mode places) then q4t g N mode places/2 else q4t g N mode places)<2^(4*places+1):=by
 have h1:=q6i (g:=g) mode h0 places;have h2:=Nat.two_pow_pos (4*places+1);split
 ·omega
 ·rename_i h;exact Nat.lt_of_lt_of_le (q1l _) (Nat.pow_le_pow_right (by decide) (by omega))
theorem q9F{n places:Nat}(h:n<2^(4*places+1)):max (1+places) ((bl n+3)/4)=places+1:=by
 have:=q0t h;omega
def RtP(g:Bool)(N D:Nat)(w:World)(e:Ending)(w':World):Prop:=
 ∃X n Y m,e=.returned (.tuple #[q1b g X n n Y m m,.int .i64 0])/\Rd w' X n n (toL N)/\Rd w' Y m m (toL D)/\n<=16384/\m<=16384/\Below w.heap.size w w'
theorem q1C{w:World}{A:Option Addr}{n c N:Nat}(h:Rd w A n c (toL N))(hb:bl N<=32000):n<=16384:=by
 obtain⟨k,hk⟩:=yx (1000);have:=h.bound (k:=k) (by
  rw[q1J];exact Nat.lt_of_lt_of_le (q1l N) (Nat.pow_le_pow_right (by decide) (by omega)))
 omega
theorem RatP.rt{p:Int}{g:Bool}{D N' D':Nat}{w w':World}{e:Ending}(h:Rtp.RatP p D w e w')(hg:decide (p<0)=g)(h1:(lp p D).natAbs=N')(h2:ld p D=D')(b1:bl N'<=32000)(b2:bl D'<=32000):RtP g N' D' w e w':=by
 obtain⟨X,n,Y,m,rfl,hX,hY,hB⟩:=h;rw[h1] at hX;rw[h2] at hY;exact⟨X,n,Y,m,by rw[hg],hX,hY,q1C hX b1,q1C hY b2,hB⟩
theorem q3k(g:Bool){N:Nat}(h:0<N):decide (sg g N<0)=g:=by
 rw[q0W,decide_eq_true h,Bool.and_true]
theorem qdh(g:Bool)(A:Option Addr)(m c:Nat)(B:Option Addr)(N:Nat)(w:World)(ha:Rd w A m c (toL N))(hb:Rd w B 1 1 (toL 1))(h0:0<N)(hN:bl N<=100)(hs:Std w):
  Calls Tryz.prog 69 #[.bool g,q1u A m c,q1u B 1 1] w (RtP g N 1 w):=
 (Rtp.Make g A m c B 1 1 N 1 w ha hb (q1C ha (by omega)) (by omega) (by decide) hs).mono fun e w' h =>
  RatP.rt h (q3k g h0) (by rw[q2I,Nat.gcd_one_right,Nat.div_one,q0C]) (by unfold ld;rw[Nat.gcd_one_right]) (by omega) (by decide)
def q5h(N places:Nat):Nat:=(lp ((N*p2 (q1h N places):Nat):Int) (p2 (-q1h N places))).natAbs
def q5i(N places:Nat):Nat:=ld ((N*p2 (q1h N places):Nat):Int) (p2 (-q1h N places))
theorem bl_p2(z:Int):bl (p2 z)<=z.toNat+1:=q0t (Nat.pow_lt_pow_right (by decide) (Nat.lt_succ_self _))
theorem q4s{N places:Nat}(hN:bl N<=100)(hp:places<=2000)(h0:0<N):bl (q5h N places)<=32000/\bl (q5i N places)<=32000:=by
 have k1:=q1Q h0;have h1:bl (p2 (q1h N places))<=9000:=by have:=bl_p2 (q1h N places);have e:q1h N places=4*(places:Int)-((bl N:Int)-1):=rfl;omega
 have h2:bl (p2 (-q1h N places))<=9000:=by have:=bl_p2 (-q1h N places);have e:q1h N places=4*(places:Int)-((bl N:Int)-1):=rfl;omega
 have h3:=q13 N (p2 (q1h N places))
 constructor
 ·have:=q1R (Rtp.lp_le ((N*p2 (q1h N places):Nat):Int) (p2 (-q1h N places)));rw[Int.natAbs_natCast] at this;unfold q5h;omega
 ·have:=q1R (Nat.div_le_self (p2 (-q1h N places)) (Nat.gcd ((N*p2 (q1h N places):Nat):Int).natAbs (p2 (-q1h N places))));unfold q5i ld;omega
theorem qca(g:Bool)(M D:Nat):(lp (sg g M) D).natAbs=(lp (M:Int) D).natAbs/\ld (sg g M) D=ld (M:Int) D:=by
 unfold ld;rw[q2I,q2I,q0C,Int.natAbs_natCast];exact⟨rfl,rfl⟩
theorem qcb(g:Bool)(X:Option Addr)(n:Nat)(Y:Option Addr)(m N places:Nat)(k:Int)(w:World)(hX:Rd w X n n (toL N))(hY:Rd w Y m m (toL 1))(hn:n<=16384)(hm:m<=16384)(h0:0<N)(hN:bl N<=100)(hp:places<=2000)(hk:k=q1h N places)(hs:Std w):
  Calls Tryz.prog 71 #[q1b g X n n Y m m,.int .u32 2,.int .i64 k] w (RtP g (q5h N places) (q5i N places) w):=by
 have hb:=q4s hN hp h0;have k1:=q1Q h0;subst hk;refine(Rtp.Scale g X n n Y m m N 1 (q1h N places) w hX hY hn hm (by decide) (Nat.gcd_one_right N) h0 (by unfold q1h;omega) (by unfold q1h;omega) (by omega) (by decide) hs).mono fun e w' h=>?_
 rw[Nat.one_mul] at h;have hl:=qca g (N*p2 (q1h N places)) (p2 (-q1h N places));exact RatP.rt h (q3k g (Nat.mul_pos h0 (q0D _))) hl.1 hl.2 hb.1 hb.2
theorem q8h(g:Bool)(mode:Nat){N:Nat}(h0:0<N)(places:Nat):rnd g mode (q5h N places) (q5i N places)=q4t g N mode places:=by
 have hd:0<q5i N places:=q0Z (q0D _);have h:=q0E ((N*p2 (q1h N places):Nat):Int) (p2 (-q1h N places));have a0:0<=lp ((N*p2 (q1h N places):Nat):Int) (p2 (-q1h N places)):=by
  unfold lp;rw[decide_eq_false (by omega)];exact Int.natCast_nonneg _
 refine q5v hd (q0D _) ?_;unfold q5h q5i;generalize N*p2 (q1h N places)=M at h a0 ⊢;refine Int.natCast_inj.1 ?_;rw[Int.natCast_mul,Int.natCast_mul,Int.natAbs_of_nonneg a0];exact h
theorem qbZ(g:Bool)(X:Option Addr)(n:Nat)(Y:Option Addr)(m N places mode:Nat)(w:World)(hX:Rd w X n n (toL (q5h N places)))(hY:Rd w Y m m (toL (q5i N places)))(hn:n<=16384)(hm:m<=16384)(h0:0<N)(hmd:mode<=4)(hs:Std w):
  Calls Tryz.prog 72 #[q1b g X n n Y m m,.int .u8 (mode:Int)] w (Rnd.WlP g (q4t g N mode places) (decide (q5h N places%q5i N places=0)) w):=by
 have hd:0<q5i N places:=q0Z (q0D _);rw[<- q8h g mode h0 places];exact Rnd.Whole g X n n Y m m (q5h N places) (q5i N places) mode w hX hY hn hm hd (q1M (q0D _)) (fun _=>by
  unfold q5h;rw[q2I,Int.natAbs_natCast];exact Nat.div_pos (Nat.le_of_dvd (Nat.mul_pos h0 (q0D _)) (Nat.gcd_dvd_left _ _)) (q0o (q0D _))) hmd hs
end Go.Proofs.YtppgcnhlpnmieaaGreatDoor.Hx
