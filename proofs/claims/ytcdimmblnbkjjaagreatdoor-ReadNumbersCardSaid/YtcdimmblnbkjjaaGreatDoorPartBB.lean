/- Lemmas. -/
import Derived.Test.YtcdimmblnbkjjaaGreatDoorPartBA
import Derived.Laws.AppendOwnNone
set_option linter.all false
set_option maxRecDepth 100000
namespace Go.Proofs.YtcdimmblnbkjjaaGreatDoor
open Go Go.RowKit R5
theorem q2j{P:Program}{w:World}{ops:Array Oper}{rest:List Oper}{o:Oper}{a:Act}{Q:Exit->Act->World->Prop}(hgd:o.guard=none)(s x:Operand)(t:TypeId)
  (ho:o.op=.call {callee:=.builtin .append,args:=#[s,x],argTypes:=#[t,t]})
  (base:Nat) (e:TypeId) (i:TypeInfo) (z:Value) (size bytes:Nat) (ht:P.underlying t=some (.slice e)) (hi:P.info? e=some i) (hz:i.zero=some z)
  (hsize:i.size=size) (hby:i.bytes=bytes) (hzs:z.cells.size=size) (hsz:0<size)
  (hs:a.eval s=.slice none 0 0)
  (ao:Option Addr) (m c:Nat) (news:List Value) (hx:a.eval x=.slice ao m c) (hl:news.length=m*size) (hnone:ao=none->m=0/\c=0) (hnews:∀ad,ao=some ad->∀j u,news[j]?=some u->w.cell? (ad.add j)=some u) (h1:∀u∈news,u.oneCell'=true)
  (h63:m<=maxLen) (hbytes:m*bytes<=140737488355328) (hbase:base<=w.heap.size)
  (h:∀v' w',w'.ownsRow base e size v' m news->w.grownBy w' none->wpList P ops Q rest (a.put o.dst v') w'):wpList P ops Q (o::rest) a w:=by
 cases ao with
 | none =>
  obtain⟨rfl,rfl⟩:=hnone rfl;have hn:news=[]:=List.eq_nil_of_length_eq_zero (by simpa using hl);subst hn;exact wpList_append_own_none hgd s x t ho base e i size ht hi _ 0 [] hs (World.ownsRow_nil _ _ _ _) hx (h _ _ (World.ownsRow_nil _ _ _ _) (World.grownBy.refl _ _))
 | some ad =>
  refine wpList_append_own w hgd s x t ho base e i z size bytes ht hi hz hsize hby hzs hsz _ 0 [] hs (World.ownsRow_nil _ _ _ _) ad m c news hx hl (hnews ad rfl) h1 (by omega) (by rw[Nat.zero_add];exact hbytes) hbase ?_;intro v' w' h2 h3 _;rw[Nat.zero_add,List.nil_append] at h2;exact h v' w' h2 h3
theorem NumBox.belowLt{B:Nat}{w w':World}{g kind:Nat}{neg dneg:Bool}{s:ByteArray}{x:Int}{hneg:Bool}{A:Option Addr}{n c:Nat}{hx:Int}{p:Nat}(h:NumBox w g kind neg dneg s x hneg A n c hx p)(hb:Below B w w')(hl:g<B):NumBox w' g kind neg dneg s x hneg A n c hx p:=by
 have ne:∀j,w'.cell? ⟨g,j,none⟩=w.cell? ⟨g,j,none⟩:=fun j=>hb.cell (p:=⟨g,j,none⟩) hl
 exact⟨(ne 0).trans h.c0,(ne 1).trans h.c1,(ne 2).trans h.c2,(ne 3).trans h.c3,(ne 4).trans h.c4,(ne 5).trans h.c5,(ne 6).trans h.c6,(ne 7).trans h.c7,(ne 8).trans h.c8,Nat.lt_of_lt_of_le h.lt hb.size⟩
namespace Law
set_option maxHeartbeats 4000000 in
theorem ReadNumbers(E F:Int)(kind:Nat)(neg dneg:Bool)(s:ByteArray)(x:Int)(hneg:Bool)(Ad:Option Addr)(n c:Nat)(xs:List Nat)(hx:Int)(p mode:Nat)(w:World)(hr:Rd w Ad n c xs)(hnil:Ad=none->c=0)(hn:n<=35184372087808)(hmax:(s.size:Int)<=4611686018427387904)(hst:Std w):
  Calls Tryz.prog 3 #[fm E F,q4Z kind neg dneg s x hneg Ad n c hx p,.int .u8 (mode:Int)] w fun e w'=>e=.returned (.bool true)/\Below w.heap.size w w':=by
 have d4:Ad=none->n=0/\c=0:=by
  intro h;refine⟨?_,hnil h⟩;rcases Nat.eq_zero_or_pos n with e|e
  ·exact e
  ·obtain⟨b,off,e2,_⟩:=hr.cell e;rw[h] at e2;cases e2
 obtain⟨i0,hi,d5,d6,d7⟩:=info_parts B.inf;obtain⟨w0,b2⟩:=yx (w.alloc (.cells #[.int .i64 E,.int .i64 F] 23));obtain⟨w1,c0⟩:=yx (w0.alloc (.cells #[.int .u8 (kind:Int),.bool neg,.bool dneg,.string s,.int .i64 x,.bool hneg,.slice Ad n c,.int .i64 hx,.int .u64 (p:Int)] 33));have c7:Below w.heap.size w w0:=by rw[b2];exact(Below.refl _ w).alloc lr _
 have c8:Below w0.heap.size w0 w1:=by rw[c0];exact(Below.refl _ w0).alloc lr _
 have b3:w0.heap.size=w.heap.size+1:=by rw[b2];simp
 have b4:FmAt w1 w.heap.size E F:=(show FmAt w0 w.heap.size E F by rw[b2];exact FmAt.made w _ _ _).below c8;have a1:NumBox w1 (w.heap.size+1) kind neg dneg s x hneg Ad n c hx p:=by rw[<- b3,c0];exact NumBox.made w0 _ _ _ _ _ _ _ _ _ _ _ _
 have hB:Below w.heap.size w w1:=c7.trans (c8.mono c7.size);have HF:=vv b4;have HX:=vv a1;have HB:=vv hB;have f2:Hid (w1=(w.alloc (.cells #[.int .i64 E,.int .i64 F] 23)).alloc (.cells #[.int .u8 (kind:Int),.bool neg,.bool dneg,.string s,.int .i64 x,.bool hneg,.slice Ad n c,.int .i64 hx,.int .u64 (p:Int)] 33)):=vv (by rw[c0,b2]);have f7:=vv hst;have HR:=vv hr;have f3:=vv d4;have HN:=vv hn;have c9:=vv hr.lim;have a5:=vv hr.len;have b5:=vv fun w' (h:Below w.heap.size w w')=>R16.Number E F kind neg dneg s x hneg Ad n c xs hx p mode w' (hr.below h rfl) (hst.fs (Fs.of_nil h))
 have b6:=vv fun w' A' c' (h:Below w.heap.size w w') (f4:Rd w' A' n c' xs)=>Rea.Number E F kind neg dneg s x hneg A' n c' xs hx p mode w' f4 hmax (hst.fs (Fs.of_nil h))
 obtain⟨O,hO⟩:=yx (q1I E F kind neg dneg s x hneg n xs hx p mode);rw[<- hO] at b5;simp only[<- hO] at b6;have f0:=b4.c0;have f1:=b4.c1;have fl:=b4.lt;have k0:=a1.c0;have k1:=a1.c1;have k2:=a1.c2;have k3:=a1.c3;have k4:=a1.c4;have k5:=a1.c5;have k6:=a1.c6;have k7:=a1.c7;have k8:=a1.c8;have kl:=a1.lt;have f8:(n:Int)<=35184372087808:=by omega
 have f5:Hid (∀w':World,Below w.heap.size w w'->∀ad,Ad=some ad->∀j u,(q0p xs)[j]?=some u->w'.cell? (ad.add j)=some u):=vv (fun w' h ad ha j u hu=>by
  have hj:j<(q0p xs).length:=(List.getElem?_eq_some_iff.1 hu).1;have d8:j<n:=by rw[<- hr.len];simpa [q0p] using hj
  obtain⟨b,off,e,hb,hc⟩:=(hr.below h rfl).cell (by omega);rw[ha] at e;cases e
  rw[q29 xs (by rw[hr.len];exact d8)] at hu;cases hu
  have ea:(⟨b,off,none⟩:Addr).add j=⟨b,off+j,none⟩:=by unfold Addr.add;split<;>simp_all
  rw[ea];exact hc j d8)
 clear b2 c0 c7 c8 b4 a1 hB hst hr d4 hO hn hnil b3;go_enter Tryz.func3,Tryz.ntmps3
 go_wp2_with (first|rw[<- f2.o]|(at_builtin;refine q2j rfl _ _ 26 rfl (w.heap.size+2) 34 i0 (.int .u32 0) 1 4 Tryz.underlying26 hi d5 d6 d7 rfl (by decide) rfl Ad n c (q0p xs) rfl (by simp [q0p,a5.o]) f3.o (f5.o _ HB.o) (q28 xs) (by have:=HN.o;unfold maxLen;omega) (by have:=HN.o;omega) (by have:=HX.o.lt;omega) ?_))
 intro v1 w2 a2 a0;have c1:Below (w.heap.size+2) w1 w2:=(Below.refl _ w1).grown a0 (by have:=HX.o.lt;omega) (fun k h=>by cases h);have a8:=vv a2;have HF:=vv (HF.o.belowLt c1 (by omega));have HX:=vv (HX.o.belowLt c1 (by omega));have HB:=vv (HB.o.trans (c1.mono (by omega)));clear a2 a0 c1 f0 f1 fl k0 k1 k2 k3 k4 k5 k6 k7 k8 kl;have d9:w.heap.size+2<=w2.heap.size:=by have:=HX.o.lt;omega
 have d0:=vv d9;clear d9;go_wp2_with (at_builtin;refine wpList_append_own _ rfl _ _ 26 rfl (w.heap.size+2) 34 i0 (.int .u32 0) 1 4 Tryz.underlying26 hi d5 d6 d7 rfl (by decide) _ n (q0p xs) rfl (a8.o.alloc _) ⟨w2.heap.size,0,none⟩ 1 1 [.int .u32 77] rfl rfl (cell_one_new _ _ _) (by simp [Value.oneCell']) (by have:=HN.o;unfold maxLen;omega) (by have:=HN.o;omega) (by have:=d0.o;simp;omega) ?_)
 intro v2 w3 a2 a0 _;have a3:w3.ownsRow (w.heap.size+2) 34 1 v2 (n+1) (q0p (xs++[77])):=by
  have e:q0p (xs++[77])=q0p xs++[.int .u32 77]:=by simp [q0p]
  rw[e];exact a2
 have e0:=a8.o.lt;have c2:Below (w.heap.size+2) w2 w3:=((Below.refl (w.heap.size+2) w2).alloc d0.o _).grown a0 (by have:=d0.o;simp;omega) (fun k h=>(e0 k h).1);obtain⟨g,cap,rfl,e1⟩:=q4t a3 (by omega);obtain⟨A',c',e,d1,-⟩:=q3c a3 (q19.2 ⟨c9.o,by intro y hy;simp at hy;omega⟩) (by have:=HN.o;omega);cases e
 have a8:=vv a3;have a6:=d1.take (k:=n) (by omega);rw[List.take_left' a5.o] at a6;have a4:=vv a6;obtain⟨c3,-,-,e3⟩:=q5m a3 (i:=n) (by omega);have enth:nth (xs++[77]) n=77:=by
  unfold nth;rw[List.getD_eq_getElem?_getD,List.getElem?_append_right (by rw[a5.o];exact lr),a5.o,Nat.sub_self];rfl
 rw[enth] at c3;have a7:=vv (show w3.cell? ⟨g,n,none⟩=some (.int .u32 77) from c3);have e4:=vv e3;have f9:=vv e1;have HF:=vv (HF.o.belowLt c2 (by omega));have HX:=vv (HX.o.belowLt c2 (by omega));have HB:=vv (HB.o.trans (c2.mono (by omega)));have e5:=a6.le;have d2:=d1.le;obtain⟨k0,k1,k2,k3,k4,k5,k6,k7,k8,kl⟩:=HX.o;obtain⟨f0,f1,fl⟩:=HF.o;obtain⟨h,hh⟩:=yx (w3.heap.size);obtain⟨w4,c4⟩:=yx (w3.alloc (.cells #[.int .u8 (kind:Int),.bool neg,.bool dneg,.string s,.int .i64 x,.bool hneg,.slice (some ⟨g,0,none⟩) n cap,.int .i64 hx,.int .u64 (p:Int)] 33));have o4:Below w3.heap.size w3 w4:=by rw[c4];exact(Below.refl _ _).alloc lr _
 have x4:NumBox w4 h kind neg dneg s x hneg (some ⟨g,0,none⟩) n cap hx p:=by rw[c4,hh];exact NumBox.made _ _ _ _ _ _ _ _ _ _ _ _ _
 have HF:=vv (HF.o.below o4);have f6:=vv (HX.o.below o4);have HB:=vn HB o4;have a4:=vv (a4.o.below o4 rfl);have a7:Hid (w4.cell? ⟨g,n,none⟩=some (.int .u32 77)):=vv ((o4.cell (p:=⟨g,n,none⟩) e4.o).trans a7.o);have e6:Hid (g<h):=vv (by rw[hh];exact e4.o);have e7:=vv x4;have e8:=vv c4;have HH:=vv hh;have g0:Hid (w.heap.size+1<h):=vv (by rw[hh];exact kl);clear a2 a0 a3 e0 c2 d1 a6 c3 e3 e1 enth hh c4 o4 x4;have a9:(n:Int)<=(cap:Int):=by omega
 go_wp2_with fail
 rw[<- e8.o,<- HH.o];clear e8 HH k0 k1 k2 k3 k4 k5 k6 k7 k8 kl f0 f1 fl a9;refine(b6.o _ (some ⟨g,0,none⟩) cap HB.o a4.o).mono ?_;rintro e w5 ⟨rfl,b0⟩;have HF:=vv (HF.o.below b0);have HX:=vv (f6.o.below b0);have a4:=vv (a4.o.below b0 rfl);have a7:Hid (w5.cell? ⟨g,n,none⟩=some (.int .u32 77)):=vv ((b0.cell (p:=⟨g,n,none⟩) (by have:=e6.o;have:=e7.o.lt;show g<w4.heap.size;omega)).trans a7.o);have b7:Hid (g<w5.heap.size):=vv (by have:=e6.o;have:=e7.o.lt;have:=b0.size;omega);have HB:=vn HB b0;clear b0;obtain⟨k0,k1,k2,k3,k4,k5,k6,k7,k8,kl⟩:=HX.o;obtain⟨f0,f1,fl⟩:=HF.o;go_wp2_with fail
 refine(b5.o _ HB.o).mono ?_;rintro e w6 ⟨rfl,b1⟩;have HX:=vv (HX.o.below b1);have a4:=vv (a4.o.below b1 rfl);have a7:Hid (w6.cell? ⟨g,n,none⟩=some (.int .u32 77)):=vv ((b1.cell (p:=⟨g,n,none⟩) b7.o).trans a7.o);have b8:Hid (g<w6.heap.size):=vv (Nat.lt_of_lt_of_le b7.o b1.size);have HB:=vn HB b1;clear b1 f0 f1 fl k0 k1 k2 k3 k4 k5 k6 k7 k8 kl;have k6:=HX.o.c6;have kl:=HX.o.lt;have a9:(n:Int)<=(cap:Int):=by omega
 obtain⟨h9,c5⟩:=yx (w6.heap.size);obtain⟨w7,b9⟩:=yx (w6.alloc (.cells #[.slice (some ⟨g,0,none⟩) n cap] 28));have o7:Below w6.heap.size w6 w7:=by rw[b9];exact(Below.refl _ _).alloc lr _
 have y7:w7.cell? ⟨h9,0,none⟩=some (.slice (some ⟨g,0,none⟩) n cap):=by rw[b9,c5];simp only[World.cell?];rw[heap_alloc_new];rfl
 have yl7:h9<w7.heap.size:=by rw[b9,c5];simp
 have HX:=vv (HX.o.below o7);have a4:=vv (a4.o.below o7 rfl);have a7:Hid (w7.cell? ⟨g,n,none⟩=some (.int .u32 77)):=vv ((o7.cell (p:=⟨g,n,none⟩) b8.o).trans a7.o);have d3:Hid (g<w7.heap.size):=vv (Nat.lt_of_lt_of_le b8.o o7.size);have HB:=vn HB o7;have e9:=vv b9;have g1:=vv c5;have g2:=vv y7;have g3:=vv yl7;clear c5 b9 o7 y7 yl7;go_wp2_with fail
 rw[<- e9.o];clear e9 k6 kl a9;refine(R1.Same_like (some ⟨g,0,none⟩) Ad n cap c xs w7 a4.o (HR.o.below HB.o rfl)).mono ?_;rintro e w8 ⟨rfl,c6⟩;have HX:=vv (HX.o.below c6);have c3:=(c6.cell (p:=⟨g,n,none⟩) d3.o).trans a7.o;have HB:=vn HB c6;have k6:=HX.o.c6;have kl:=HX.o.lt;have g4:(n:Int)<(n:Int)+1:=by omega
 clear c6;go_wp2;go_ret
 exact⟨rfl,HB.o⟩
end Law
end Go.Proofs.YtcdimmblnbkjjaaGreatDoor
