/- Lemmas. -/
import Derived.Test.YtppgcnhlpnmieaaGreatDoorPartBH
import Derived.Lib.ItoaLen
import Derived.Lib.LaidTab
import Derived.Lib.AppendIntMem
set_option linter.all false
set_option maxHeartbeats 4000000
set_option maxRecDepth 100000
namespace Go.Proofs.YtppgcnhlpnmieaaGreatDoor.Hx
open Go Go.RowKit R5 Scn Fms Exa
def Ten (w : World) : Prop := Lib.TabIs Tryz.prog w "internal/strconv.uint64pow10" .u64 Lib.pow10Tab /\ 5 < w.heap.size
def txtL(neg:Bool)(l:List UInt8)(x:Int):List UInt8:=(if neg then[45] else[])++([48,120]++l.take 1++(if 1<l.length then 46::l.drop 1 else[])++112::Lib.itoa x)
theorem qdb{x y:ByteArray}(h:x.data.toList=y.data.toList):Ending.returned (.string x)=Ending.returned (.string y):=by
 congr 2
 exact ByteArray.ext (Array.toList_inj.1 h)
theorem q9t(neg:Bool)(l:List UInt8)(x:Int)(w:World)(hl:l≠[])(hn:l.length<=65536)(h1:-1000000<=x)(h2:x<=1000000)(hp:Ten w):
  Calls Tryz.prog 54 #[.bool neg,.string ⟨l.toArray⟩,.int .i64 x] w fun e w'=>e=.returned (.string ⟨(txtL neg l x).toArray⟩)/\Below w.heap.size w w':=by
 obtain⟨s,hs⟩:∃s:ByteArray,s=⟨l.toArray⟩:=⟨_,rfl⟩;have a0:s.size=l.length:=by rw[hs];exact List.size_toArray ..
 rw[<- hs];have a1:(s.size:Int)<=65536:=by omega
 have a2:(1:Int)<=s.size:=by have:=List.length_pos_iff.2 hl;omega
 obtain⟨t,ht⟩:∃t:ByteArray,t=⟨(Lib.itoa x).toArray⟩:=⟨_,rfl⟩;have a3:(t.size:Int)<=21:=by
  have h:=Lib.itoa_length_le x (by omega) (by omega);have e:t.size=(Lib.itoa x).length:=by rw[ht];exact List.size_toArray ..
  omega
 have hI:=Tryz.strconv_Itoa x (by omega) (by omega) w hp.1
 rw[<- ht] at hI;have HI:=vv hI;have HT:=vv ht;have HS:=vv (And.intro hs a0);clear hp hl hn h1 h2 hs a0 hI ht;go_enter Tryz.func54,Tryz.ntmps54
 go_wp2_with fail
 all_goals
  refine HI.o.mono ?_;rintro e w1 ⟨rfl,k,os,rfl⟩;have HB:=vv (Lib.below_grow w.heap.size w lr k os);cases neg
  all_goals
   go_wp2;go_ret
   refine⟨qdb ?_,HB.o⟩;have hS:=HS.o.2;simp only[ByteArray.data_append,ByteArray.data_extract,Array.toList_append,Array.toList_extract,txtL];have e1:s.data.toList=l:=by rw[HS.o.1]
   have e2:t.data.toList=Lib.itoa x:=by rw[HT.o]
   have e3:l.extract 0 1=l.take 1:=by simp [List.extract_eq_take_drop]
   have e4:l.extract 1 l.length=l.drop 1:=by
    simp only[List.extract_eq_take_drop];exact List.take_of_length_le (by simp)
   rw[e1,e2];simp only[hS,e3,e4];by_cases h:1<l.length
   ·first
     | (exfalso;omega)
     | simp [h]
   ·first
     | (exfalso;omega)
     | simp [h]
theorem qcY(E F:Nat)(w:World)(h1:E<=62)(h2:F<=62):
  Calls Tryz.prog 83 #[fm E F] w fun e w'=>e=.returned (.int .i64 (((E+F+4)/4:Nat):Int))/\Below w.heap.size w w':=by
 have hb:Below w.heap.size w (w.alloc (.cells #[.int .i64 (E:Int),.int .i64 (F:Int)] 23)):=(Below.refl _ _).alloc lr _;have hE:(E:Int)<=62:=by omega
 have hF:(F:Int)<=62:=by omega
 clear h1 h2;go_enter Tryz.func83,Tryz.ntmps83
 go_wp2;go_ret
 exact⟨q0T (by omega),hb⟩
theorem first(neg:Bool)(A:Option Addr)(n c N:Nat)(x:Int)(w:World)(ha:Rd w A n c (toL N))(hn:n<=16384)(h1:-1000000<=x)(h2:x<=1000000):
  Calls Tryz.prog 58 #[q2V neg A n c x] w fun e w'=>e=.returned (.int .i64 (x+(bl N:Int)-1))/\Below w.heap.size w w':=by
 obtain⟨w0,a0⟩:=yx (w.alloc (.cells #[.bool neg,.slice A n c,.int .i64 x] 30));have hb:Below w.heap.size w w0:=by rw[a0];exact(Below.refl _ _).alloc lr _
 have hQ:Blk w0 w.heap.size 30 [.bool neg,.slice A n c,.int .i64 x]:=by rw[a0];exact Blk.made w 30 [.bool neg,.slice A n c,.int .i64 x]
 have a1:bl N<=524288:=by
  have h:=ha.lt;rw[q00,q1J] at h;have:=q0t h;omega
 have a2:=vv (Pnt.Bits A n c N w0 (ha.below hb rfl) hn);obtain⟨s,hs⟩:=yx (bl N);rw[<- hs] at a2 a1 ⊢;have a4:(s:Int)<=524288:=by omega
 have HB:=vv hb;have HQ:=vv hQ;have HW:=vv a0;clear hb hQ a0 ha hn a1 hs;go_enter Tryz.func58,Tryz.ntmps58
 go_wp2_with fail
 rw[<- HW.o];refine a2.o.mono ?_;rintro e w1 ⟨rfl,hB⟩;have a3:=vn HB hB;have c2:=(HQ.o.below hB).cell 2;have cl:=(HQ.o.below hB).lt;simp only[List.getElem?_cons_zero,List.getElem?_cons_succ] at c2;clear hB;go_wp2;go_ret
 exact⟨q0T (by omega),a3.o⟩
def q6k(M:Nat):Nat:=if M=0 then 0 else M/2^tz M
def qb4(M:Nat)(p:Int):Int:=if M=0 then 0 else p+(tz M:Int)
def qbU(neg:Bool)(M:Nat):Bool:=if M=0 then false else neg
theorem qbG{neg:Bool}{M:Nat}{p:Int}{w:World}{e:Ending}{w':World}(h:qbH neg M p w e w'):DyP (qbU neg M) (q6k M) (qb4 M p) w e w':=by
 unfold qbH at h;unfold qbU q6k qb4;by_cases h0:M=0
 ·rw[if_pos h0] at h;simp only[if_pos h0];exact h
 ·rw[if_neg h0] at h;simp only[if_neg h0];exact h
def qbX(neg g:Bool)(N:Nat)(x:Int)(w:World)(e:Ending)(w':World):Prop:=
 ∃A m,e=.returned (.tuple #[q2V g A m m x,.bool neg,.int .i64 0])/\Rd w' A m m (toL N)/\Fr w.heap.size A/\Below w.heap.size w w'
theorem q46(E F b:Nat)(w:World)(h1:2<=E)(h2:E<=11)(h3:1<=F)(h4:F<=52)(hb:b<2^(1+E+F))(hf:q0f E F b≠R3.tw E-1)(hs:Std w)(N:Nat)(x:Int)(g:Bool)
  (hN:N=q6k (q0U F (q0f E F b) (q0u F b))) (hx:x=qb4 (q0U F (q0f E F b) (q0u F b)) (q1k E F (q0f E F b))) (hg:g=qbU (q0L E F b) (q0U F (q0f E F b) (q0u F b))) :
  Calls Tryz.prog 53 #[fm E F,.int .u64 (b:Int)] w (qbX (q0L E F b) g N x w):=by
 have a8:=vv fun w=>Split E F b w h1 h2 h3 h4 hb
 have b1:Hid (∀w,Std w->Calls Tryz.prog 129 #[fm E F,.int .u64 (b:Int)] w (DyP g N x w)):=vv fun w hs=>by
  rw[hg,hN,hx];exact(Go.Proofs.YtppgcnhlpnmieaaGreatDoor.Exa.Value E F b w h1 h2 h3 h4 hb hf hs).mono fun _ _ h=>qbG h
 obtain⟨y,hy⟩:=yx (q0f E F b);obtain⟨f,b2⟩:=yx (q0u F b);obtain⟨neg,a0⟩:=yx (q0L E F b);rw[<- hy,<- b2,<- a0] at a8;rw[<- a0];obtain⟨w0,a2⟩:=yx ((w.alloc (.cells #[.int .i64 (E:Int),.int .i64 (F:Int)] 23)).alloc (.cells #[.bool false,.slice none 0 0,.int .i64 0] 30));have hB:Below w.heap.size w w0:=by rw[a2];exact((Below.refl _ _).alloc lr _).alloc (by simp) _
 have hR:Blk w0 (w.heap.size+1) 30 [.bool false,.slice none 0 0,.int .i64 0]:=by
  rw[a2];have:=Blk.made (w.alloc (.cells #[.int .i64 (E:Int),.int .i64 (F:Int)] 23)) 30 [.bool false,.slice none 0 0,.int .i64 0]
  rwa [World.size_alloc] at this
 have hQ:Blk w0 w.heap.size 23 [.int .i64 (E:Int),.int .i64 (F:Int)]:=by
  rw[a2];exact(Blk.made w 23 [.int .i64 (E:Int),.int .i64 (F:Int)]).alloc _
 have HW:=vv a2;have HB:=vv hB;have HR:=vv hR;have HQ:=vv hQ;have HS:=vv hs;clear hN hx hg hy b2 a0 a2 hB hR hQ hs h1 h2 h3 h4 hb hf;go_enter Tryz.func53,Tryz.ntmps53
 go_wp2_with fail
 rw[<- HW.o];refine(a8.o _).mono ?_;rintro e w1 ⟨rfl,hB⟩;have a3:Below w1.heap.size w1 (w1.alloc (.cells #[.bool neg,.int .i64 (y:Int),.int .u64 (f:Int)] 101)):=(Below.refl _ _).alloc lr _;obtain⟨w2,a5⟩:=yx (w1.alloc (.cells #[.bool neg,.int .i64 (y:Int),.int .u64 (f:Int)] 101));have b3:Blk w2 w1.heap.size 101 [.bool neg,.int .i64 (y:Int),.int .u64 (f:Int)]:=by rw[a5];exact Blk.made w1 101 [.bool neg,.int .i64 (y:Int),.int .u64 (f:Int)]
 rw[<- a5] at a3;have c4:=vv a5;have b4:=vv b3;have b5:=vv (HR.o.below hB).lt;have a9:=vv ((HR.o.below hB).below a3);have c5:=vv ((HQ.o.below hB).below a3);have b6:=vv (HB.o.trans ((hB.trans (a3.mono hB.size)).mono HB.o.size));have c0:=(HQ.o.below hB).cell 0;have c1:=(HQ.o.below hB).cell 1;have cl:=(HQ.o.below hB).lt;simp only[List.getElem?_cons_zero,List.getElem?_cons_succ] at c0 c1;clear hB a3 a5 b3;go_wp2_with fail
 rw[<- c4.o];refine(b1.o _ (HS.o.below b6.o)).mono ?_;rintro e w3 ⟨A,m,rfl,hA,hF,hB⟩;have b7:=vv (b4.o.below hB);have b8:=vv (a9.o.below hB);have b9:=vn b6 hB;have b0:=vv (hF.mono a9.o.lt);have c2:=vv hA;clear hB hF hA c0 c1 cl;go_wp2_with (with_reducible refine q07 rfl 30 (.tmp 4) (.tmp 22) rfl (w.heap.size+1) [.bool g,.slice A m m,.int .i64 x] rfl rfl 30 _ b8.o (by kernel_rfl) rfl rfl ?_)
 intro w4 hB a6;have c6:=vv (q0a b9.o a6 b9.o.size (Nat.le_succ _));have c7:=vv (c2.o.only a6 (fun a e=>by have:=(b0.o a e).1;omega));have c3:=vv (b7.o.grown a6 (fun e=>by have:=b5.o;injection e;omega));have a1:=vv hB;clear hB a6;obtain⟨p0,p1,p2⟩:=blk3 c3.o;obtain⟨k0,k1,k2⟩:=blk3 a1.o;have f0:=a1.o.fz 0;have f1:=a1.o.fz 1;have f2:=a1.o.fz 2;have kl:=a1.o.lt;have a7:=b5.o;clear c3 b7 b8 c5 HQ b4 a9 a8 b1 c2;go_wp2_with fail
 go_region
 obtain⟨w5,a4⟩:=yx ((((w4.setCell ⟨w.heap.size+1,0,none⟩ (.bool g)).setCell ⟨w.heap.size+1,1,none⟩ (.slice A m m)).setCell ⟨w.heap.size+1,2,none⟩ (.int .i64 x)).drew);have c8:Hid (Below w.heap.size w w5):=vv (by
  rw[a4];exact q04 (((c6.o.setCell (p:=⟨w.heap.size+1,0,none⟩) (Nat.le_succ _) _).setCell (p:=⟨w.heap.size+1,1,none⟩) (Nat.le_succ _) _).setCell (p:=⟨w.heap.size+1,2,none⟩) (Nat.le_succ _) _))
 have c9:Hid (Rd w5 A m m (toL N)):=vv (by
  rw[a4];have a7:∀a,A=some a->a.block≠w.heap.size+1:=fun a e=>by have:=(b0.o a e).1;omega
  exact(((c7.o.other _ _ _ a7).other _ _ _ a7).other _ _ _ a7).drew)
 have d0:Hid (Blk w5 (w.heap.size+1) 30 [.bool g,.slice A m m,.int .i64 x]):=vv (by
  rw[a4];exact(((a1.o.set 0 (.bool g)).set 1 (.slice A m m)).set 2 (.int .i64 x)).below (q04 (Below.refl _ _)))
 rw[<- a4];clear a4;go_wp2;obtain⟨k0,k1,k2⟩:=blk3 d0.o;exact bodyPost_ret (v:=.tuple #[q2V g A m m x,.bool neg,.int .i64 0]) (by simp [results,Tryz.results53,go_sem,k0,k1,k2]) rfl ⟨A,m,rfl,c9.o,b0.o.mono (by omega),c8.o⟩
theorem qcf{x y:ByteArray}{v:Value}(h:x.data.toList=y.data.toList):Ending.returned (.tuple #[.string x,v])=Ending.returned (.tuple #[.string y,v]):=by
 have:x=y:=ByteArray.ext (Array.toList_inj.1 h);rw[this]
theorem Dump_no(E F:Int)(b:Nat)(w:World)(hb:b<18446744073709551616)(h:q0b E F b≠0):
  Calls Tryz.prog 22 #[fm E F,.int .u64 b] w fun e w'=>e=.returned (.tuple #[.string ⟨#[]⟩,.int .i64 (q0b E F b)])/\Below w.heap.size w w':=by
 have HF:=vv fun w=>Fits E F b w hb
 obtain⟨q,hq⟩:=yx (q0b E F b);rw[<- hq] at HF h ⊢;have h':(q==0)=false:=by rw[beq_eq_false_iff_ne];exact h
 have HB:=vv ((Below.refl w.heap.size w).alloc (o:=.cells #[.int .i64 E,.int .i64 F] 23) lr);clear hq hb h;go_enter Tryz.func22,Tryz.ntmps22
 go_wp2_with fail
 refine(HF.o _).mono ?_;rintro e w1 ⟨rfl,hB⟩;have a0:=vn HB hB;clear hB;go_wp2;go_ret2
 exact⟨rfl,a0.o⟩
def q8S(E F b:Nat):List UInt8:=[48,120]++hexL b ((E+F+4)/4)
theorem Dump(E F b:Nat)(w:World)(h1:2<=E)(h2:E<=11)(h3:1<=F)(h4:F<=52)(hb:b<2^(1+E+F)):
  Calls Tryz.prog 22 #[fm E F,.int .u64 b] w fun e w'=>e=.returned (.tuple #[.string ⟨(q8S E F b).toArray⟩,.int .i64 0])/\Below w.heap.size w w':=by
 have a1:b<18446744073709551616:=Nat.lt_of_lt_of_le hb (by rw[show(18446744073709551616:Nat)=2^64 from rfl];exact Nat.pow_le_pow_right (by decide) (by omega));have b0:=q0t hb;have a2:q0b E F b=0:=by
  unfold q0b;rw[formOk_in h1 h2 h3 h4,if_pos rfl,if_neg (by omega)]
 have HF:=vv fun w=>Fits E F b w a1
 rw[a2] at HF;have HO:=vv fun w=>Pnt.Of b w a1
 have a8:=vv fun w=>qcY E F w (by omega) (by omega)
 have a5:Hid (∀A m w,Rd w A m m (toL b)->Calls Tryz.prog 57 #[q1u A m m,.int .i64 (((E+F+4)/4:Nat):Int)] w fun e w'=>e=.returned (.string ⟨(hexL b ((E+F+4)/4)).toArray⟩)/\Below w.heap.size w w'):=vv fun A m w hr=>by
  have hm:m<=2:=hr.bound (by omega);have h:=q2A A m m b ((E+F+4)/4) w hr (by omega) (by omega) (by omega)
  rwa [show max ((E+F+4)/4) ((bl b+3)/4)=(E+F+4)/4 by omega] at h
 obtain⟨s,hs⟩:∃s:ByteArray,s=⟨(hexL b ((E+F+4)/4)).toArray⟩:=⟨_,rfl⟩;have b8:(s.size:Int)<=100:=by
  have e:s.size=(hexL b ((E+F+4)/4)).length:=by rw[hs];exact List.size_toArray ..
  rw[e,hexL_len];omega
 rw[<- hs] at a5;obtain⟨d,hd⟩:=yx ((E+F+4)/4);rw[<- hd] at a8 a5;obtain⟨w0,a3⟩:=yx (w.alloc (.cells #[.int .i64 (E:Int),.int .i64 (F:Int)] 23));have hB:Below w.heap.size w w0:=by rw[a3];exact(Below.refl _ _).alloc lr _
 have hQ:Blk w0 w.heap.size 23 [.int .i64 (E:Int),.int .i64 (F:Int)]:=by rw[a3];exact Blk.made w 23 [.int .i64 (E:Int),.int .i64 (F:Int)]
 have HW:=vv a3;have HB:=vv hB;have HQ:=vv hQ;have b1:=vv (And.intro hs hd);clear a3 hB hQ hs hd h1 h2 h3 h4 hb a1 b0 a2;go_enter Tryz.func22,Tryz.ntmps22
 go_wp2_with fail
 rw[<- HW.o];refine(HF.o _).mono ?_;rintro e w1 ⟨rfl,hB⟩;have a4:=vv (HQ.o.below hB);have b2:=vn HB hB;have c0:=a4.o.cell 0;have c1:=a4.o.cell 1;have cl:=a4.o.lt;simp only[List.getElem?_cons_zero,List.getElem?_cons_succ] at c0 c1;clear hB;go_wp2_with fail
 refine q01 (fun w'=>w'.cell? ⟨w.heap.size,0,none⟩=some (.int .i64 (E:Int))/\w'.cell? ⟨w.heap.size,1,none⟩=some (.int .i64 (F:Int))) 5
  (.still 0 (.still 2 (.one 1 (.one 3 (.one 4 .done))))) (by kernel_rfl) (by kernel_rfl) (fun _ _ d _ _ h=>by cases d<;>exact h) ⟨c0,c1⟩ (fun hS0=>?_)
 iterate 2
  refine q02 (v:=?_) rfl (by rfl) ?_ ?_;rotate_left
  ·intro w b9;go_simp;with_reducible rfl
  simp only[Act.put,sa,sb,sc]
 refine q03 rfl (by rfl) (fun K hK=>?_);go_simp;refine(HO.o _).mono ?_;rintro e w2 ⟨A,m,rfl,hA,_,hB⟩;have hB:Below w1.heap.size w1 w2:=⟨hB.os,hB.tape,hB.output,hB.size,hB.block⟩;have a6:=vv (a4.o.below hB);have b3:=vn b2 hB;have b4:=vv hA;clear hB hA;go_wp2_with fail
 refine hK.out _ _ ⟨a6.o.cell 0,a6.o.cell 1⟩ (fun a0=>?_);clear hK;refine q03 rfl (by rfl) (fun K hK=>?_);go_simp;refine(a8.o _).mono ?_;rintro e w3 ⟨rfl,hB⟩;have a7:=vv (a6.o.below hB);have b5:=vn b3 hB;have b6:=vv (b4.o.below hB rfl);clear hB;go_wp2_with fail
 refine hK.out _ _ ⟨a7.o.cell 0,a7.o.cell 1⟩ (fun a0=>?_);clear hK;refine q03 rfl (by rfl) (fun K hK=>?_);go_simp;refine(a5.o _ _ _ b6.o).mono ?_;rintro e w4 ⟨rfl,hB⟩;have a9:=vv (a7.o.below hB);have b7:=vn b5 hB;clear hB;go_wp2_with fail
 refine hK.out _ _ ⟨a9.o.cell 0,a9.o.cell 1⟩ (fun a0=>?_);clear hK;refine q08 ?_;simp only[List.drop_succ_cons,List.drop_zero];go_wp2;go_ret2
 refine⟨qcf ?_,b7.o⟩;rw[b1.o.1];simp only[ByteArray.data_append,Array.toList_append,q8S]
def up4(s:Nat):Nat:=(4-(s-1)%4)%4
def q2j(neg:Bool)(N:Nat)(x:Int):List UInt8:=
 if N=0 then txtL neg [48] 0 else txtL neg (hexL (N*2^up4 (bl N)) ((bl N+up4 (bl N)+3)/4)) (x+(bl N:Int)-1)
theorem Ten.below{w w':World}(h:Ten w)(hb:Below w.heap.size w w'):Ten w':=by
 refine⟨?_,Nat.lt_of_lt_of_le h.2 hb.size⟩;have h1:=h.1;have hg : Tryz.prog.globalNamed "internal/strconv.uint64pow10" = some 5 := by kernel_rfl
 unfold Lib.TabIs World.var? at h1 ⊢;simp only[hg,Option.bind_some] at h1 ⊢;rw[hb.block _ h.2];exact h1
theorem qcS(E F b:Nat)(neg g:Bool)(x:Int)(w:World)(hb:b<18446744073709551616)(hp:Ten w)
  (hF:∀w',Below w.heap.size w w'->Calls Tryz.prog 53 #[fm E F,.int .u64 (b:Int)] w' (qbX neg g 0 x w')) :
  Calls Tryz.prog 18 #[fm E F,.int .u64 b] w fun e w'=>e=.returned (.tuple #[.string ⟨(q2j neg 0 x).toArray⟩,.int .i64 0])/\Below w.heap.size w w':=by
 have a1:=vv fun w' (h:Below w.heap.size w w')=>q9t neg [48] 0 w' (by simp) (by decide) (by decide) (by decide) (hp.below h)
 have hL:q2j neg 0 x=txtL neg [48] 0:=by unfold q2j;rw[if_pos rfl]
 rw[hL];obtain⟨s,hs⟩:∃s:ByteArray,s=⟨(txtL neg [48] 0).toArray⟩:=⟨_,rfl⟩;rw[<- hs] at a1 ⊢;obtain⟨w0,a0⟩:=yx (w.alloc (.cells #[.int .i64 (E:Int),.int .i64 (F:Int)] 23));have hB:Below w.heap.size w w0:=by rw[a0];exact(Below.refl _ _).alloc lr _
 have a4:=vv (hF w0 hB);have HW:=vv a0;have HB:=vv hB;clear hs hL hp hF hB a0;go_enter Tryz.func18,Tryz.ntmps18
 go_wp2_with fail
 rw[<- HW.o];refine a4.o.mono ?_;rintro e w1 ⟨A,m,rfl,hA,_,hB⟩;have hm:m=0:=hA.len.symm;subst hm;have a2:Below w1.heap.size w1 (w1.alloc (.cells #[.bool g,.slice A 0 0,.int .i64 x] 30)):=(Below.refl _ _).alloc lr _;have a3:=vv (HB.o.trans ((hB.trans (a2.mono hB.size)).mono HB.o.size));clear hB a2 hA;go_wp2_with fail
 refine(a1.o _ a3.o).mono ?_;rintro e w3 ⟨rfl,hB⟩;have a5:=vn a3 hB;clear hB;go_wp2;go_ret2
 exact⟨rfl,a5.o⟩
theorem qaI(E F b N:Nat)(neg g:Bool)(x:Int)(w:World)(hb:b<18446744073709551616)(hp:Ten w)(h0:0<N)(hN:N<2^53)(hx:-4000<=x)(hx2:x<=4000)
  (hF:∀w',Below w.heap.size w w'->Calls Tryz.prog 53 #[fm E F,.int .u64 (b:Int)] w' (qbX neg g N x w')) :
  Calls Tryz.prog 18 #[fm E F,.int .u64 b] w fun e w'=>e=.returned (.tuple #[.string ⟨(q2j neg N x).toArray⟩,.int .i64 0])/\Below w.heap.size w w':=by
 have a4:bl N<=53:=q0t hN;have c7:0<bl N:=q1Q h0;have hL:q2j neg N x=txtL neg (hexL (N*2^up4 (bl N)) ((bl N+up4 (bl N)+3)/4)) (x+(bl N:Int)-1):=by unfold q2j;rw[if_neg (by omega)]
 have hu:up4 (bl N)<=3:=by unfold up4;omega
 have a1:bl (N*2^up4 (bl N))=bl N+up4 (bl N):=by
  have e:N*2^up4 (bl N)/2^up4 (bl N)=N:=Nat.mul_div_cancel _ (Nat.two_pow_pos _);have:=q5b (x:=N*2^up4 (bl N)) (b:=up4 (bl N)) (by rw[e];omega);rw[e] at this;omega
 have b2:N*2^up4 (bl N)<2^56:=by
  have h1:N*2^up4 (bl N)<2^53*2^up4 (bl N):=Nat.mul_lt_mul_of_pos_right hN (Nat.two_pow_pos _);have h2:2^53*2^up4 (bl N)<=2^53*2^3:=Nat.mul_le_mul_left _ (Nat.pow_le_pow_right (by decide) hu);exact Nat.lt_of_lt_of_le h1 (Nat.le_trans h2 (by decide))
 have a2:Hid (-(((bl N:Int)-1)%4)%4=((up4 (bl N):Nat):Int)):=vv (by unfold up4;omega);rw[hL];obtain⟨k,hk⟩:=yx (up4 (bl N));rw[<- hk] at hu a1 b2 a2 ⊢;have a5:=vv fun w' (h:Below w.heap.size w w')=>q9t neg (hexL (N*2^k) ((bl N+k+3)/4)) (x+(bl N:Int)-1) w'
  (by intro e;have:=hexL_len (N*2^k) ((bl N+k+3)/4);rw[e] at this;simp at this;omega) (by rw[hexL_len];omega) (by omega) (by omega) (hp.below h)
 have a9:Hid (∀A m w,Rd w A m m (toL (N*2^k))->Calls Tryz.prog 57 #[q1u A m m,.int .i64 1] w fun e w'=>e=.returned (.string ⟨(hexL (N*2^k) ((bl N+k+3)/4)).toArray⟩)/\Below w.heap.size w w'):=vv fun A m w hr=>by
  have hm:m<=2:=hr.bound (by omega);have h:=q2A A m m (N*2^k) 1 w hr (by omega) (by omega) (by omega)
  rwa [a1,show max 1 ((bl N+k+3)/4)=(bl N+k+3)/4 by omega] at h
 have b3:=vv fun A m w (hr:Rd w A m m (toL N))=>Pnt.Bits A m m N w hr (by have:m<=2:=hr.bound (by omega);omega)
 have c8:=vv fun A m w (hr:Rd w A m m (toL N))=>Pnt.Up A m m N k w hr (by have:m<=2:=hr.bound (by omega);omega) (by omega)
 have b4:=vv fun A m w (hr:Rd w A m m (toL N))=>first g A m m N x w hr (by have:m<=2:=hr.bound (by omega);omega) (by omega) (by omega)
 obtain⟨s,hs⟩:∃s:ByteArray,s=⟨(txtL neg (hexL (N*2^k) ((bl N+k+3)/4)) (x+(bl N:Int)-1)).toArray⟩:=⟨_,rfl⟩;rw[<- hs] at a5 ⊢;obtain⟨y,hy⟩:=yx (bl N);rw[<- hy] at a5 a9 b3 b4 a2 a4;have e7:(y:Int)<=53:=by omega
 have e8:(1:Int)<=y:=by omega
 obtain⟨t,ht⟩:∃t:ByteArray,t=⟨(hexL (N*2^k) ((y+k+3)/4)).toArray⟩:=⟨_,rfl⟩;rw[<- ht] at a5 a9;obtain⟨w0,b0⟩:=yx (w.alloc (.cells #[.int .i64 (E:Int),.int .i64 (F:Int)] 23));have hB:Below w.heap.size w w0:=by rw[b0];exact(Below.refl _ _).alloc lr _
 have c9:=vv (hF w0 hB);have HW:=vv b0;have HB:=vv hB;have d3:=vv h0;clear hs hL hp hF hB b0 ht hy a4 c7 hu a1 b2 hk hN hx hx2 hb h0;go_enter Tryz.func18,Tryz.ntmps18
 go_wp2_with fail
 rw[<- HW.o];refine c9.o.mono ?_;rintro e w1 ⟨A,m,rfl,hA,_,hB⟩;have hm:(1:Int)<=m:=by
  rcases Nat.eq_zero_or_pos m with h|h
  ·subst h;have:=hA.lt;rw[q00,Nat.pow_zero] at this;have:=d3.o;omega
  ·omega
 have a6:Below w1.heap.size w1 (w1.alloc (.cells #[.bool g,.slice A m m,.int .i64 x] 30)):=(Below.refl _ _).alloc lr _;obtain⟨w2,a7⟩:=yx (w1.alloc (.cells #[.bool g,.slice A m m,.int .i64 x] 30));have b5:Blk w2 w1.heap.size 30 [.bool g,.slice A m m,.int .i64 x]:=by rw[a7];exact Blk.made w1 30 [.bool g,.slice A m m,.int .i64 x]
 rw[<- a7] at a6;have d4:=vv a7;have b1:=vv b5;have d5:=vv (HB.o.trans ((hB.trans (a6.mono hB.size)).mono HB.o.size));have b6:=vv (hA.below a6 rfl);clear hB a6 hA a7 b5;have d6:((m:Int)==0)=false:=by rw[beq_eq_false_iff_ne];omega
 go_wp2_with fail
 rw[<- d4.o];refine(b3.o _ _ _ b6.o).mono ?_;rintro e w3 ⟨rfl,hB⟩;have d7:=vv (b1.o.below hB);have b7:=vn d5 hB;have b8:=vv (b6.o.below hB rfl);have hc:=(b1.o.below hB).cell 1;have cl:=(b1.o.below hB).lt;simp only[List.getElem?_cons_zero,List.getElem?_cons_succ] at hc;clear hB;go_wp2_with fail
 rw[a2.o];refine(c8.o _ _ _ b8.o).mono ?_;rintro e w4 ⟨A4,m4,rfl,hA,_,hB⟩;have a3:Below w4.heap.size w4 (w4.alloc (.cells #[.slice A4 m4 m4] 28)):=(Below.refl _ _).alloc lr _;obtain⟨w5,a8⟩:=yx (w4.alloc (.cells #[.slice A4 m4 m4] 28));have b9:Blk w5 w4.heap.size 28 [.slice A4 m4 m4]:=by rw[a8];exact Blk.made w4 28 [.slice A4 m4 m4]
 rw[<- a8] at a3;have d8:=vv a8;have c0:=vv b9;have c1:=vv ((d7.o.below hB).below a3);have d9:=vv (b7.o.trans ((hB.trans (a3.mono hB.size)).mono b7.o.size));have e0:=vv (hA.below a3 rfl);have e1:=vv ((b8.o.below hB rfl).below a3 rfl);clear hB a3 hA a8 b9 hc cl;go_wp2_with fail
 rw[<- d8.o];obtain⟨d0,d1,d2⟩:=Fms.blk3 c1.o;have n0:=c0.o.cell 0;simp only[List.getElem?_cons_zero] at n0;refine q01 (fun w'=>w'.cell? ⟨w4.heap.size,0,none⟩=some (.slice A4 m4 m4)/\w'.cell? ⟨w1.heap.size,0,none⟩=some (.bool g)/\w'.cell? ⟨w1.heap.size,1,none⟩=some (.slice A m m)/\w'.cell? ⟨w1.heap.size,2,none⟩=some (.int .i64 x)) 6
  (.still 0 (.still 1 (.still 3 (.one 2 (.one 4 (.one 5 .done)))))) (by kernel_rfl) (by kernel_rfl) (fun _ _ d _ _ h=>by cases d<;>exact h) ⟨n0,d0,d1,d2⟩ (fun hS0=>?_)
 iterate 3
  refine q02 (v:=?_) rfl (by rfl) ?_ ?_;rotate_left
  ·intro w e9;go_simp;with_reducible rfl
  simp only[Act.put,sa,sb,sc]
 refine q03 rfl (by rfl) (fun K hK=>?_);go_simp;refine(a9.o _ _ _ e0.o.drew).mono ?_;rintro e w6 ⟨rfl,hB⟩;have hB:Below w5.heap.size w5 w6:=⟨hB.os,hB.tape,hB.output,hB.size,hB.block⟩;have c2:=vv (c0.o.below hB);have c3:=vv (c1.o.below hB);have e2:=vn d9 hB;have e3:=vv (e1.o.below hB rfl);clear hB;go_wp2_with fail
 obtain⟨d0,d1,d2⟩:=Fms.blk3 c3.o;refine hK.out _ _ ⟨c2.o.cell 0,d0,d1,d2⟩ (fun a0=>?_);clear hK;refine q03 rfl (by rfl) (fun K hK=>?_);go_simp;refine(b4.o _ _ _ e3.o).mono ?_;rintro e w7 ⟨rfl,hB⟩;have c4:=vv (c2.o.below hB);have c5:=vv (c3.o.below hB);have c6:=vn e2 hB;clear hB;go_wp2_with fail
 obtain⟨d0,d1,d2⟩:=Fms.blk3 c5.o;refine hK.out _ _ ⟨c4.o.cell 0,d0,d1,d2⟩ (fun a0=>?_);clear hK;refine q03 rfl (by rfl) (fun K hK=>?_);go_simp;refine(a5.o _ c6.o).mono ?_;rintro e w8 ⟨rfl,hB⟩;have e4:=vv (c4.o.below hB);have e5:=vv (c5.o.below hB);have e6:=vn c6 hB;clear hB;go_wp2_with fail
 obtain⟨d0,d1,d2⟩:=Fms.blk3 e5.o;refine hK.out _ _ ⟨e4.o.cell 0,d0,d1,d2⟩ (fun a0=>?_);clear hK;refine q08 ?_;simp only[List.drop_succ_cons,List.drop_zero];go_wp2;go_ret2
 exact⟨rfl,e6.o⟩
theorem qaf(E F b:Nat)(w:World)(h1:2<=E)(h2:E<=11)(h3:1<=F)(h4:F<=52)(hb:b<2^(1+E+F))(hf:q0f E F b=R3.tw E-1)(hs:Std w):
  Calls Tryz.prog 129 #[fm E F,.int .u64 (b:Int)] w fun e w'=>e=.returned (.tuple #[q2V false none 0 0 0,.int .i64 8])/\Below w.heap.size w w':=by
 have a7:=vv fun w=>Split E F b w h1 h2 h3 h4 hb
 have b1:=vv fun w=>qaj E F b w h1 h2 h3 h4 hb
 have b7:q0f E F b<2^11:=Nat.lt_of_lt_of_le (Nat.mod_lt _ (Nat.two_pow_pos _)) (Nat.pow_le_pow_right (by decide) h2);have b2:q0u F b<2^F:=Nat.mod_lt _ (Nat.two_pow_pos _);obtain⟨x,hx⟩:=yx (q0f E F b);obtain⟨f,b8⟩:=yx (q0u F b);obtain⟨neg,a1⟩:=yx (q0L E F b);rw[<- hx] at a7 b1 b7 hf;rw[<- b8] at a7 b1 b2;rw[<- a1] at a7;have b3:2^F<=2^52:=Nat.pow_le_pow_right (by decide) h4;have a2:2^(E-1)<=2^10:=Nat.pow_le_pow_right (by decide) (by omega);obtain⟨P,hP⟩:=yx (2^(E-1));rw[<- hP] at a2;have d9:(x:Int)<=2047:=by omega
 have e0:(E:Int)<=11:=by omega
 have e1:(2:Int)<=(E:Int):=by omega
 have e2:(F:Int)<=52:=by omega
 have e3:(P:Int)<=1024:=by omega
 obtain⟨w0,a3⟩:=yx ((w.alloc (.cells #[.int .i64 (E:Int),.int .i64 (F:Int)] 23)).alloc (.cells #[.bool false,.slice none 0 0,.int .i64 0] 30));have hB:Below w.heap.size w w0:=by rw[a3];exact((Below.refl _ _).alloc lr _).alloc (by simp) _
 have hR:Blk w0 (w.heap.size+1) 30 [.bool false,.slice none 0 0,.int .i64 0]:=by
  rw[a3];have:=Blk.made (w.alloc (.cells #[.int .i64 (E:Int),.int .i64 (F:Int)] 23)) 30 [.bool false,.slice none 0 0,.int .i64 0]
  rwa [World.size_alloc] at this
 have hQ:Blk w0 w.heap.size 23 [.int .i64 (E:Int),.int .i64 (F:Int)]:=by
  rw[a3];exact(Blk.made w 23 [.int .i64 (E:Int),.int .i64 (F:Int)]).alloc _
 have HW:=vv a3;have HB:=vv hB;have HR:=vv hR;have HQ:=vv hQ;have HS:=vv hs;have a8:IntKind.i64.wrap ((E:Int)-1)=(E:Int)-1:=IntWalk.i64_in _ (by omega);have a0:IntKind.i64.wrap (2-(P:Int))=2-(P:Int):=IntWalk.i64_in _ (by omega);have a4:IntKind.i64.wrap (2-(P:Int)-(F:Int))=2-(P:Int)-(F:Int):=IntWalk.i64_in _ (by omega);have b9:=vv (And.intro a8 (And.intro a0 a4));have HX:=vv hx;have d4:=vv hP;have c2:2^2<=2^E:=Nat.pow_le_pow_right (by decide) h1;have c3:3<=x:=by rw[hf];unfold R3.tw;omega
 have d5:=vv (And.intro hf (And.intro b2 (And.intro c3 c2)));have HH:=vv (And.intro h1 (And.intro h2 (And.intro h3 h4)));clear hx b8 a1 hb a3 hB hR hQ hs a8 a0 a4 hP h1 h2 h3 h4 hf b2 b3 b7 a2 c3 c2;go_enter Tryz.func129,Tryz.ntmps129
 go_wp2_with fail
 rw[<- HW.o];refine(a7.o _).mono ?_;rintro e w1 ⟨rfl,hB⟩;have a5:Below w1.heap.size w1 (w1.alloc (.cells #[.bool neg,.int .i64 (x:Int),.int .u64 (f:Int)] 101)):=(Below.refl _ _).alloc lr _;obtain⟨w2,a0⟩:=yx (w1.alloc (.cells #[.bool neg,.int .i64 (x:Int),.int .u64 (f:Int)] 101));have c4:Blk w2 w1.heap.size 101 [.bool neg,.int .i64 (x:Int),.int .u64 (f:Int)]:=by rw[a0];exact Blk.made w1 101 [.bool neg,.int .i64 (x:Int),.int .u64 (f:Int)]
 rw[<- a0] at a5;have d6:=vv a0;have c5:=vv c4;have c6:=vv ((HR.o.below hB).below a5);have c7:=vv ((HQ.o.below hB).below a5);have c8:=vv (HB.o.trans ((hB.trans (a5.mono hB.size)).mono HB.o.size));have c0:=(HQ.o.below hB).cell 0;have c1:=(HQ.o.below hB).cell 1;have cl:=(HQ.o.below hB).lt;simp only[List.getElem?_cons_zero,List.getElem?_cons_succ] at c0 c1;clear hB a5 a0 c4;go_wp2_with fail
 rw[<- d6.o];refine(b1.o _).mono ?_;rintro e w3 ⟨rfl,hB⟩;have a9:=vv (c5.o.below hB);have c9:=vv (c6.o.below hB);have a6:=vv (c7.o.below hB);have d0:=vn c8 hB;obtain⟨p0,p1,p2⟩:=blk3 a9.o;have c0:=a6.o.cell 0;have c1:=a6.o.cell 1;have cl:=a6.o.lt;have pl:=a9.o.lt;simp only[List.getElem?_cons_zero,List.getElem?_cons_succ] at c0 c1;clear hB;go_wp2_with fail
 refine q01 (fun w'=>w'.cell? ⟨w.heap.size,0,none⟩=some (.int .i64 (E:Int))/\w'.cell? ⟨w.heap.size,1,none⟩=some (.int .i64 (F:Int))/\w'.cell? ⟨w1.heap.size,2,none⟩=some (.int .u64 (f:Int))) 12
  (.still 0 (.still 1 (.still 2 (.still 3 (.still 4 (.still 5 (.still 6 (.still 7 (.still 8 (.still 9 (.still 10 (.still 11 .done)))))))))))) (by kernel_rfl) (by kernel_rfl) (fun _ _ d _ _ h=>by cases d<;>exact h) ⟨c0,c1,p2⟩ (fun hS0=>?_)
 obtain⟨a8,a0,a4⟩:=b9.o
 iterate 12
  refine q02 (v:=?_) rfl (by rfl) ?_ ?_;rotate_left
  ·intro w e4;go_simp;with_reducible rfl
  simp only[Act.put,sa,sb,sc]
 refine q0G rfl ?_;have hp:IntKind.i64.wrap ((2:Int)^(E-1))=(P:Int):=by
  rw[show((2:Int)^(E-1))=((2^(E-1):Nat):Int) by simp,<- d4.o];exact IntWalk.i64_in _ (by omega)
 rw[hp,a0,a4];clear a8 a0 a4 hp b9 hS0 c0 c1 cl pl p0 p1 p2;obtain⟨B,b4⟩:=yx (2-(P:Int)-(F:Int));have e5:-2000<=B:=by omega
 have e6:B<=2:=by omega
 rw[<- b4];have e7:=vv b4;have b5:=vv (a9.o.below (q04 (Below.refl _ _)));have d1:=vv (c9.o.below (q04 (Below.refl _ _)));have b0:=vv (a6.o.below (q04 (Below.refl _ _)));have b6:Hid (Below w.heap.size w w3.drew):=vv (q04 d0.o);obtain⟨w4,d2⟩:=yx (w3.drew);rw[<- d2] at b5 d1 b0 b6 ⊢;clear d2 b4 a9 c9 a6 d0 c5 c6 c7 c8 HR HQ HB;obtain⟨p0,p1,p2⟩:=blk3 b5.o;have c0:=b0.o.cell 0;have c1:=b0.o.cell 1;have cl:=b0.o.lt;have pl:=b5.o.lt;simp only[List.getElem?_cons_zero,List.getElem?_cons_succ] at c0 c1;obtain⟨c,hc⟩:=yx (q1P E x f);rw[<- hc];have d7:c=4\/c=5:=by
  have:=d5.o;rw[hc];unfold q1P;rw[if_neg (by omega),if_pos this.1];split
  ·exact Or.inl rfl
  ·exact Or.inr rfl
 clear hc;rcases d7 with rfl|rfl;all_goals
  go_wp2_with (with_reducible refine q07 rfl 30 (.tmp 4) (.tmp 65) rfl (w.heap.size+1) [.bool false,.slice none 0 0,.int .i64 0] rfl rfl 30 _ d1.o (by kernel_rfl) rfl rfl ?_)
  intro w8 hB d3;have d8:=vv (q0a b6.o d3 b6.o.size (Nat.le_succ _));obtain⟨k0,k1,k2⟩:=Fms.blk3 hB;have K:=vv (And.intro k0 (And.intro k1 k2));clear hB d3 k0 k1 k2;go_wp2;obtain⟨k0,k1,k2⟩:=K.o;exact bodyPost_ret (v:=.tuple #[q2V false none 0 0 0,.int .i64 8]) (by simp [results,Tryz.results129,go_sem,k0,k1,k2]) rfl ⟨rfl,d8.o⟩
theorem q3c(E F b:Nat)(w:World)(h1:2<=E)(h2:E<=11)(h3:1<=F)(h4:F<=52)(hb:b<2^(1+E+F))(hf:q0f E F b=R3.tw E-1)(hs:Std w):
  Calls Tryz.prog 53 #[fm E F,.int .u64 (b:Int)] w fun e w'=>e=.returned (.tuple #[q2V false none 0 0 0,.bool (q0L E F b),.int .i64 8])/\Below w.heap.size w w':=by
 have a6:=vv fun w=>Split E F b w h1 h2 h3 h4 hb
 have a8:=vv fun w (hs:Std w)=>qaf E F b w h1 h2 h3 h4 hb hf hs
 obtain⟨y,hy⟩:=yx (q0f E F b);obtain⟨f,a9⟩:=yx (q0u F b);obtain⟨neg,a0⟩:=yx (q0L E F b);rw[<- hy,<- a9,<- a0] at a6;rw[<- a0];obtain⟨w0,a2⟩:=yx ((w.alloc (.cells #[.int .i64 (E:Int),.int .i64 (F:Int)] 23)).alloc (.cells #[.bool false,.slice none 0 0,.int .i64 0] 30));have hB:Below w.heap.size w w0:=by rw[a2];exact((Below.refl _ _).alloc lr _).alloc (by simp) _
 have hR:Blk w0 (w.heap.size+1) 30 [.bool false,.slice none 0 0,.int .i64 0]:=by
  rw[a2];have:=Blk.made (w.alloc (.cells #[.int .i64 (E:Int),.int .i64 (F:Int)] 23)) 30 [.bool false,.slice none 0 0,.int .i64 0]
  rwa [World.size_alloc] at this
 have hQ:Blk w0 w.heap.size 23 [.int .i64 (E:Int),.int .i64 (F:Int)]:=by
  rw[a2];exact(Blk.made w 23 [.int .i64 (E:Int),.int .i64 (F:Int)]).alloc _
 have HW:=vv a2;have HB:=vv hB;have HR:=vv hR;have HQ:=vv hQ;have HS:=vv hs;clear hy a9 a0 a2 hB hR hQ hs h1 h2 h3 h4 hb hf;go_enter Tryz.func53,Tryz.ntmps53
 go_wp2_with fail
 rw[<- HW.o];refine(a6.o _).mono ?_;rintro e w1 ⟨rfl,hB⟩;have a3:Below w1.heap.size w1 (w1.alloc (.cells #[.bool neg,.int .i64 (y:Int),.int .u64 (f:Int)] 101)):=(Below.refl _ _).alloc lr _;obtain⟨w2,a4⟩:=yx (w1.alloc (.cells #[.bool neg,.int .i64 (y:Int),.int .u64 (f:Int)] 101));have b0:Blk w2 w1.heap.size 101 [.bool neg,.int .i64 (y:Int),.int .u64 (f:Int)]:=by rw[a4];exact Blk.made w1 101 [.bool neg,.int .i64 (y:Int),.int .u64 (f:Int)]
 rw[<- a4] at a3;have b9:=vv a4;have b1:=vv b0;have b2:=vv (HR.o.below hB).lt;have b3:=vv ((HR.o.below hB).below a3);have c2:=vv ((HQ.o.below hB).below a3);have b4:=vv (HB.o.trans ((hB.trans (a3.mono hB.size)).mono HB.o.size));have c0:=(HQ.o.below hB).cell 0;have c1:=(HQ.o.below hB).cell 1;have cl:=(HQ.o.below hB).lt;simp only[List.getElem?_cons_zero,List.getElem?_cons_succ] at c0 c1;clear hB a3 a4 b0;go_wp2_with fail
 rw[<- b9.o];refine(a8.o _ (HS.o.below b4.o)).mono ?_;rintro e w3 ⟨rfl,hB⟩;have b5:=vv (b1.o.below hB);have b6:=vv (b3.o.below hB);have b7:=vn b4 hB;clear hB c0 c1 cl;go_wp2_with (with_reducible refine q07 rfl 30 (.tmp 4) (.tmp 22) rfl (w.heap.size+1) [.bool false,.slice none 0 0,.int .i64 0] rfl rfl 30 _ b6.o (by kernel_rfl) rfl rfl ?_)
 intro w4 hB a7;have c3:=vv (q0a b7.o a7 b7.o.size (Nat.le_succ _));have b8:=vv (b5.o.grown a7 (fun e=>by have:=b2.o;injection e;omega));have a1:=vv hB;clear hB a7;obtain⟨p0,p1,p2⟩:=blk3 b8.o;obtain⟨k0,k1,k2⟩:=blk3 a1.o;have f0:=a1.o.fz 0;have f1:=a1.o.fz 1;have f2:=a1.o.fz 2;have kl:=a1.o.lt;have c6:=b2.o;clear b8 b5 b6 c2 HQ b1 b3 a6 a8;go_wp2_with fail
 go_region
 obtain⟨w5,a5⟩:=yx ((((w4.setCell ⟨w.heap.size+1,0,none⟩ (.bool false)).setCell ⟨w.heap.size+1,1,none⟩ (.slice none 0 0)).setCell ⟨w.heap.size+1,2,none⟩ (.int .i64 0)).drew);have c4:Hid (Below w.heap.size w w5):=vv (by
  rw[a5];exact q04 (((c3.o.setCell (p:=⟨w.heap.size+1,0,none⟩) (Nat.le_succ _) _).setCell (p:=⟨w.heap.size+1,1,none⟩) (Nat.le_succ _) _).setCell (p:=⟨w.heap.size+1,2,none⟩) (Nat.le_succ _) _))
 have c5:Hid (Blk w5 (w.heap.size+1) 30 [.bool false,.slice none 0 0,.int .i64 0]):=vv (by
  rw[a5];exact(((a1.o.set 0 (.bool false)).set 1 (.slice none 0 0)).set 2 (.int .i64 0)).below (q04 (Below.refl _ _)))
 rw[<- a5];clear a5;go_wp2;obtain⟨k0,k1,k2⟩:=blk3 c5.o;exact bodyPost_ret (v:=.tuple #[q2V false none 0 0 0,.bool neg,.int .i64 8]) (by simp [results,Tryz.results53,go_sem,k0,k1,k2]) rfl ⟨rfl,c4.o⟩
theorem Print_no(E F b:Nat)(w:World)(h1:2<=E)(h2:E<=11)(h3:1<=F)(h4:F<=52)(hb:b<2^(1+E+F))(hf:q0f E F b=R3.tw E-1)(hs:Std w):
  Calls Tryz.prog 18 #[fm E F,.int .u64 b] w fun e w'=>e=.returned (.tuple #[.string ⟨#[]⟩,.int .i64 8])/\Below w.heap.size w w':=by
 obtain⟨w0,a1⟩:=yx (w.alloc (.cells #[.int .i64 (E:Int),.int .i64 (F:Int)] 23));have hB:Below w.heap.size w w0:=by rw[a1];exact(Below.refl _ _).alloc lr _
 have a3:=vv (q3c E F b w0 h1 h2 h3 h4 hb hf (hs.below hB));obtain⟨neg,a0⟩:=yx (q0L E F b);rw[<- a0] at a3;have HW:=vv a1;have HB:=vv hB;clear hB a1 hf hs hb h1 h2 h3 h4 a0;go_enter Tryz.func18,Tryz.ntmps18
 go_wp2_with fail
 rw[<- HW.o];refine a3.o.mono ?_;rintro e w1 ⟨rfl,hB⟩;have a2:=vn HB hB;have a4:Hid (Below w.heap.size w (w1.alloc (.cells #[.bool false,.slice none 0 0,.int .i64 0] 30))):=vv (a2.o.alloc a2.o.size _);clear hB;go_wp2;go_ret2
 exact⟨rfl,by first|exact a4.o|exact a2.o⟩
end Go.Proofs.YtppgcnhlpnmieaaGreatDoor.Hx
namespace Go.Proofs.YtppgcnhlpnmieaaGreatDoor.R12
open Go Go.RowKit B Scn Hx
theorem qdS(x:Int)(w:World)(h1:-9223372036854775808<=x)(h2:x<=9223372036854775807):
  Calls Tryz.prog 138 #[.int .i64 x] w fun e w'=>e=.returned (.string (qax x))/\Below w.heap.size w w':=by
 have hb:bl x.natAbs<=1000:=by
  have:bl x.natAbs<=64:=q0t (by omega);omega
 have HH:=vv (And.intro hb (And.intro h1 h2));clear h1 h2 hb;go_enter Tryz.func138,Tryz.ntmps138
 go_wp2_with fail
 refine(B.SetInt64 _ _ 0 x _ (IntAt.zero w 107) HH.o.2.1 HH.o.2.2).mono ?_;rintro e w1 ⟨rfl,hI,hF⟩;have HB:=vv (hF.below ((Below.refl _ w).alloc lr _) (by simp) lr);have HT:=vv (qbK _ _ x w1 hI HH.o.1);clear hI hF;go_wp2_with fail
 refine HT.o.mono ?_;rintro e w2 ⟨rfl,hB⟩;have a0:=vn HB hB;clear hB;go_wp2;go_ret
 exact⟨rfl,a0.o⟩
theorem q8X(N:Nat):∀k,(q3e 16 N k).map UInt8.ofNat=hexL N k
 | 0=>rfl
 | k+1=>by
  rw[q3e,hexL,List.map_cons,q8X N k];congr 1
  unfold fgN;exact UInt8.ofNat_toNat
theorem qaS(N k:Nat):q7K 16 N k=⟨(hexL N k).toArray⟩:=by
 unfold q7K txt;rw[q8X]
theorem q5L(N:Nat):HasLen 16 N ((bl N+3)/4):=by
 have e:∀k,16^k=2^(4*k):=fun k=>by rw[Nat.pow_mul]
 refine⟨?_,fun h=>?_⟩
 ·rw[e];exact Nat.lt_of_lt_of_le (q1l N) (Nat.pow_le_pow_right (by decide) (by omega))
 ·have hp:0<N:=by
   rcases Nat.eq_zero_or_pos N with h0|h0
   ·subst h0;rw[q94] at h;omega
   ·exact h0
  rw[e];exact Nat.le_trans (Nat.pow_le_pow_right (by decide) (by omega)) (q7y hp)
theorem qbf{N k:Nat}(h:N<16^k):hexL N (k+1)=48::hexL N k:=by
 rw[hexL,Nat.div_eq_of_lt h]
 rfl
abbrev qbV(N k:Nat):ByteArray:=⟨(hexL N k).toArray⟩
theorem q8F(N k:Nat):(qbV N k).size=k:=by
 show(hexL N k).toArray.size=k;rw[List.size_toArray,hexL_len]
abbrev zro:ByteArray:=⟨#[48]⟩
theorem q9V{N k:Nat}(h:N<16^k):zro++qbV N k=qbV N (k+1):=by
 refine ByteArray.ext (Array.toList_inj.1 ?_);rw[ByteArray.data_append,Array.toList_append];show[48]++hexL N k=hexL N (k+1);rw[qbf h]
 rfl
def qdU:Value->Nat
 | .string s=>s.size
 | _=>0
theorem q2A(g o N least:Nat)(w:World)(hx:IntAt w g o (N:Int))(hb:bl N<=60000)(hl:1<=least)(hl2:least<=65536):
  Calls Tryz.prog 84 #[.pointer (some ⟨g,o,none⟩),.int .i64 (least:Int)] w fun e w'=>e=.returned (.string (qbV N (max least ((bl N+3)/4))))/\Below w.heap.size w w':=by
 have HT:=qcP g o N _ w hx (q5L N) hb;rw[qaS] at HT;obtain⟨K,hK⟩:=yx (max 1 ((bl N+3)/4));rw[<- hK] at HT;have hM:max least ((bl N+3)/4)=max least K:=by omega
 rw[hM];obtain⟨M,a0⟩:=yx (max least K);rw[<- a0];have a3:N<16^K:=Nat.lt_of_lt_of_le (q5L N).lt (Nat.pow_le_pow_right (by decide) (by omega));have HT:=vv HT;have HH:=vv (And.intro a0 (And.intro a3 (show M<=200000/\K<=M by omega)));have a7:(least:Int)<=65536:=by omega
 clear hx hb hl hl2 hK hM a0 a3;go_enter Tryz.func84,Tryz.ntmps84
 go_wp2_with fail
 refine HT.o.mono ?_;rintro e w1 ⟨rfl,hB⟩;have HB:=vv hB;clear hB;go_wp2;go_loopw [5] (fun v wr=>∃(s:ByteArray) (q:Nat),v=.string s/\s=qbV N q/\s.size=q/\K<=q/\q<=M/\wr=w1) (fun v _=>M-qdU v)
 case atStart=>exact⟨_,K,rfl,rfl,q8F N K,lr,HH.o.2.2.2,rfl⟩
 case round =>
  obtain⟨s,q,rfl,hs,hq,a1,a4,rfl⟩:=hrel;have hM:=HH.o.1;have a0:=HH.o.2.2.1;have a2:N<16^q:=Nat.lt_of_lt_of_le HH.o.2.1 (Nat.pow_le_pow_right (by decide) a1);by_cases hc:q<least
  ·have a6:(s.size:Int)<least:=by omega
   have a8:(s.size:Int)<=200000:=by omega
   have HS:=vv (And.intro hs (And.intro hq (And.intro a2 (show K<=q+1/\q+1<=M by omega))));clear hs hq a1 a4 hM a0 a2 hc;go_wp2;go_round
   case rel =>
    refine⟨_,q+1,rfl,?_,?_,HS.o.2.2.2.1,HS.o.2.2.2.2,trivial⟩
    ·rw[HS.o.1];exact q9V HS.o.2.2.1
    ·rw[ByteArray.size_append,HS.o.2.1];show 1+q=q+1;omega
   case measure =>
    have h1:=HS.o.2.1;have h2:=HS.o.2.2.2.2;show M-(zro++s).size<M-s.size;rw[ByteArray.size_append];show M-(1+s.size)<M-s.size;omega
  ·have a6:¬(s.size:Int)<least:=by omega
   have a5:q=M:=by omega
   have HS:=vv (And.intro hs a5);clear hs hq a1 a4 hM a0 a2 hc a5;go_wp2;go_ret
   exact⟨by rw[HS.o.1,HS.o.2];rfl,HB.o⟩
theorem q9t(neg:Bool)(g o N n:Nat)(x:Int)(w:World)(hx:IntAt w g o (N:Int))(hb:bl N<=60000)(hn:(bl N+3)/4<=n+1)(hn2:n<=65000)(h1:-1000000<=x)(h2:x<=1000000):
  Calls Tryz.prog 61 #[.bool neg,.pointer (some ⟨g,o,none⟩),.int .i64 (n:Int),.int .i64 x] w fun e w'=>e=.returned (.string ⟨(txtL neg (hexL N (n+1)) x).toArray⟩)/\Below w.heap.size w w':=by
 have HT:=q2A g o N (n+1) w hx hb (by omega) (by omega);rw[show max (n+1) ((bl N+3)/4)=n+1 by omega] at HT;obtain⟨l,hl⟩:=yx (hexL N (n+1));have a1:l.length=n+1:=by rw[hl,hexL_len]
 obtain⟨s,hs⟩:∃s:ByteArray,s=⟨l.toArray⟩:=⟨_,rfl⟩;have a3:s.size=n+1:=by rw[hs,<- a1];exact List.size_toArray ..
 have a4:qbV N (n+1)=s:=by rw[hs,hl]
 rw[a4] at HT;rw[<- hl];have a5:((n+1:Nat):Int)=(n:Int)+1:=by omega
 rw[a5] at HT;have a8:(s.size:Int)<=65001:=by omega
 have a9:(1:Int)<=s.size:=by omega
 have b0:(n:Int)<=65000:=by omega
 obtain⟨t,ht⟩:∃t:ByteArray,t=qax x:=⟨_,rfl⟩;have b1:(t.size:Int)<=21:=by
  have h:=Lib.itoa_length_le x (by omega) (by omega);have e:t.size=(Lib.itoa x).length:=by rw[ht];exact List.size_toArray ..
  omega
 have hI:=fun w=>qdS x w (by omega) (by omega)
 rw[<- ht] at hI;have HI:=vv hI;have HT:=vv HT;have a6:=vv ht;have HS:=vv (And.intro hs (And.intro a3 a1));clear hx hb hn hn2 h1 h2 hs a3 hI ht hl a1 a4 a5;go_enter Tryz.func61,Tryz.ntmps61
 go_wp2_with fail
 refine HT.o.mono ?_;rintro e w1 ⟨rfl,hB⟩;have HB:=vv hB;clear hB;by_cases hz:n=0
 ·subst hz;have a0:=HS.o.2.2;go_wp2_with fail
  refine(HI.o w1).mono ?_;rintro e w2 ⟨rfl,hB⟩;have a2:=vn HB hB;clear hB;cases neg
  all_goals
   go_wp2;go_ret
   refine⟨qdb ?_,a2.o⟩;simp only[ByteArray.data_append,ByteArray.data_extract,Array.toList_append,Array.toList_extract,txtL];have e1:s.data.toList=l:=by rw[HS.o.1]
   have e2:t.data.toList=Lib.itoa x:=by rw[a6.o]
   have e3:l.extract 0 1=l.take 1:=by simp [List.extract_eq_take_drop]
   rw[e1,e2];simp [e3,a0]
 ·have b2:(0:Int)<(n:Int):=by omega
  have a0:=HS.o.2.2;have a7:1<l.length:=by omega
  have HF:=vv (And.intro a7 a0);clear hz a7 a0;go_wp2_with fail
  refine(HI.o w1).mono ?_;rintro e w2 ⟨rfl,hB⟩;have a2:=vn HB hB;clear hB;cases neg
  all_goals
   go_wp2;go_ret
   refine⟨qdb ?_,a2.o⟩;simp only[ByteArray.data_append,ByteArray.data_extract,Array.toList_append,Array.toList_extract,txtL];have e1:s.data.toList=l:=by rw[HS.o.1]
   have e2:t.data.toList=Lib.itoa x:=by rw[a6.o]
   have e3:l.extract 0 1=l.take 1:=by simp [List.extract_eq_take_drop]
   have e4:l.extract 1 s.size=l.drop 1:=by
    simp only[List.extract_eq_take_drop];exact List.take_of_length_le (by rw[List.length_drop,HF.o.2,HS.o.2.1];exact lr)
   rw[e1,e2,if_pos HF.o.1];simp [e3,e4]
end Go.Proofs.YtppgcnhlpnmieaaGreatDoor.R12
