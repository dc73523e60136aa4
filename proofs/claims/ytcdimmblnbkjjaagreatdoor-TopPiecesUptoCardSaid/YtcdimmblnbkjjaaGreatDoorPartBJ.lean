/- Lemmas. -/
import Derived.Test.YtcdimmblnbkjjaaGreatDoorPartAF
import Derived.Test.YtcdimmblnbkjjaaGreatDoorPartBF
import Derived.Test.YtcdimmblnbkjjaaGreatDoorPartBI
import Derived.Test.YtcdimmblnbkjjaaGreatDoorPartAM
import Derived.Test.YtcdimmblnbkjjaaGreatDoorPartAZ
set_option linter.all false
set_option maxHeartbeats 4000000
set_option maxRecDepth 100000
namespace Go.Proofs.YtcdimmblnbkjjaaGreatDoor.Rdx
open Go Go.RowKit R5 Scn Hx
def q5i(n0:Nat)(w:World)(v:Value)(c a:Int):Prop:=
 (c=0/\v=.nilIface)\/(c≠0/\∃gw gf,v=.iface 130 (.pointer (some ⟨gw,0,none⟩))/\n0<=gw/\n0<=gf/\Blk w gw 135 [.pointer (some ⟨gf,0,none⟩)]/\Blk w gf 133 [.int .i64 c,.int .i64 a])
theorem q5i.below{n0:Nat}{w w':World}{v:Value}{c a:Int}(h:q5i n0 w v c a)(hb:Below w.heap.size w w'):q5i n0 w' v c a:=by
 rcases h with h|⟨h,gw,gf,e,h1,h2,h3,h4⟩
 ·exact .inl h
 ·exact .inr ⟨h,gw,gf,e,h1,h2,h3.below hb,h4.below hb⟩
theorem q5i.mono{n0 n1:Nat}{w:World}{v:Value}{c a:Int}(h:q5i n0 w v c a)(hn:n1<=n0):q5i n1 w v c a:=by
 rcases h with h|⟨h,gw,gf,e,h1,h2,h3,h4⟩
 ·exact .inl h
 ·exact .inr ⟨h,gw,gf,e,Nat.le_trans hn h1,Nat.le_trans hn h2,h3,h4⟩
theorem q5i.grown{n0 g:Nat}{w w':World}{v:Value}{c a:Int}(h:q5i n0 w v c a)(hb:w.grownBy w' (some g))(hg:g<n0):q5i n0 w' v c a:=by
 rcases h with h|⟨h,gw,gf,e,h1,h2,h3,h4⟩
 ·exact .inl h
 ·exact .inr ⟨h,gw,gf,e,h1,h2,h3.grown hb (fun e=>by injection e;omega),h4.grown hb (fun e=>by injection e;omega)⟩
def NoP(c a:Int)(w:World)(e:Ending)(w':World):Prop:=∃v,e=.returned v/\q5i w.heap.size w' v c a/\Below w.heap.size w w'
theorem no_(c a:Int)(w:World):Calls Tryz.prog 40 #[.int .i64 c,.int .i64 a] w (NoP c a w):=by
 by_cases h:c=0
 ·subst h;go_enter Tryz.func40,Tryz.ntmps40
  go_wp2;go_ret
  exact⟨_,rfl,.inl ⟨rfl,rfl⟩,Below.refl _ _⟩
 ·have t1:(c==0)=false:=by rw[beq_eq_false_iff_ne];exact h
  have hB:=(Below.refl w.heap.size w).alloc (o:=.cells #[.int .i64 c,.int .i64 a] 133) lr;have hF:Blk (w.alloc (.cells #[.int .i64 c,.int .i64 a] 133)) w.heap.size 133 [.int .i64 c,.int .i64 a]:=Blk.made w 133 [.int .i64 c,.int .i64 a];obtain⟨w1,a0⟩:=yx (w.alloc (.cells #[.int .i64 c,.int .i64 a] 133));have hs:w1.heap.size=w.heap.size+1:=by rw[a0];simp
  rw[<- a0] at hB hF;have hW:Blk (w1.alloc (.cells #[.pointer (some ⟨w.heap.size,0,none⟩)] 135)) w1.heap.size 135 [.pointer (some ⟨w.heap.size,0,none⟩)]:=Blk.made w1 135 [.pointer (some ⟨w.heap.size,0,none⟩)];have a1:=hB.alloc (o:=.cells #[.pointer (some ⟨w.heap.size,0,none⟩)] 135) (by omega);have a2:=hF.alloc (.cells #[.pointer (some ⟨w.heap.size,0,none⟩)] 135);rw[hs] at hW;have HX:=vv (And.intro a0 (And.intro a1 (And.intro a2 hW)));have HH:=vv h;clear h hB hF hs hW a1 a2 a0;go_enter Tryz.func40,Tryz.ntmps40
  go_wp2;go_ret
  rw[<- HX.o.1];exact⟨_,rfl,.inr ⟨HH.o,w.heap.size+1,w.heap.size,rfl,Nat.le_succ _,lr,HX.o.2.2.2,HX.o.2.2.1⟩,HX.o.2.1⟩
def EType(w:World):Prop:=w.cell? ⟨0,0,none⟩=some (.iface 222 (.agg #[.pointer (some ⟨9,56,none⟩)]))
theorem EType.below{w w':World}(h:EType w)(hb:Below w.heap.size w w'):EType w':=(hb.cell (p:=⟨0,0,none⟩) (cell_lt h)).trans h
def AsP(ok:Bool)(t:Nat)(f:Value)(w:World)(e:Ending)(w':World):Prop:=e=.returned (.bool ok)/\Blk w' t 131 [f]/\w.grownBy w' (some t)
theorem qab(t:Nat)(f:Value)(w:World)(ht:Blk w t 131 [f]):
  Calls Tryz.prog 82 #[.nilIface,.iface 137 (.pointer (some ⟨t,0,none⟩))] w (AsP false t f w):=
 (As.as_nil _ w).mono fun e w' ⟨h1,h2⟩=>by subst h2;exact⟨h1,ht,World.grownBy.refl _ _⟩
theorem q2V(t:Nat)(e:Addr)(old:Value)(w:World)(ht:Blk w t 131 [old])(o1 o2 o3 o4:Obj):
  Blk (((((w.alloc o1).alloc o2).alloc o3).alloc o4).setCell ⟨t,0,none⟩ (.pointer (some e))) t 131 [.pointer (some e)]/\w.grownBy (((((w.alloc o1).alloc o2).alloc o3).alloc o4).setCell ⟨t,0,none⟩ (.pointer (some e))) (some t):=by
 have hb:w.grownBy ((((w.alloc o1).alloc o2).alloc o3).alloc o4) (some t):=q0n (q0n (q0n (q0n (World.grownBy.refl _ _) _) _) _) _;exact⟨((((ht.alloc o1).alloc o2).alloc o3).alloc o4).set 0 _,q07 hb (.inl rfl) _⟩
theorem as_wrong(x e:Addr)(t:Nat)(old:Value)(w:World)(hg:EType w)(ht:Blk w t 131 [old])(hx:w.cell? x=some (.pointer (some e))):
  Calls Tryz.prog 82 #[.iface 130 (.pointer (some x)),.iface 137 (.pointer (some ⟨t,0,none⟩))] w (AsP true t (.pointer (some e)) w):=
 (As.as_wrong x e ⟨t,0,none⟩ old w hg (ht.cell 0) (ht.fz 0) hx).mono fun ev w' ⟨h1,h2⟩=>by
  subst h2;exact⟨h1,(q2V t e old w ht _ _ _ _).1,(q2V t e old w ht _ _ _ _).2⟩
theorem as_refused(e:Addr)(t:Nat)(old:Value)(w:World)(hg:EType w)(ht:Blk w t 131 [old]):
  Calls Tryz.prog 82 #[.iface 174 (.pointer (some e)),.iface 137 (.pointer (some ⟨t,0,none⟩))] w (AsP true t (.pointer (some e)) w):=
 (As.as_refused e ⟨t,0,none⟩ old w hg (ht.cell 0) (ht.fz 0)).mono fun ev w' ⟨h1,h2⟩=>by
  subst h2;exact⟨h1,(q2V t e old w ht _ _ _ _).1,(q2V t e old w ht _ _ _ _).2⟩
def qbB(r:Num × Nat × Nat)(w:World)(e:Ending)(w':World):Prop:=
 (r.2.1=0/\∃A m c,e=.returned (.tuple #[Scn.numV r.1 A m c,.nilIface])/\Rd w' A m c (toL r.1.mant)/\Below w.heap.size w w') \/
 (r.2.1≠0/\∃v,e=.returned (.tuple #[Scn.numV Num.none_ none 0 0,v])/\q5i w.heap.size w' v (r.2.1:Nat) (r.2.2:Nat)/\Below w.heap.size w w')
theorem qc6(s:ByteArray)(w:World)(hg:Bg w)(ht:EType w):Calls Tryz.prog 41 #[.string s] w (qbB (q3z s) w):=by
 obtain⟨w0,a8⟩:=yx (w.alloc (.cells #[.int .u8 0,.bool false,.bool false,.string ⟨#[]⟩,.int .i64 0,.bool false,.slice none 0 0,.int .i64 0,.int .u64 0] 33));have hC:Ctx w [(w.heap.size,33,q1y)] w0:=by rw[a8];exact(Ctx.nil w).new 33 q1y rfl
 have b7:=vv (Scn.Read s w0 (hg.below hC.low));obtain⟨r,hr⟩:=yx (q3z s);rw[<- hr] at b7 ⊢;have HC:=vv hC;have HW:=vv a8;have HT:=vv ht;clear hC a8 hr ht;go_enter Tryz.func41,Tryz.ntmps41
 go_wp2_with fail
 rw[<- HW.o];refine b7.o.mono ?_;rintro e w1 (⟨hz,A,m,c,rfl,hA,hF,hB⟩|⟨hz,g,rfl,c6,hQ,hB⟩)
 ·have a9:=vv (HC.o.step hB);obtain⟨x,hx⟩:=yx (r.1);rw[<- hx] at hA ⊢;rw[show Scn.numV x A m c=.agg #[.int .u8 (x.kind:Int),.bool x.neg,.bool x.dneg,.string ⟨x.digits.toArray⟩,.int .i64 x.exp,.bool x.hneg,.slice A m c,.int .i64 x.hexp,.int .u64 (x.payload:Int)] from rfl];have HX:=vv (And.intro hz hx);obtain⟨g4,a1⟩:=yx (w1.heap.size);obtain⟨w2,a0⟩:=yx (w1.alloc (.cells #[.int .u8 (x.kind:Int),.bool x.neg,.bool x.dneg,.string ⟨x.digits.toArray⟩,.int .i64 x.exp,.bool x.hneg,.slice A m c,.int .i64 x.hexp,.int .u64 (x.payload:Int)] 33));have b8:Below w1.heap.size w1 w2:=by rw[a0];exact(Below.refl _ _).alloc lr _
  have a2:Hid (Ctx w [(g4,33,[.int .u8 (x.kind:Int),.bool x.neg,.bool x.dneg,.string ⟨x.digits.toArray⟩,.int .i64 x.exp,.bool x.hneg,.slice A m c,.int .i64 x.hexp,.int .u64 (x.payload:Int)]),(w.heap.size,33,q1y)] w2):=vv (by rw[a0];exact a9.o.new _ _ a1);have c7:=vv (hA.below b8 rfl);have c8:Hid (∀a,A=some a->w.heap.size<a.block):=vv (fun a e=>by have:=(hF a e).1;have:=HC.o.get 0 rfl |>.lt;omega);have a4:=vv (And.intro a0 a1);clear hz hx hA hF hB b8 a0 a1;rw[a4.o.1] at a2;have b0:=vv (a2.o.get 1 rfl);go_wp2_with (with_reducible refine q08 rfl 33 (.tmp 2) (.tmp 14) rfl w.heap.size [.int .u8 (x.kind:Int),.bool x.neg,.bool x.dneg,.string ⟨x.digits.toArray⟩,.int .i64 x.exp,.bool x.hneg,.slice A m c,.int .i64 x.hexp,.int .u64 (x.payload:Int)] rfl rfl 33 q1y b0.o (by kernel_rfl) rfl rfl ?_)
  intro w8 hB a3;have b1:=vv (q0a a2.o.low a3 a2.o.low.size lr);have c9:Hid (Rd w8 A m c (toL x.mant)):=vv ((show Rd _ A m c (toL x.mant) from a4.o.1 ▸ c7.o).only a3 (fun a e=>by have:=c8.o a e;omega));have HK:=vv hB;clear hB a3;go_wp2;obtain⟨k0,k1,k2,k3,k4,k5,k6,k7,k8⟩:=HK.o.num;refine bodyPost_ret (v:=.tuple #[Scn.numV x A m c,.nilIface]) (by simp [results,Tryz.results41,go_sem,k0,k1,k2,k3,k4,k5,k6,k7,k8,Scn.numV]) rfl (.inl ⟨HX.o.1,A,m,c,?_,?_,b1.o⟩)
  ·rw[<- HX.o.2]
  ·rw[<- HX.o.2];exact c9.o
 ·have a9:=vv (HC.o.step hB);obtain⟨cd,b2⟩:∃cd:Int,cd=((r.2.1:Nat):Int):=⟨_,rfl⟩;obtain⟨ps,b3⟩:∃ps:Int,ps=((r.2.2:Nat):Int):=⟨_,rfl⟩;rw[<- b2,<- b3] at hQ;have HX:=vv (And.intro hz (And.intro b2 b3));have b9:=hQ.lt;rw[show Scn.numV Num.none_ none 0 0=.agg #[.int .u8 0,.bool false,.bool false,.string ⟨#[]⟩,.int .i64 0,.bool false,.slice none 0 0,.int .i64 0,.int .u64 0] from rfl];obtain⟨g4,a1⟩:=yx (w1.heap.size);obtain⟨w2,a0⟩:=yx ((w1.alloc (.cells #[.int .u8 0,.bool false,.bool false,.string ⟨#[]⟩,.int .i64 0,.bool false,.slice none 0 0,.int .i64 0,.int .u64 0] 33)).alloc (.cells #[.pointer none] 131));have c0:Ctx w [(g4+1,131,[.pointer none]),(g4,33,q1y),(w.heap.size,33,q1y)] w2:=by
   rw[a0,a1];exact(a9.o.new 33 q1y rfl).new 131 [.pointer none] (by simp)
  have c1:Blk w2 g 176 [.int .i64 cd,.int .i64 ps]:=by rw[a0];exact(hQ.alloc _).alloc _
  have a2:=vv c0;have d0:=vv c1;have HG:Hid (w.heap.size<g/\g<g4):=vv ⟨by have:=HC.o.get 0 rfl |>.lt;omega,by rw[a1];exact b9⟩;have a4:=vv (And.intro a0 a1);clear hz b2 b3 hQ hB b9 c6 c0 c1 a0 a1;go_wp2_with fail
  rw[<- a4.o.1,<- a4.o.2];refine(as_refused ⟨g,0,none⟩ (g4+1) _ w2 (HT.o.below a2.o.low) (a2.o.get 0 rfl)).mono ?_;rintro e w3 ⟨rfl,c2,b4⟩;have d1:g≠g4+1:=by have:=HG.o;omega
  have a6:=vv (d0.o.grown b4 (fun e=>by injection e;omega));have b5:Hid (Ctx w [(g4+1,131,[.pointer (some ⟨g,0,none⟩)]),(g4,33,q1y),(w.heap.size,33,q1y)] w3):=vv (a2.o.put 0 rfl (by
   intro j y hj hy;have:=HG.o
   match j,hj,hy with
   | 1,_,hy=>cases hy;show g4≠g4+1;omega
   | 2,_,hy=>cases hy;show w.heap.size≠g4+1;omega) (by have:=HG.o;omega) c2 b4)
  clear c2 b4 d1;have t0:=(b5.o.get 0 rfl).cell 0;have tl:=(b5.o.get 0 rfl).lt;have q0:=a6.o.cell 0;have q1:=a6.o.cell 1;have ql:=a6.o.lt;simp only[List.getElem?_cons_zero,List.getElem?_cons_succ] at t0 q0 q1;go_wp2_with fail
  refine q01 (fun w'=>w'.cell? ⟨g4+1,0,none⟩=some (.pointer (some ⟨g,0,none⟩))/\w'.cell? ⟨g,0,none⟩=some (.int .i64 cd)/\w'.cell? ⟨g,1,none⟩=some (.int .i64 ps)) 10
   (.still 0 (.still 1 (.still 2 (.still 3 (.still 4 (.still 5 (.still 6 (.still 7 (.still 8 (.one 9 .done)))))))))) (by kernel_rfl) (by kernel_rfl) (fun _ _ d _ _ h=>by cases d<;>exact h) ⟨t0,q0,q1⟩ (fun hS0=>?_)
  iterate 9
   refine q00 (v:=?_) rfl (by rfl) ?_ ?_;rotate_left
   ·intro w d4;go_simp;with_reducible rfl
   simp only[Act.put,sa,sb,sc]
  have b6:=vv b5.o.drew;have c3:=vv (a6.o.below (q04 (Below.refl _ _)));obtain⟨wd,c4⟩:=yx (w3.drew);rw[<- c4] at hS0 b6 c3 ⊢;clear c4 t0 tl q0 q1 ql;refine q06 rfl (by rfl) (fun K hK=>?_);go_simp;refine(no_ cd ps _).mono ?_;rintro e w5 ⟨v,rfl,hE,hB⟩;have a7:=vv (b6.o.step hB);have c5:=vv (c3.o.below hB);have d2:=vv hE;have HL:Hid (w.heap.size<wd.heap.size):=vv (b6.o.get 2 rfl).lt;have b0:=vv (a7.o.get 2 rfl);clear hB hE;go_wp2_with fail
  refine hK.out _ _ ⟨(a7.o.get 0 rfl).cell 0,c5.o.cell 0,c5.o.cell 1⟩ (fun a5=>?_);clear hK;refine q0d ?_;clear a5 hS0;simp only[List.drop_succ_cons,List.drop_zero];go_wp2_with (with_reducible refine q08 rfl 33 (.tmp 2) (.tmp 21) rfl w.heap.size [.int .u8 0,.bool false,.bool false,.string ⟨#[]⟩,.int .i64 0,.bool false,.slice none 0 0,.int .i64 0,.int .u64 0] rfl rfl 33 q1y b0.o (by kernel_rfl) rfl rfl ?_)
  intro w8 hB a3;have b1:=vv (q0a a7.o.low a3 a7.o.low.size lr);have d3:Hid (q5i w.heap.size w8 v cd ps):=vv ((d2.o.grown a3 HL.o).mono (Nat.le_of_lt HL.o));have HK:=vv hB;clear hB a3;go_wp2;obtain⟨k0,k1,k2,k3,k4,k5,k6,k7,k8⟩:=HK.o.num;refine bodyPost_ret (v:=.tuple #[Scn.numV Num.none_ none 0 0,v]) (by simp [results,Tryz.results41,go_sem,k0,k1,k2,k3,k4,k5,k6,k7,k8,Scn.numV,Num.none_]) rfl (.inr ⟨HX.o.1,v,rfl,?_,b1.o⟩);rw[<- HX.o.2.1,<- HX.o.2.2];exact d3.o
def q2E(E F:Int)(x:Num)(mode:Nat):Nat × Nat × Nat:=q23 E F x.kind x.neg x.dneg ⟨x.digits.toArray⟩ x.exp x.hneg (toL x.mant).length (toL x.mant) x.hexp x.payload mode
def q0C(E F:Int)(s:ByteArray)(mode:Nat):Nat × Nat × Int × Int:=
 if R3.formOk E F=false then(0,0,5,0) else
 if 4<mode then(0,0,7,0) else
 if(q3z s).2.1≠0 then(0,0,(((q3z s).2.1:Nat):Int),(((q3z s).2.2:Nat):Int)) else
 ((q2E E F (q3z s).1 mode).1,(q2E E F (q3z s).1 mode).2.1,(((q2E E F (q3z s).1 mode).2.2:Nat):Int),0)
def qal(o:Nat × Nat × Int × Int)(w:World)(e:Ending)(w':World):Prop:=
 ∃v,e=.returned (.tuple #[.int .u64 (o.1:Int),.int .u8 (o.2.1:Int),v])/\q5i w.heap.size w' v o.2.2.1 o.2.2.2/\Below w.heap.size w w'
theorem q5i.some{n0:Nat}{w:World}{v:Value}{c a:Int}(h:q5i n0 w v c a)(hc:c≠0):∃x,v=.iface 130 x:=by
 rcases h with h|⟨h,gw,gf,e,-⟩
 ·exact absurd h.1 hc
 ·exact⟨_,e⟩
theorem q7I(E F:Int)(s:ByteArray)(mode:Nat)(w:World)(hf:R3.formOk E F=false):Calls Tryz.prog 15 #[fm E F,.string s,.int .u8 (mode:Int)] w (qal (0,0,5,0) w):=by
 have a1:=vv fun w=>Fms.Check E F w
 rw[R3.chk_no hf] at a1;obtain⟨w0,a0⟩:=yx (w.alloc (.cells #[.int .i64 E,.int .i64 F] 23));have hC:Ctx w [(w.heap.size,23,[.int .i64 E,.int .i64 F])] w0:=by rw[a0];exact(Ctx.nil w).new _ _ rfl
 have HC:=vv hC;have HW:=vv a0;clear hC a0 hf;go_enter Tryz.func15,Tryz.ntmps15
 go_wp2_with fail
 rw[<- HW.o];go_wp2_with fail
 refine(a1.o _).mono ?_;rintro e w1 ⟨rfl,hB⟩;have a2:=vv (HC.o.step hB);clear hB;go_wp2_with fail
 refine(no_ 5 0 _).mono ?_;rintro e w2 ⟨v,rfl,hE,hB⟩;have a3:=vv (a2.o.step hB);have HE:=vv (hE.mono (Nat.le_trans a2.o.low.size lr));clear hB hE;go_wp2;go_ret3
 exact⟨v,rfl,HE.o,a3.o.low⟩
theorem q7H(E F:Int)(s:ByteArray)(mode:Nat)(w:World)(hf:R3.formOk E F=true)(hm:4<mode):Calls Tryz.prog 15 #[fm E F,.string s,.int .u8 (mode:Int)] w (qal (0,0,7,0) w):=by
 have a1:=vv fun w=>Fms.Check E F w
 rw[R3.chk_ok hf] at a1;obtain⟨w0,a0⟩:=yx (w.alloc (.cells #[.int .i64 E,.int .i64 F] 23));have hC:Ctx w [(w.heap.size,23,[.int .i64 E,.int .i64 F])] w0:=by rw[a0];exact(Ctx.nil w).new _ _ rfl
 have HC:=vv hC;have HW:=vv a0;have a4:(4:Int)<(mode:Int):=by omega
 clear hC a0 hf hm;go_enter Tryz.func15,Tryz.ntmps15
 go_wp2_with fail
 rw[<- HW.o];go_wp2_with fail
 refine(a1.o _).mono ?_;rintro e w1 ⟨rfl,hB⟩;have a2:=vv (HC.o.step hB);clear hB;go_wp2_with fail
 refine(no_ 7 0 _).mono ?_;rintro e w2 ⟨v,rfl,hE,hB⟩;have a3:=vv (a2.o.step hB);have HE:=vv (hE.mono (Nat.le_trans a2.o.low.size lr));clear hB hE;go_wp2;go_ret3
 exact⟨v,rfl,HE.o,a3.o.low⟩
theorem qcp(E F:Int)(s:ByteArray)(mode:Nat)(w:World)(hg:Bg w)(ht:EType w):Calls Tryz.prog 15 #[fm E F,.string s,.int .u8 (mode:Int)] w (qal (q0C E F s mode) w):=by
 unfold q0C;by_cases hf:R3.formOk E F=false
 ·rw[if_pos hf];exact q7I E F s mode w hf
 rw[if_neg hf];have a5:R3.formOk E F=true:=by simpa using hf
 by_cases hm:4<mode
 ·rw[if_pos hm];exact q7H E F s mode w a5 hm
 rw[if_neg hm];have a9:=vv fun w=>Fms.Check E F w
 rw[R3.chk_ok a5] at a9;have a0:=q84 s;obtain⟨w0,a6⟩:=yx (w.alloc (.cells #[.int .i64 E,.int .i64 F] 23));have hC:Ctx w [(w.heap.size,23,[.int .i64 E,.int .i64 F])] w0:=by rw[a6];exact(Ctx.nil w).new _ _ rfl
 have b0:=vv fun w' (h:Below w.heap.size w w')=>qc6 s w' (hg.below h) (ht.below h)
 have b6:=vv fun(x:Num) A n c w' (h:Below w.heap.size w w') (hr:Rd w' A n c (toL x.mant)) (hx:x.digits.length<=131074) =>
  Rea.Number E F x.kind x.neg x.dneg ⟨x.digits.toArray⟩ x.exp x.hneg A n c (toL x.mant) x.hexp x.payload mode w' hr (by show((x.digits.toArray.size:Nat):Int)<=_;rw[List.size_toArray];omega) (hg.below h).std
 obtain⟨r,hr⟩:=yx (q3z s);rw[<- hr] at b0 a0 ⊢;obtain⟨O,hO⟩:∃O:Nat × Nat × Int × Int,O=if r.2.1≠0 then(0,0,((r.2.1:Nat):Int),((r.2.2:Nat):Int)) else((q2E E F r.1 mode).1,(q2E E F r.1 mode).2.1,(((q2E E F r.1 mode).2.2:Nat):Int),0):=⟨_,rfl⟩;rw[<- hO];have HO:=vv hO;clear hO;have HC:=vv hC;have HW:=vv a6;have a7:=vv a0;have c3:(mode:Int)<=4:=by omega
 clear hC a6 hf a5 hm hg ht hr a0;go_enter Tryz.func15,Tryz.ntmps15
 go_wp2_with fail
 rw[<- HW.o];go_wp2_with fail
 refine(a9.o _).mono ?_;rintro e w1 ⟨rfl,hB⟩;have a2:=vv (HC.o.step hB);clear hB;go_wp2_with fail
 refine(b0.o _ a2.o.low).mono ?_;rintro e w2 (⟨hz,A,m,c,rfl,hA,hB⟩|⟨hz,v,rfl,hE,hB⟩)
 ·have a1:=vv (a2.o.step hB);obtain⟨x,hx⟩:=yx (r.1);rw[<- hx] at hA ⊢;have hO:=HO.o;rw[if_neg (by rw[hz];exact fun h=>h rfl),<- hx] at hO;have b1:Hid (∀w',Below w.heap.size w w'->Rd w' A m c (toL x.mant)->Calls Tryz.prog 6 #[fm E F,.agg #[.int .u8 (x.kind:Int),.bool x.neg,.bool x.dneg,.string ⟨x.digits.toArray⟩,.int .i64 x.exp,.bool x.hneg,.slice A m c,.int .i64 x.hexp,.int .u64 (x.payload:Int)],.int .u8 (mode:Int)] w' (q49 (q23 E F x.kind x.neg x.dneg ⟨x.digits.toArray⟩ x.exp x.hneg m (toL x.mant) x.hexp x.payload mode) w')):=vv fun w' h hr=>b6.o x A m c w' h hr (by rw[hx];exact a7.o)
  rw[show Scn.numV x A m c=.agg #[.int .u8 (x.kind:Int),.bool x.neg,.bool x.dneg,.string ⟨x.digits.toArray⟩,.int .i64 x.exp,.bool x.hneg,.slice A m c,.int .i64 x.hexp,.int .u64 (x.payload:Int)] from rfl];have b2:m=(toL x.mant).length:=hA.len.symm;obtain⟨o,ho⟩:=yx (q2E E F x mode);rw[<- ho] at hO;subst hO;have b3:q23 E F x.kind x.neg x.dneg ⟨x.digits.toArray⟩ x.exp x.hneg m (toL x.mant) x.hexp x.payload mode=o:=by rw[ho,b2];rfl
  rw[b3] at b1;obtain⟨g4,a8⟩:=yx (w2.heap.size);obtain⟨w3,a3⟩:=yx (w2.alloc (.cells #[.int .u8 (x.kind:Int),.bool x.neg,.bool x.dneg,.string ⟨x.digits.toArray⟩,.int .i64 x.exp,.bool x.hneg,.slice A m c,.int .i64 x.hexp,.int .u64 (x.payload:Int)] 33));have b4:Below w2.heap.size w2 w3:=by rw[a3];exact(Below.refl _ _).alloc lr _
  have a4:Hid (Ctx w [(g4,33,[.int .u8 (x.kind:Int),.bool x.neg,.bool x.dneg,.string ⟨x.digits.toArray⟩,.int .i64 x.exp,.bool x.hneg,.slice A m c,.int .i64 x.hexp,.int .u64 (x.payload:Int)]),(w.heap.size,23,[.int .i64 E,.int .i64 F])] w3):=vv (by rw[a3];exact a1.o.new _ _ a8);have b7:=vv (hA.below b4 rfl);have b8:=vv (And.intro a3 a8);clear hz hx hA hB b4 a3 a8 b2 ho b3;have c0:=(a1.o.get 0 rfl).cell 0;have c1:=(a1.o.get 0 rfl).cell 1;have cl:=(a1.o.get 0 rfl).lt;simp only[List.getElem?_cons_zero,List.getElem?_cons_succ] at c0 c1;go_wp2_with fail
  rw[<- b8.o.1];refine(b1.o _ a4.o.low b7.o).mono ?_;rintro e w4 ⟨rfl,hB⟩;have b5:=vv (a4.o.step hB);clear hB c0 c1 cl;go_wp2_with fail
  refine(no_ _ 0 _).mono ?_;rintro e w5 ⟨v,rfl,hE,hB⟩;have b9:=vv (b5.o.step hB);have HE:=vv (hE.mono (Nat.le_trans b5.o.low.size lr));clear hB hE;go_wp2;go_ret3
  exact⟨v,rfl,HE.o,b9.o.low⟩
 ·have a1:=vv (a2.o.step hB);have hO:=HO.o;rw[if_pos hz] at hO;subst hO;obtain⟨y,hy⟩:=hE.some (by omega);rw[show Scn.numV Num.none_ none 0 0=.agg #[.int .u8 0,.bool false,.bool false,.string ⟨#[]⟩,.int .i64 0,.bool false,.slice none 0 0,.int .i64 0,.int .u64 0] from rfl];have HE:=vv (hE.mono (Nat.le_trans a2.o.low.size lr));subst hy;have a4:=vv (a1.o.low.alloc a1.o.low.size (.cells #[.int .u8 0,.bool false,.bool false,.string ⟨#[]⟩,.int .i64 0,.bool false,.slice none 0 0,.int .i64 0,.int .u64 0] 33));have c2:=vv (HE.o.below ((Below.refl w2.heap.size w2).alloc (o:=.cells #[.int .u8 0,.bool false,.bool false,.string ⟨#[]⟩,.int .i64 0,.bool false,.slice none 0 0,.int .i64 0,.int .u64 0] 33) lr));clear hz hE hB;go_wp2;go_ret3
  exact⟨_,rfl,c2.o,a4.o⟩
end Go.Proofs.YtcdimmblnbkjjaaGreatDoor.Rdx
namespace Go.Proofs.YtcdimmblnbkjjaaGreatDoor.Str
open Go Go.RowKit R5 Scn Hx Rdx
abbrev q5W:ByteArray:=⟨#[43,45,46,95,40,41]⟩
def q1K(c:Nat):Bool:=(decide (97<=c) && decide (c<=122)) || (decide (65<=c) && decide (c<=90)) || (decide (48<=c) && decide (c<=57)) || decide (127<c) || decide (0<=Lib.indexByte q5W.data.toList c.toUInt8)
theorem q88(c:Nat)(w:World)(hh:(48<=c/\c<=57)\/(65<=c/\c<=90)\/(97<=c/\c<=122)\/(127<c)):
  Calls Tryz.prog 80 #[.int .u8 (c:Int)] w fun e w'=>e=.returned (.bool true)/\w=w':=by
 rcases hh with h|h|h|h;all_goals
  first
   | have t1:(97:Int)<=(c:Int):=by omega
   | have t1:¬(97:Int)<=(c:Int):=by omega
  first
   | have t2:(c:Int)<=122:=by omega
   | have t2:¬(c:Int)<=122:=by omega
  first
   | have t3:(65:Int)<=(c:Int):=by omega
   | have t3:¬(65:Int)<=(c:Int):=by omega
  first
   | have t4:(c:Int)<=90:=by omega
   | have t4:¬(c:Int)<=90:=by omega
  first
   | have t5:(48:Int)<=(c:Int):=by omega
   | have t5:¬(48:Int)<=(c:Int):=by omega
  first
   | have t6:(c:Int)<=57:=by omega
   | have t6:¬(c:Int)<=57:=by omega
  first
   | have t7:(127:Int)<(c:Int):=by omega
   | have t7:¬(127:Int)<(c:Int):=by omega
  clear h;go_enter Tryz.func80,Tryz.ntmps80
  go_wp2;go_ret
  exact⟨rfl,rfl⟩
theorem q9D(c:Nat)(w:World)(hh:(c<=47)\/(58<=c/\c<=64)\/(91<=c/\c<=96)\/(123<=c/\c<=127)):
  Calls Tryz.prog 80 #[.int .u8 (c:Int)] w fun e w'=>e=.returned (.bool (decide (0<=Lib.indexByte q5W.data.toList c.toUInt8)))/\w=w':=by
 have hI:=Tryz.strings_IndexByte q5W (c:Int) w;rw[Int.toNat_natCast] at hI;obtain⟨k,hk⟩:=yx (Lib.indexByte q5W.data.toList c.toUInt8);rw[<- hk] at hI;have HI:=vv hI;rw[<- hk];clear hk hI;rcases hh with h|h|h|h;all_goals
  first
   | have t1:(97:Int)<=(c:Int):=by omega
   | have t1:¬(97:Int)<=(c:Int):=by omega
  first
   | have t2:(c:Int)<=122:=by omega
   | have t2:¬(c:Int)<=122:=by omega
  first
   | have t3:(65:Int)<=(c:Int):=by omega
   | have t3:¬(65:Int)<=(c:Int):=by omega
  first
   | have t4:(c:Int)<=90:=by omega
   | have t4:¬(c:Int)<=90:=by omega
  first
   | have t5:(48:Int)<=(c:Int):=by omega
   | have t5:¬(48:Int)<=(c:Int):=by omega
  first
   | have t6:(c:Int)<=57:=by omega
   | have t6:¬(c:Int)<=57:=by omega
  first
   | have t7:(127:Int)<(c:Int):=by omega
   | have t7:¬(127:Int)<(c:Int):=by omega
  clear h;go_enter Tryz.func80,Tryz.ntmps80
  go_wp2_with fail
  refine HI.o.mono ?_;rintro e w' ⟨rfl,rfl⟩;go_wp2;go_ret
  exact⟨rfl,rfl⟩
theorem qcb(c:Nat)(w:World)(hc:c<256):
  Calls Tryz.prog 80 #[.int .u8 (c:Int)] w fun e w'=>e=.returned (.bool (q1K c))/\w=w':=by
 by_cases hh:(48<=c/\c<=57)\/(65<=c/\c<=90)\/(97<=c/\c<=122)\/(127<c)
 ·have e:q1K c=true:=by
   unfold q1K;simp only[Bool.or_eq_true,Bool.and_eq_true,decide_eq_true_eq];omega
  rw[e];exact q88 c w hh
 ·have e:q1K c=decide (0<=Lib.indexByte q5W.data.toList c.toUInt8):=by
   have a1:(decide (97<=c) && decide (c<=122))=false:=by rw[Bool.and_eq_false_iff,decide_eq_false_iff_not,decide_eq_false_iff_not];omega
   have a2:(decide (65<=c) && decide (c<=90))=false:=by rw[Bool.and_eq_false_iff,decide_eq_false_iff_not,decide_eq_false_iff_not];omega
   have a3:(decide (48<=c) && decide (c<=57))=false:=by rw[Bool.and_eq_false_iff,decide_eq_false_iff_not,decide_eq_false_iff_not];omega
   have a4:decide (127<c)=false:=decide_eq_false (by omega);unfold q1K;rw[a1,a2,a3,a4]
   rfl
  rw[e];exact q9D c w (by omega)
def q4Y(s:ByteArray):Bool:=decide (s.size<=16) && s.data.toList.all (fun b=>!q1K b.toNat)
theorem q6Z{s:ByteArray}(h:∀j (hj:j<s.size),q1K s[j].toNat=false):q4Y s=decide (s.size<=16):=by
 have e:s.data.toList.all (fun b=>!q1K b.toNat)=true:=by
  rw[List.all_eq_true];intro b hb;obtain⟨j,hj,rfl⟩:=List.getElem_of_mem hb;have:=h j (by simpa using hj);have e2:s.data.toList[j]=s[j]'(by simpa using hj):=rfl;rw[e2,this]
  rfl
 unfold q4Y;rw[e,Bool.and_true]
theorem q6Y{s:ByteArray}{k:Nat}(hk:k<s.size)(e:q1K s[k].toNat=true):q4Y s=false:=by
 have e2:s.data.toList.all (fun b=>!q1K b.toNat)=false:=by
  rw[List.all_eq_false];exact⟨s[k],List.getElem_mem (by simpa using hk),by rw[e];decide⟩
 unfold q4Y;rw[e2,Bool.and_false]
theorem may(s:ByteArray)(w:World)(hsz:s.size<=140737488351232):
  Calls Tryz.prog 39 #[.string s] w fun e w'=>e=.returned (.bool (q4Y s))/\w=w':=by
 have a3:(s.size:Int)<=140737488351232:=by omega
 clear hsz;go_enter Tryz.func39,Tryz.ntmps39
 go_wp2;go_loop [6] (fun t=>∃k:Nat,k<=s.size/\t=.int .i64 k/\(∀j (h:j<s.size),j<k->q1K s[j].toNat=false)) (fun t=>s.size-(intOf t).toNat)
 case atStart=>exact⟨0,Nat.zero_le _,rfl,fun j _ h=>absurd h (by omega)⟩
 case round =>
  obtain⟨k,hk,rfl,a0⟩:=hrel;have HA:=vv a0;clear a0;by_cases hks:k<s.size
  ·have HP:=vv (qcb s[k].toNat w (UInt8.toNat_lt _));cases hb:q1K s[k].toNat with
   | false =>
    rw[hb] at HP;have HD:=vv hb;clear hb;go_wp2_with fail
    refine HP.o.mono ?_;rintro e w' ⟨rfl,rfl⟩;go_wp2;go_round
    case rel =>
     refine⟨k+1,by omega,by go_num,fun j h hj=>?_⟩;rcases(by omega:j<k\/j=k) with h|rfl
     ·exact HA.o j _ h
     ·exact HD.o
    case measure=>simp [intOf];omega
   | true =>
    rw[hb] at HP;have HF:=vv (q6Y hks hb);clear hb;go_wp2_with fail
    refine HP.o.mono ?_;rintro e w' ⟨rfl,rfl⟩;go_wp2;go_ret
    exact⟨q3y HF.o.symm,rfl⟩
  ·have a1:k=s.size:=by omega
   subst a1;have HT:Hid (q4Y s=decide (s.size<=16)):=vv (q6Z (fun j h=>HA.o j h h));clear hk hks;by_cases h16:s.size<=16
   ·have a2:(s.size:Int)<=16:=by omega
    rw[decide_eq_true h16] at HT;clear h16;go_wp2;go_ret
    exact⟨q3y HT.o.symm,rfl⟩
   ·have a2:¬(s.size:Int)<=16:=by omega
    rw[decide_eq_false h16] at HT;clear h16;go_wp2;go_ret
    exact⟨q3y HT.o.symm,rfl⟩
abbrev q1R:ByteArray:=⟨#[32,9,10,13]⟩
def q3A(E F:Int)(mode:Nat)(seps:ByteArray)(at_:Nat)(tok:Option Addr)(ended made:Bool):List Value:=
 [.int .i64 E,.int .i64 F,.int .u8 (mode:Int),.string seps,.int .i64 (at_:Int),.pointer tok,.bool ended,.bool made]
def q16(E F:Int)(mode:Nat)(sep:ByteArray):Nat:=if R3.formOk E F=false then 5 else if 4<mode then 7 else if q4Y sep=false then 2 else 0
def qcn(E F:Int)(mode:Nat)(sep:ByteArray)(w:World)(e:Ending)(w':World):Prop:=
 Below w.heap.size w w'/\((q16 E F mode sep≠0/\e=.returned (.tuple #[.pointer none,.int .i64 (q16 E F mode sep:Int)])) \/
  (q16 E F mode sep=0/\∃g,e=.returned (.tuple #[.pointer (some ⟨g,0,none⟩),.int .i64 0])/\w.heap.size<=g/\Blk w' g 80 (q3A E F mode (q1R++sep) 0 none false true)))
theorem New(E F:Int)(mode:Nat)(sep:ByteArray)(w:World)(hsz:sep.size<=140737488351232):Calls Tryz.prog 12 #[fm E F,.int .u8 (mode:Int),.string sep] w (qcn E F mode sep w):=by
 have a1:=vv fun w=>Fms.Check E F w
 have HM:=vv fun w=>may sep w hsz
 obtain⟨w0,a2⟩:=yx (w.alloc (.cells #[.int .i64 E,.int .i64 F] 23));have hC:Ctx w [(w.heap.size,23,[.int .i64 E,.int .i64 F])] w0:=by rw[a2];exact(Ctx.nil w).new _ _ rfl
 have HC:=vv hC;have HW:=vv a2;clear hC a2 hsz;by_cases hf:R3.formOk E F=false
 ·have HP:Hid (q16 E F mode sep=5):=vv (by unfold q16;rw[if_pos hf]);rw[R3.chk_no hf] at a1;clear hf;go_enter Tryz.func12,Tryz.ntmps12
  go_wp2_with fail
  rw[<- HW.o];go_wp2_with fail
  refine(a1.o _).mono ?_;rintro e w1 ⟨rfl,hB⟩;have a0:=vv (HC.o.step hB);clear hB;go_wp2;go_ret2
  exact⟨a0.o.low,.inl ⟨by rw[HP.o];decide,by rw[HP.o];rfl⟩⟩
 rw[R3.chk_ok (by simpa using hf)] at a1;by_cases hm:4<mode
 ·have HP:Hid (q16 E F mode sep=7):=vv (by unfold q16;rw[if_neg hf,if_pos hm]);have a4:(4:Int)<(mode:Int):=by omega
  clear hf hm;go_enter Tryz.func12,Tryz.ntmps12
  go_wp2_with fail
  rw[<- HW.o];go_wp2_with fail
  refine(a1.o _).mono ?_;rintro e w1 ⟨rfl,hB⟩;have a0:=vv (HC.o.step hB);clear hB;go_wp2;go_ret2
  exact⟨a0.o.low,.inl ⟨by rw[HP.o];decide,by rw[HP.o];rfl⟩⟩
 have a4:(mode:Int)<=4:=by omega
 cases hy:q4Y sep with
 | false =>
  have HP:Hid (q16 E F mode sep=2):=vv (by unfold q16;rw[if_neg hf,if_neg hm,if_pos hy]);rw[hy] at HM;clear hf hm hy;go_enter Tryz.func12,Tryz.ntmps12
  go_wp2_with fail
  rw[<- HW.o];go_wp2_with fail
  refine(a1.o _).mono ?_;rintro e w1 ⟨rfl,hB⟩;have a0:=vv (HC.o.step hB);clear hB;go_wp2_with fail
  refine(HM.o _).mono ?_;rintro e w2 ⟨rfl,rfl⟩;go_wp2;go_ret2
  exact⟨a0.o.low,.inl ⟨by rw[HP.o];decide,by rw[HP.o];rfl⟩⟩
 | true =>
  have HP:Hid (q16 E F mode sep=0):=vv (by unfold q16;rw[if_neg hf,if_neg hm,if_neg (by rw[hy];decide)]);rw[hy] at HM;have a6:sep.size<=16:=by
   unfold q4Y at hy;rw[Bool.and_eq_true,decide_eq_true_eq] at hy;exact hy.1
  have a5:(sep.size:Int)<=16:=by omega
  clear hf hm hy;go_enter Tryz.func12,Tryz.ntmps12
  go_wp2_with fail
  rw[<- HW.o];go_wp2_with fail
  refine(a1.o _).mono ?_;rintro e w1 ⟨rfl,hB⟩;have a0:=vv (HC.o.step hB);clear hB;have c0:=(a0.o.get 0 rfl).cell 0;have c1:=(a0.o.get 0 rfl).cell 1;have cl:=(a0.o.get 0 rfl).lt;simp only[List.getElem?_cons_zero,List.getElem?_cons_succ] at c0 c1;have a3:=vv (a0.o.new 80 (q3A E F mode (q1R++sep) 0 none false true) rfl);go_wp2_with fail
  refine(HM.o _).mono ?_;rintro e w2 ⟨rfl,rfl⟩;go_wp2;go_ret2
  exact⟨a3.o.low,.inr ⟨HP.o,_,rfl,a0.o.low.size,a3.o.get 0 rfl⟩⟩
structure RdrC(w:World)(g:Nat)(E F:Int)(mode:Nat)(seps:ByteArray)(at_:Nat)(tok:Option Addr)(ended made:Bool):Prop where
 c0:w.cell? ⟨g,0,none⟩=some (.int .i64 E)
 c1:w.cell? ⟨g,1,none⟩=some (.int .i64 F)
 c2:w.cell? ⟨g,2,none⟩=some (.int .u8 (mode:Int))
 c3:w.cell? ⟨g,3,none⟩=some (.string seps)
 c4:w.cell? ⟨g,4,none⟩=some (.int .i64 (at_:Int))
 c5:w.cell? ⟨g,5,none⟩=some (.pointer tok)
 c6:w.cell? ⟨g,6,none⟩=some (.bool ended)
 c7:w.cell? ⟨g,7,none⟩=some (.bool made)
theorem q4a{w:World}{g:Nat}{E F:Int}{mode:Nat}{seps:ByteArray}{at_:Nat}{tok:Option Addr}{ended made:Bool}
  (h:Blk w g 80 (q3A E F mode seps at_ tok ended made)):RdrC w g E F mode seps at_ tok ended made:=
 ⟨h.cell 0,h.cell 1,h.cell 2,h.cell 3,h.cell 4,h.cell 5,h.cell 6,h.cell 7⟩
def q7C(w:World)(lo:Nat)(T:Option Addr):Option (List Nat × Nat)->Prop
 | none=>T=none
 | some (L,first)=>∃b v,T=some ⟨b,0,none⟩/\lo<=b/\Blk w b 87 [v,.int .i64 (first:Int)]/\w.ownsRow lo 5 1 v L.length (u8s L)/\0<L.length/\∀x∈L,x<256
def qb2:Option (List Nat × Nat)->Nat
 | none=>0
 | some (L,_)=>L.length
theorem q35{w:World}{base:Nat}{v:Value}{n:Nat}{L:List Nat}(h:w.ownsRow base 5 1 v n (u8s L)):∀W:World,(Builtin.len_ #[85] 3 #[v]).run Tryz.prog W=.ok (.int .i64 (n:Int)) W:=by
 obtain⟨A,c,rfl⟩:=q18 h;intro W;simp [Builtin.len_,go_sem,Tryz.underlying85]
theorem q9s(g:Nat)(E F:Int)(mode:Nat)(seps:ByteArray)(at_:Nat)(tok:Option Addr)(ended:Bool)(w:World)
  (h:Blk w g 80 (q3A E F mode seps at_ tok ended true)) :
  Calls Tryz.prog 43 #[.pointer (some ⟨g,0,none⟩)] w fun e w'=>e=.returned (.int .i64 (if ended then 240 else 0))/\w=w':=by
 have hl:=h.lt;obtain⟨c0,c1,c2,c3,c4,c5,c6,c7⟩:=q4a h;clear h c0 c1 c2 c3 c4 c5;cases ended with
 | false =>
  go_enter Tryz.func43,Tryz.ntmps43
  go_wp2;go_ret
  exact⟨rfl,rfl⟩
 | true =>
  go_enter Tryz.func43,Tryz.ntmps43
  go_wp2;go_ret
  exact⟨rfl,rfl⟩
theorem At(g:Nat)(E F:Int)(mode:Nat)(seps:ByteArray)(at_:Nat)(tok:Option Addr)(ended:Bool)(w:World)
  (h:Blk w g 80 (q3A E F mode seps at_ tok ended true)) :
  Calls Tryz.prog 21 #[.pointer (some ⟨g,0,none⟩)] w fun e w'=>e=.returned (.int .i64 (at_:Int))/\w=w':=by
 have hl:=h.lt;obtain⟨c0,c1,c2,c3,c4,c5,c6,c7⟩:=q4a h;clear h c0 c1 c2 c3 c5 c6 c7;go_enter Tryz.func21,Tryz.ntmps21
 go_wp2;go_ret
 exact⟨rfl,rfl⟩
theorem qc2(g lo:Nat)(E F:Int)(mode:Nat)(seps:ByteArray)(at_:Nat)(tok:Option Addr)(ended:Bool)(tk:Option (List Nat × Nat))(w:World)
  (h:Blk w g 80 (q3A E F mode seps at_ tok ended true)) (ht:q7C w lo tok tk) :
  Calls Tryz.prog 22 #[.pointer (some ⟨g,0,none⟩)] w fun e w'=>e=.returned (.int .i64 (qb2 tk:Int))/\w=w':=by
 have hl:=h.lt;obtain⟨c0,c1,c2,c3,c4,c5,c6,c7⟩:=q4a h;clear h c0 c1 c2 c3 c4 c6 c7;cases tk with
 | none =>
  subst ht;go_enter Tryz.func22,Tryz.ntmps22
  go_wp2;go_ret
  exact⟨rfl,rfl⟩
 | some x =>
  obtain⟨L,first⟩:=x;obtain⟨b,v,rfl,a0,hb,hr,hp,-⟩:=ht;have a1:=hb.lt;have d0:=hb.cell 0;simp only[List.getElem?_cons_zero] at d0;have a2:=q35 hr;clear hb hr a0 hp;go_enter Tryz.func22,Tryz.ntmps22
  go_wp2;go_ret
  exact⟨rfl,rfl⟩
theorem q3O{w:World}{g b:Nat}{s t:TypeId}{l m:List Value}(h:Blk w g s l)(k:Blk w b t m)(hst:s≠t):g≠b:=by
 rintro rfl;have e:=h.symm.trans k
 injection e with e
 injection e with _ e
 exact hst e
theorem q34{w:World}{g lo n:Nat}{s e:TypeId}{l xs:List Value}{v:Value}(h:Blk w g s l)(k:w.ownsRow lo e 1 v n xs)(hst:s≠e):v.ownBlock≠some g:=by
 rcases k.2 with ⟨rfl,-⟩|⟨g',cap,cur,rfl,-,hg,-⟩
 ·simp [Value.ownBlock]
 ·simp only[Value.ownBlock];rintro e
  injection e with e
  subst e;have e:=h.symm.trans hg
  injection e with e
  injection e with _ e
  exact hst e
def q1e(E F:Int)(mode:Nat)(L:List Nat)(first:Nat):List Value:=
 if(q0C E F (txt L) mode).2.2.1=0 then[.int .u64 ((q0C E F (txt L) mode).1:Int),.int .u8 ((q0C E F (txt L) mode).2.1:Int),.int .i64 0,.int .i64 (first:Int),.int .i64 (L.length:Int)]
 else[.int .u64 0,.int .u8 0,.int .i64 (q0C E F (txt L) mode).2.2.1,.int .i64 (first:Int),.int .i64 (L.length:Int)]
theorem qbW(w00:World)(hg0:Bg w00)(ht0:EType w00)(g b lo at_ first mode:Nat)(E F:Int)(seps:ByteArray)(ended:Bool)(L:List Nat)(v:Value)(w:World)
  (hw:Below w00.heap.size w00 w) (hge:w00.heap.size<=g)
  (h:Blk w g 80 (q3A E F mode seps at_ (some ⟨b,0,none⟩) ended true)) (hb:Blk w b 87 [v,.int .i64 (first:Int)])
  (hr:w.ownsRow lo 5 1 v L.length (u8s L)) (hL:∀x∈L,x<256) :
  Calls Tryz.prog 44 #[.pointer (some ⟨g,0,none⟩)] w fun e w'=>e=.returned (.agg (q1e E F mode L first).toArray)/\Blk w' g 80 (q3A E F mode seps at_ none ended true)/\w.grownBy w' (some g):=by
 have hl:=h.lt;have d2:g≠b:=q3O h hb (by decide);have d3:=q34 h hr (by decide);have c5:=(q4a h).c5;have f5:=h.fz 5;obtain⟨wz,b0⟩:=yx (w.setCell ⟨g,5,none⟩ (.pointer none));have hs:wz.heap.size=w.heap.size:=by rw[b0];simp
 have k5:w.grownBy wz (some g):=by rw[b0];exact q07 (World.grownBy.refl _ _) (.inl rfl) _
 have k2:Blk wz g 80 (q3A E F mode seps at_ none ended true):=by rw[b0];exact h.set 5 _
 have k3:Blk wz b 87 [v,.int .i64 (first:Int)]:=hb.grown k5 (fun e=>d2 (by injection e));have k4:wz.ownsRow lo 5 1 v L.length (u8s L):=hr.kept k5 (.inr d3);have a4:Below w00.heap.size w00 wz:=q0a hw k5 (by have:=hw.size;omega) hge;have a5:=vv fun(w':World) (hB:Below wz.heap.size wz w')=>qcp E F (txt L) mode w' (hg0.below (a4.trans (hB.mono a4.size))) (ht0.below (a4.trans (hB.mono a4.size)))
 have e9:=vv fun(w':World) (hB:Below wz.heap.size wz w')=>ht0.below (a4.trans (hB.mono a4.size))
 have a6:Hid (∀w',Below wz.heap.size wz w'->Blk w' g 80 (q3A E F mode seps at_ none ended true)/\w.grownBy w' (some g)):=vv fun w' hB =>
  ⟨k2.below hB,hB.os.trans k5.os,hB.tape.trans k5.tape,hB.output.trans k5.output,Nat.le_trans k5.size hB.size,fun k hk f2=>(hB.block k (Nat.lt_of_lt_of_le hk k5.size)).trans (k5.block k hk f2)⟩
 have c2:=vv fun(w':World) (hB:Below wz.heap.size wz w')=>q4a (k2.below hB)
 have b1:=vv fun(w':World) (hB:Below wz.heap.size wz w')=>k3.below hB
 have f3:=vv fun(w':World) (hB:Below wz.heap.size wz w')=>q1h k4 (fun q _ hq=>hB.block q hq)
 have d4:b<wz.heap.size:=k3.lt;have d5:g<wz.heap.size:=k2.lt;have f4:=q35 k4;obtain⟨w1,c3⟩:=yx (wz.alloc (.cells #[.int .u64 0,.int .u8 0,.int .i64 0,.int .i64 0,.int .i64 0] 49));have hC:Ctx wz [(w.heap.size,49,[.int .u64 0,.int .u8 0,.int .i64 0,.int .i64 0,.int .i64 0])] w1:=by rw[c3];exact(Ctx.nil wz).new _ _ hs.symm
 have d6:=vv hC;have HW:=vv (And.intro b0 c3);have HS:=vv hs;have HL:=vv (And.intro d4 d5);obtain⟨O,hO⟩:=yx (q0C E F (txt L) mode);have HI:Hid (q1e E F mode L first=if O.2.2.1=0 then[.int .u64 (O.1:Int),.int .u8 (O.2.1:Int),.int .i64 0,.int .i64 (first:Int),.int .i64 (L.length:Int)]
  else[.int .u64 0,.int .u8 0,.int .i64 O.2.2.1,.int .i64 (first:Int),.int .i64 (L.length:Int)]):=vv (by rw[hO];rfl)
 rw[<- hO] at a5;have f6:=vv hL;clear hO d4 d5 hs k2 k3 k4 k5 a4 b0 c3 hC h hb hr hg0 ht0 hw hge d2 d3 hL;go_enter Tryz.func44,Tryz.ntmps44
 go_wp2_with fail
 clear c5 f5;rw[<- HW.o.1,<- HW.o.2];have kh:=b1.o _ d6.o.low;have d0:=kh.cell 0;have d1:=kh.cell 1;have dl:=kh.lt;simp only[List.getElem?_cons_zero,List.getElem?_cons_succ] at d0 d1;clear kh;refine q01 (fun w'=>w'.cell? ⟨b,0,none⟩=some v/\w'.cell? ⟨b,1,none⟩=some (.int .i64 (first:Int))) 11
  (.still 0 (.still 1 (.still 2 (.still 3 (.still 4 (.still 5 (.still 6 (.still 7 (.still 8 (.still 9 (.one 10 .done))))))))))) (by kernel_rfl) (by kernel_rfl) (fun _ _ d _ _ h=>by cases d<;>exact h) ⟨d0,d1⟩ (fun hS0=>?_)
 iterate 10
  refine q00 (v:=?_) rfl (by rfl) ?_ ?_;rotate_left
  ·intro w d7;go_simp;with_reducible rfl
  simp only[Act.put,sa,sb,sc]
 have c4:=vv d6.o.drew;obtain⟨wd,b2⟩:=yx (w1.drew);rw[<- b2] at hS0 c4 ⊢;clear b2 d0 d1 dl f4;refine q06 rfl (by rfl) (fun K hK=>?_);go_simp;obtain⟨q,hq⟩:=yx (wd.heap.size);obtain⟨we,c6⟩:=yx (wd.alloc (.cells #[.int .u64 0,.int .u8 0,.int .i64 0,.int .i64 0,.int .i64 0] 49));have c7:Hid (Ctx wz [(q,49,[.int .u64 0,.int .u8 0,.int .i64 0,.int .i64 0,.int .i64 0]),(w.heap.size,49,[.int .u64 0,.int .u8 0,.int .i64 0,.int .i64 0,.int .i64 0])] we):=vv (by rw[c6];exact c4.o.new _ _ hq);have HQ:Hid (w.heap.size<q):=vv (by rw[hq];exact(c4.o.get 0 rfl).lt);rw[<- c6,<- hq];clear c6 hq;have kh:=b1.o _ c7.o.low;refine hK.out _ _ ⟨kh.cell 0,kh.cell 1⟩ (fun a2=>?_);clear hK hS0 kh;refine q0d ?_;simp only[List.drop_succ_cons,List.drop_zero];clear a2;have d8:=c7.o.get 0 rfl;go_wp2_with (with_reducible refine q08 rfl 49 (.tmp 4) (.tmp 25) rfl q [.int .u64 0,.int .u8 0,.int .i64 0,.int .i64 (first:Int),.int .i64 (L.length:Int)] rfl rfl 49 _ d8 (by kernel_rfl) rfl rfl ?_)
 intro w4 d9 e0;have b9:=vv (c7.o.put 0 rfl (by
  have:=HQ.o;intro j y hj hy
  match j,hj,hy with
  | 1,_,hy=>cases hy;show w.heap.size≠q;omega) (by have:=HQ.o;have:=HS.o;omega) d9 e0)
 clear d9 e0 d8;have kr:=c2.o _ b9.o.low;obtain⟨r0,r1,r2,-,-,-,-,-⟩:=kr;have kh:=b1.o _ b9.o.low;have d0:=kh.cell 0;have dl:=kh.lt;have gl:=(a6.o _ b9.o.low).1.lt;simp only[List.getElem?_cons_zero] at d0;clear kh;go_wp2_with fail
 refine q01 (fun w'=>w'.cell? ⟨g,0,none⟩=some (.int .i64 E)/\w'.cell? ⟨g,1,none⟩=some (.int .i64 F)/\w'.cell? ⟨g,2,none⟩=some (.int .u8 (mode:Int))/\w'.cell? ⟨b,0,none⟩=some v) 20
  (.still 0 (.still 1 (.still 2 (.still 3 (.still 4 (.still 5 (.still 6 (.still 7 (.still 9 (.still 10 (.still 11 (.still 12 (.one 8 (.one 13 (.still 14 (.still 15 (.still 16 (.still 17 (.still 18 (.still 19 .done)))))))))))))))))))) (by kernel_rfl) (by kernel_rfl) (fun _ _ d _ _ h=>by cases d<;>exact h) ⟨r0,r1,r2,d0⟩ (fun hS0=>?_)
 iterate 12
  refine q00 (v:=?_) rfl (by rfl) ?_ ?_;rotate_left
  ·intro w d7;go_simp;with_reducible rfl
  simp only[Act.put,sa,sb,sc]
 have a7:=vv b9.o.drew;obtain⟨wd4,b2⟩:=yx (w4.drew);rw[<- b2] at hS0 a7 ⊢;clear b2 d0 dl gl r0 r1 r2;have f7:=q2x (f3.o _ a7.o.low) f6.o;refine q06 rfl (by rfl) (fun K hK=>?_);go_simp;obtain⟨r0,r1,r2,-,-,-,-,-⟩:=c2.o _ a7.o.low;have d0:=(b1.o _ a7.o.low).cell 0;simp only[List.getElem?_cons_zero] at d0;refine hK.out _ _ ⟨r0,r1,r2,d0⟩ (fun a2=>?_);clear hK hS0 r0 r1 r2 d0 f7 a2;refine q06 rfl (by rfl) (fun K hK=>?_);go_simp;refine(a5.o _ a7.o.low).mono ?_;rintro e w5 ⟨x,rfl,hE,hB⟩;have c0:=vv (a7.o.step hB);have f8:=vv hE;have f9:=vv hB.size;clear hE hB;obtain⟨r0,r1,r2,-,-,-,-,-⟩:=c2.o _ c0.o.low;have d0:=(b1.o _ c0.o.low).cell 0;simp only[List.getElem?_cons_zero] at d0;refine hK.out _ _ ⟨r0,r1,r2,d0⟩ (fun a2=>?_);clear hK r0 r1 r2 d0
 iterate 6
  refine q00 (v:=?_) rfl (by rfl) ?_ ?_;rotate_left
  ·intro w d7;go_simp;with_reducible rfl
  simp only[Act.put,sa,sb,sc]
 refine q0d ?_;simp only[List.drop_succ_cons,List.drop_zero];clear a2;go_wp2_with fail
 obtain⟨tq,b3⟩:=yx (w5.heap.size);obtain⟨w6,c1⟩:=yx (w5.alloc (.cells #[.pointer none] 131));have a8:Hid (Ctx wz [(tq,131,[.pointer none]),(q,49,[.int .u64 0,.int .u8 0,.int .i64 0,.int .i64 (first:Int),.int .i64 (L.length:Int)]),(w.heap.size,49,[.int .u64 0,.int .u8 0,.int .i64 0,.int .i64 0,.int .i64 0])] w6):=vv (by rw[c1];exact c0.o.new _ _ b3);have g0:=vv (f8.o.below (by rw[c1];exact(Below.refl _ _).alloc lr _:Below w5.heap.size w5 w6));have HT:Hid (q<tq):=vv (by rw[b3];exact(c0.o.get 0 rfl).lt);have g2:Hid (wd4.heap.size<=tq/\q<wd4.heap.size):=vv ⟨by rw[b3];exact f9.o,(a7.o.get 0 rfl).lt⟩;rw[<- c1,<- b3];clear c1 b3;have b4:∀j y,j≠0->[(tq,131,[Value.pointer none]),(q,49,[.int .u64 0,.int .u8 0,.int .i64 0,.int .i64 (first:Int),.int .i64 (L.length:Int)]),(w.heap.size,49,[.int .u64 0,.int .u8 0,.int .i64 0,.int .i64 0,.int .i64 0])][j]?=some y->y.1≠tq:=by
  have:=HQ.o;have:=HT.o;intro j y hj hy
  match j,hj,hy with
  | 1,_,hy=>cases hy;show q≠tq;omega
  | 2,_,hy=>cases hy;show w.heap.size≠tq;omega
 have e3:=vv b4;clear b4;rcases g0.o with ⟨hz,rfl⟩|⟨hz,gw,gf,rfl,e4,e5,e6,e7⟩
 ·have hI:=HI.o;rw[if_pos hz] at hI;have c8:=vv hI;clear hI hz;refine(qab tq _ _ (a8.o.get 0 rfl)).mono ?_;rintro e w7 ⟨rfl,hB,hG⟩;have a1:=vv (a8.o.put 0 rfl e3.o (by have:=HS.o;have:=HQ.o;have:=HT.o;omega) hB hG);clear hB hG;obtain⟨i0,i1,i2⟩:w7.cell? ⟨q,0,none⟩=some (.int .u64 0)/\w7.cell? ⟨q,1,none⟩=some (.int .u8 0)/\w7.cell? ⟨tq,0,none⟩=some (.pointer none):=⟨(a1.o.get 1 rfl).cell 0,(a1.o.get 1 rfl).cell 1,(a1.o.get 0 rfl).cell 0⟩;have f0:=(a1.o.get 1 rfl).fz 0;have f1:=(a1.o.get 1 rfl).fz 1;have ql:=(a1.o.get 1 rfl).lt;have b5:Blk ((w7.setCell ⟨q,0,none⟩ (.int .u64 (O.1:Int))).setCell ⟨q,1,none⟩ (.int .u8 (O.2.1:Int))) q 49 [.int .u64 (O.1:Int),.int .u8 (O.2.1:Int),.int .i64 0,.int .i64 (first:Int),.int .i64 (L.length:Int)]:=((a1.o.get 1 rfl).set 0 _).set 1 _;have a9:q≠w.heap.size:=by have:=HQ.o;omega
  have b6:Blk ((w7.setCell ⟨q,0,none⟩ (.int .u64 (O.1:Int))).setCell ⟨q,1,none⟩ (.int .u8 (O.2.1:Int))) w.heap.size 49 [.int .u64 0,.int .u8 0,.int .i64 0,.int .i64 0,.int .i64 0]:=((a1.o.get 2 rfl).other a9 _).other a9 _;have a0:Below wz.heap.size wz ((w7.setCell ⟨q,0,none⟩ (.int .u64 (O.1:Int))).setCell ⟨q,1,none⟩ (.int .u8 (O.2.1:Int))):=by
   have e1:=q07 (World.grownBy.refl w7 (some q)) (p:=⟨q,0,none⟩) (.inl rfl) (.int .u64 (O.1:Int));have e2:=q07 e1 (p:=⟨q,1,none⟩) (.inl rfl) (.int .u8 (O.2.1:Int));exact q0a a1.o.low e2 a1.o.low.size (by have:=HS.o;have:=HQ.o;omega)
  clear a9;go_wp2_with (first
   | with_reducible refine q0x rfl 49 (.tmp 4) rfl q rfl 49 _ _ b5 Tryz.underlying49 rfl (by kernel_rfl) ?_
   | with_reducible refine q08 rfl 49 (.tmp 2) (.tmp 61) rfl w.heap.size [.int .u64 (O.1:Int),.int .u8 (O.2.1:Int),.int .i64 0,.int .i64 (first:Int),.int .i64 (L.length:Int)] rfl rfl 49 _ b6 (by kernel_rfl) rfl rfl ?_)
  intro w8 hK b7;have a3:=q0a a0 b7 (by have:=a0.size;have:=HS.o;omega) (by rw[HS.o];exact lr);have HK:=vv hK;have c9:=vv a3;clear hK b7 a0 a3 b5 b6;go_wp2;have k0:=HK.o.cell 0;have k1:=HK.o.cell 1;have k2:=HK.o.cell 2;have k3:=HK.o.cell 3;have k4:=HK.o.cell 4;simp only[List.getElem?_cons_zero,List.getElem?_cons_succ] at k0 k1 k2 k3 k4;rw[c8.o];exact bodyPost_ret (v:=.agg #[.int .u64 (O.1:Int),.int .u8 (O.2.1:Int),.int .i64 0,.int .i64 (first:Int),.int .i64 (L.length:Int)]) (by simp [results,Tryz.results44,go_sem,k0,k1,k2,k3,k4]) rfl ⟨rfl,a6.o _ c9.o⟩
 ·have hI:=HI.o;rw[if_neg hz] at hI;have c8:=vv hI;have g1:=vv e6;have e8:=vv e7;have g3:=vv (And.intro e4 e5);clear hI hz e6 e7 e4 e5;refine(as_wrong ⟨gw,0,none⟩ ⟨gf,0,none⟩ tq _ _ (e9.o _ a8.o.low) (a8.o.get 0 rfl) (g1.o.cell 0)).mono ?_;rintro e w7 ⟨rfl,hB,hG⟩;have b8:=vv (e8.o.grown hG (fun e=>q3O e8.o (a8.o.get 0 rfl) (by decide) (by injection e with e;exact e.symm)));have a1:=vv (a8.o.put 0 rfl e3.o (by have:=HS.o;have:=HQ.o;have:=HT.o;omega) hB hG);clear hB hG;obtain⟨i0,i1,i2⟩:w7.cell? ⟨q,2,none⟩=some (.int .i64 0)/\w7.cell? ⟨gf,0,none⟩=some (.int .i64 O.2.2.1)/\w7.cell? ⟨tq,0,none⟩=some (.pointer (some ⟨gf,0,none⟩)):=⟨(a1.o.get 1 rfl).cell 2,b8.o.cell 0,(a1.o.get 0 rfl).cell 0⟩;have f0:=(a1.o.get 1 rfl).fz 2;have ql:=(a1.o.get 1 rfl).lt;have gfl:=b8.o.lt;have b5:Blk (w7.setCell ⟨q,2,none⟩ (.int .i64 O.2.2.1)) q 49 [.int .u64 0,.int .u8 0,.int .i64 O.2.2.1,.int .i64 (first:Int),.int .i64 (L.length:Int)]:=(a1.o.get 1 rfl).set 2 _;have a9:q≠w.heap.size:=by have:=HQ.o;omega
  have b6:Blk (w7.setCell ⟨q,2,none⟩ (.int .i64 O.2.2.1)) w.heap.size 49 [.int .u64 0,.int .u8 0,.int .i64 0,.int .i64 0,.int .i64 0]:=(a1.o.get 2 rfl).other a9 _;have a0:Below wz.heap.size wz (w7.setCell ⟨q,2,none⟩ (.int .i64 O.2.2.1)):=q0a (g:=q) a1.o.low (q07 (World.grownBy.refl _ _) (.inl rfl) _) a1.o.low.size (by have:=HS.o;have:=HQ.o;omega);clear a9;go_wp2_with (first
   | with_reducible refine q0x rfl 49 (.tmp 4) rfl q rfl 49 _ _ b5 Tryz.underlying49 rfl (by kernel_rfl) ?_
   | with_reducible refine q08 rfl 49 (.tmp 2) (.tmp 56) rfl w.heap.size [.int .u64 0,.int .u8 0,.int .i64 O.2.2.1,.int .i64 (first:Int),.int .i64 (L.length:Int)] rfl rfl 49 _ b6 (by kernel_rfl) rfl rfl ?_)
  intro w8 hK b7;have a3:=q0a a0 b7 (by have:=a0.size;have:=HS.o;omega) (by rw[HS.o];exact lr);have HK:=vv hK;have c9:=vv a3;clear hK b7 a0 a3 b5 b6;go_wp2;have k0:=HK.o.cell 0;have k1:=HK.o.cell 1;have k2:=HK.o.cell 2;have k3:=HK.o.cell 3;have k4:=HK.o.cell 4;simp only[List.getElem?_cons_zero,List.getElem?_cons_succ] at k0 k1 k2 k3 k4;rw[c8.o];exact bodyPost_ret (v:=.agg #[.int .u64 0,.int .u8 0,.int .i64 O.2.2.1,.int .i64 (first:Int),.int .i64 (L.length:Int)]) (by simp [results,Tryz.results44,go_sem,k0,k1,k2,k3,k4]) rfl ⟨rfl,a6.o _ c9.o⟩
theorem q8S(g:Nat)(E F:Int)(mode:Nat)(seps:ByteArray)(at_:Nat)(w:World)
  (h:Blk w g 80 (q3A E F mode seps at_ none false true)) :
  Calls Tryz.prog 23 #[.pointer (some ⟨g,0,none⟩)] w fun e w'=>e=.returned (.tuple #[.slice none 0 0,.int .i64 0])/\Blk w' g 80 (q3A E F mode seps at_ none true true)/\w.grownBy w' (some g):=by
 have HT:=vv (q9s g E F mode seps at_ none false w h);have hl:=h.lt;have c5:=(q4a h).c5;have c6:=(q4a h).c6;have f6:=h.fz 6;have HE:=vv (And.intro (h.set 6 (.bool true)) (q07 (World.grownBy.refl w (some g)) (p:=⟨g,6,none⟩) (.inl rfl) (.bool true)));clear h;go_enter Tryz.func23,Tryz.ntmps23
 go_wp2_with fail
 refine HT.o.mono ?_;rintro e w' ⟨rfl,rfl⟩;go_wp2;go_ret2
 exact⟨rfl,HE.o⟩
theorem q42:(Tryz.prog.info? 49).map (fun i=>(i.zero,i.size,i.bytes))=some (some (.agg #[.int .u64 0,.int .u8 0,.int .i64 0,.int .i64 0,.int .i64 0]),5,40):=by kernel_rfl
theorem q6H{w:World}{g lo n k:Nat}{s e:TypeId}{l xs:List Value}{v:Value}(h:Blk w g s l)(hr:w.ownsRow lo e k v n xs)(hst:s≠e):v.ownBlock≠some g:=by
 rcases hr.2 with ⟨rfl,-⟩|⟨g',cap,cur,rfl,-,hg,-⟩
 ·simp [Value.ownBlock]
 ·simp only[Value.ownBlock];rintro e
  injection e with e
  subst e;have e:=h.symm.trans hg
  injection e with e
  injection e with _ e
  exact hst e
theorem q3n(w:World)(cs:List Value)(t:TypeId):∀j u,cs[j]?=some u->(w.alloc (.cells cs.toArray t)).cell? ((⟨w.heap.size,0,none⟩:Addr).add j)=some u:=by
 intro j u h;have ea:Addr.add ⟨w.heap.size,0,none⟩ j=⟨w.heap.size,j,none⟩:=by cases j with|zero=>rfl|succ j=>simp [Addr.add]
 rw[ea,(Blk.made w t cs).cell j];exact h
theorem q1a(E F:Int)(mode:Nat)(L:List Nat)(first:Nat):∃x0 x1 x2 x3 x4,q1e E F mode L first=[x0,x1,x2,x3,x4]/\∀u∈[x0,x1,x2,x3,x4],u.oneCell'=true:=by
 unfold q1e;split
 ·exact⟨_,_,_,_,_,rfl,by simp [Value.oneCell']⟩
 ·exact⟨_,_,_,_,_,rfl,by simp [Value.oneCell']⟩
theorem q8R(w00:World)(hg0:Bg w00)(ht0:EType w00)(g b lo at_ first mode:Nat)(E F:Int)(seps:ByteArray)(L:List Nat)(v:Value)(w:World)
  (hw:Below w00.heap.size w00 w) (hge:w00.heap.size<=g)
  (h:Blk w g 80 (q3A E F mode seps at_ (some ⟨b,0,none⟩) false true)) (hb:Blk w b 87 [v,.int .i64 (first:Int)])
  (hr:w.ownsRow lo 5 1 v L.length (u8s L)) (hL:∀x∈L,x<256) :
  Calls Tryz.prog 23 #[.pointer (some ⟨g,0,none⟩)] w fun e w'=>∃v',e=.returned (.tuple #[v',.int .i64 0])/\w'.ownsRow w.heap.size 49 5 v' 1 (q1e E F mode L first) /\
   Blk w' g 80 (q3A E F mode seps at_ none true true)/\w.grownBy w' (some g):=by
 obtain⟨i0,hi,a7,a8,a9⟩:=info_parts q42;have HT:=vv (q9s g E F mode seps at_ (some ⟨b,0,none⟩) false w h);have HI:=vv (qbW w00 hg0 ht0 g b lo at_ first mode E F seps false L v w hw hge h hb hr hL);obtain⟨x0,x1,x2,x3,x4,a5,a4⟩:=q1a E F mode L first;rw[a5] at HI ⊢;have hl:=h.lt;have c5:=(q4a h).c5;clear h hb hr hL hg0 ht0 hw hge a5;go_enter Tryz.func23,Tryz.ntmps23
 go_wp2_with fail
 refine HT.o.mono ?_;rintro e w' ⟨rfl,rfl⟩;go_wp2_with fail
 refine HI.o.mono ?_;rintro e w1 ⟨rfl,hB,hG⟩;have HB:=vv hB;have HG:=vv hG;clear hB hG c5;go_wp2_with (at_builtin;refine wpList_append_own _ rfl _ _ 42 rfl w.heap.size 49 i0 (.agg #[.int .u64 0,.int .u8 0,.int .i64 0,.int .i64 0,.int .i64 0]) 5 40 Tryz.underlying42 hi a7 a8 a9 rfl (by decide) _ 0 [] rfl (World.ownsRow_nil _ _ _ _) ⟨w1.heap.size,0,none⟩ 1 1 [x0,x1,x2,x3,x4] rfl rfl (q3n w1 [x0,x1,x2,x3,x4] _) a4 (by decide) (by decide) (by have:=HG.o.size;simp;omega) ?_)
 intro v' w3 a1 a0 _;have a2:=(HB.o.alloc (.cells #[x0,x1,x2,x3,x4] 49)).grown a0 (by simp [Value.ownBlock]);have a6:w.grownBy w3 (some g):=by
  have e:=q0n HG.o (.cells #[x0,x1,x2,x3,x4] 49);exact⟨a0.os.trans e.os,a0.tape.trans e.tape,a0.output.trans e.output,Nat.le_trans e.size a0.size,fun k hk a3=>(a0.block k (Nat.lt_of_lt_of_le hk e.size) (by simp [Value.ownBlock])).trans (e.block k hk a3)⟩
 have a3:=q6H a2 a1 (by decide);have c6:=(q4a a2).c6;have f6:=a2.fz 6;have b0:=a2.lt;have h1:=a2.set 6 (.bool true);have h2:=q07 a6 (p:=⟨g,6,none⟩) (.inl rfl) (.bool true);have h3:=a1.kept (q07 (World.grownBy.refl w3 (some g)) (p:=⟨g,6,none⟩) (.inl rfl) (.bool true)) (.inr a3);have HE:=vv (And.intro h3 (And.intro h1 h2));clear a1 a0 a2 a6 a3 h1 h2 h3;go_wp2;go_ret2
 exact⟨v',rfl,HE.o⟩
abbrev Tk:=List Nat × Nat
def qb9(seps:ByteArray)(c:Nat):Bool:=decide (0<=Lib.indexByte seps.data.toList c.toUInt8)
def q1n(seps:ByteArray)(a:Nat)(tok:Option Tk)(c:Nat):Option Tk × List Tk:=
 if qb9 seps c=true then(none,tok.toList) else
 match tok with
 | none=>(some ([c],a),[])
 | some (L,f)=>(some (L++[c],f),[])
def q12(seps:ByteArray):Nat->Option Tk->List Nat->Option Tk × List Tk
 | _,tok,[]=>(tok,[])
 | a,tok,c::cs=>((q12 seps (a+1) (q1n seps a tok c).1 cs).1,(q1n seps a tok c).2++(q12 seps (a+1) (q1n seps a tok c).1 cs).2)
theorem q1b(seps:ByteArray):∀(xs ys:List Nat) (a:Nat) (tok:Option Tk),
  q12 seps a tok (xs++ys)=((q12 seps (a+xs.length) (q12 seps a tok xs).1 ys).1,(q12 seps a tok xs).2++(q12 seps (a+xs.length) (q12 seps a tok xs).1 ys).2)
 | [],ys,a,tok=>by simp [q12]
 | c::xs,ys,a,tok=>by
  have ih:=q1b seps xs ys (a+1) (q1n seps a tok c).1;simp only[List.cons_append,q12,List.length_cons];rw[ih,show a+1+xs.length=a+(xs.length+1) by omega,List.append_assoc]
theorem q6F(seps:ByteArray)(xs:List Nat)(c a:Nat)(tok:Option Tk):
  q12 seps a tok (xs++[c])=((q1n seps (a+xs.length) (q12 seps a tok xs).1 c).1,(q12 seps a tok xs).2++(q1n seps (a+xs.length) (q12 seps a tok xs).1 c).2):=by
 rw[q1b];simp [q12]
def q9b(seps:ByteArray)(a:Nat)(tok:Option Tk)(xs:List Nat):List Tk:=(q12 seps a tok xs).2++(q12 seps a tok xs).1.toList
theorem q5d(seps:ByteArray)(xs ys:List Nat)(a:Nat)(tok:Option Tk):
  q9b seps a tok (xs++ys)=(q12 seps a tok xs).2++q9b seps (a+xs.length) (q12 seps a tok xs).1 ys:=by
 unfold q9b;rw[q1b,List.append_assoc]
def qbA(seps:ByteArray)(a:Nat)(t:Tk):Prop:=0<t.1.length/\t.2+t.1.length=a/\(∀x∈t.1,x<256)/\∀x∈t.1,qb9 seps x=false
theorem q7X(seps:ByteArray)(a:Nat)(tok:Option Tk)(c:Nat)(hc:c<256)(h:∀t,tok=some t->qbA seps a t):∀t,(q1n seps a tok c).1=some t->qbA seps (a+1) t:=by
 intro t ht;unfold q1n at ht;by_cases hb:qb9 seps c=true
 ·rw[if_pos hb] at ht;cases ht
 rw[if_neg hb] at ht;have a0:qb9 seps c=false:=by simpa using hb
 match tok,h,ht with
 | none,h,ht =>
  cases ht
  exact⟨by simp,rfl,by simpa using hc,by simpa using a0⟩
 | some (L,f),h,ht =>
  cases ht
  obtain⟨h1,h2,h3,h4⟩:=h (L,f) rfl;refine⟨by simp,by simp only[List.length_append,List.length_cons,List.length_nil] at h2 ⊢;omega,?_,?_⟩
  ·intro x hx;rcases List.mem_append.1 hx with hx|hx
   ·exact h3 x hx
   ·rw[List.mem_singleton.1 hx];exact hc
  ·intro x hx;rcases List.mem_append.1 hx with hx|hx
   ·exact h4 x hx
   ·rw[List.mem_singleton.1 hx];exact a0
end Go.Proofs.YtcdimmblnbkjjaaGreatDoor.Str
namespace Go.Proofs.YtcdimmblnbkjjaaGreatDoor.Str
open Go Go.RowKit
end Go.Proofs.YtcdimmblnbkjjaaGreatDoor.Str
namespace Go.Proofs.YtcdimmblnbkjjaaGreatDoor.Str
open Go Go.RowKit R5 Scn Hx Rdx
theorem q2n(c:UInt8):∀l:List UInt8,0<=Lib.indexByte l c↔c∈l
 | []=>by simp [Lib.indexByte]
 | b::l=>by
  have ih:=q2n c l;have hge:=Lib.indexByte_ge l c;by_cases e:b=c
  ·subst e;simp [Lib.indexByte]
  ·have e1:(b==c)=false:=by simpa using e
   have e2:¬c=b:=fun h=>e h.symm
   simp only[Lib.indexByte,e1,Bool.false_eq_true,if_false,List.mem_cons,e2,false_or];rw[<- ih];by_cases h:Lib.indexByte l c = -1
   ·simp [h]
   ·have h1:(Lib.indexByte l c == -1)=false:=by simpa using h
    simp only[h1,Bool.false_eq_true,if_false];omega
def qbQ(sep:ByteArray)(c:Nat):Bool:=decide (c.toUInt8∈sep.data.toList) || decide (c=32) || decide (c=9) || decide (c=10) || decide (c=13)
end Go.Proofs.YtcdimmblnbkjjaaGreatDoor.Str
