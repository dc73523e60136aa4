/- Lemmas. -/
import Derived.Test.YthopehoklmgphaaGreatDoorPartAF
import Derived.Test.YthopehoklmgphaaGreatDoorPartBR
set_option linter.all false
set_option maxHeartbeats 8000000
set_option maxRecDepth 100000
open Go.Proofs.Tryz
open Option renaming none->qa,some->qb
open Go renaming World->qc,World.grownBy.refl->qg,bodyPost_ret->qi,RowKit.Below.refl->qk,Calls->qm,Value->qn,Addr->qp
open Decidable renaming decide->qd
open Go.Proofs.Tryz renaming prog->qe
open Bool renaming false->qf,true->qj
open Go.RowKit renaming Below->qh,Hid->qo
namespace Go.Proofs.YthopehoklmgphaaGreatDoor
variable{n0 g k n lo:Nat}{w w':qc}{v:qn}{c a:Int}{s e:TypeId}{l xs:List qn}
namespace Rdx
open Go Go.RowKit R5 Scn Hx
def q6M(n0:Nat)(w:qc)(v:qn)(c a:Int):Prop:=
 (c=0/\v=.nilIface)\/(c≠0/\∃gw gf,v=.iface 112 (.pointer (qb ⟨gw,0,qa⟩))/\n0<=gw/\n0<=gf/\Blk w gw 114 [.pointer (qb ⟨gf,0,qa⟩)]/\Blk w gf 80 [.int .i64 c,.int .i64 a])
theorem q6M.below(h:q6M n0 w v c a)(hb:qh w.heap.size w w'):q6M n0 w' v c a:=by
 rcases h with h|⟨h,b,d,e,f,g,i,j⟩
 ·exact .inl h
 ·exact .inr ⟨h,b,d,e,f,g,i.below hb,j.below hb⟩
theorem q6M.mono{n1:Nat}(h:q6M n0 w v c a)(hn:n1<=n0):q6M n1 w v c a:=by
 rcases h with h|⟨h,b,d,e,f,g,i,j⟩
 ·exact .inl h
 ·exact .inr ⟨h,b,d,e,k06 hn f,k06 hn g,i,j⟩
theorem q6M.grown(h:q6M n0 w v c a)(hb:w.grownBy w' (qb g))(hg:g<n0):q6M n0 w' v c a:=by
 rcases h with h|⟨h,b,d,e,f,i,j,k⟩
 ·exact .inl h
 ·exact .inr ⟨h,b,d,e,f,i,j.grown hb (fun e=>by injection e;omega),k.grown hb (fun e=>by injection e;omega)⟩
def NoP(c a:Int)(w:qc)(e:Ending)(w':qc):Prop:=∃v,e=.returned v/\q6M w.heap.size w' v c a/\qh w.heap.size w w'
theorem no_(c a:Int)(w:qc):qm qe 39 #[.int .i64 c,.int .i64 a] w (NoP c a w):=by
 by_cases h:c=0
 ·subst h;go_enter func39,ntmps39;go_wp2;go_ret;exact⟨_,rfl,.inl ⟨rfl,rfl⟩,qk _ _⟩
 ·have n:(c==0)=qf:=by rw[k02];exact h
  have f:=(qk w.heap.size w).alloc (o:=.cells #[.int .i64 c,.int .i64 a] 80) lr;have g:Blk (w.alloc (.cells #[.int .i64 c,.int .i64 a] 80)) w.heap.size 80 [.int .i64 c,.int .i64 a]:=Blk.made w 80 [.int .i64 c,.int .i64 a];obtain⟨d,b⟩:=yx (w.alloc (.cells #[.int .i64 c,.int .i64 a] 80));have l:d.heap.size=w.heap.size+1:=by rw[b];simp
  rw[<- b] at f g;have i:Blk (d.alloc (.cells #[.pointer (qb ⟨w.heap.size,0,qa⟩)] 114)) d.heap.size 114 [.pointer (qb ⟨w.heap.size,0,qa⟩)]:=Blk.made d 114 [.pointer (qb ⟨w.heap.size,0,qa⟩)];have j:=f.alloc (o:=.cells #[.pointer (qb ⟨w.heap.size,0,qa⟩)] 114) (by omega);have k:=g.alloc (.cells #[.pointer (qb ⟨w.heap.size,0,qa⟩)] 114);rw[l] at i;have e:=vv (And.intro b (And.intro j (And.intro k i)));have m:=vv h;clear h f g l i j k b;go_enter func39,ntmps39;go_wp2;go_ret;rw[<- e.o.1];exact⟨_,rfl,.inr ⟨m.o,w.heap.size+1,w.heap.size,rfl,k1s _,lr,e.o.2.2.2,e.o.2.2.1⟩,e.o.2.1⟩
def qfF(w:qc):Prop:=w.cell? ⟨0,0,qa⟩=qb (.iface 122 (.agg #[.pointer (qb ⟨9,73,qa⟩)]))
theorem qfF.below(h:qfF w)(hb:qh w.heap.size w w'):qfF w':=(hb.cell (p:=⟨0,0,qa⟩) (qfG h)).trans h
def AsP(ok:Bool)(t:Nat)(f:qn)(w:qc)(e:Ending)(w':qc):Prop:=e=.returned (.bool ok)/\Blk w' t 76 [f]/\w.grownBy w' (qb t)
theorem qcF(t:Nat)(f:qn)(w:qc)(ht:Blk w t 76 [f]):qm qe 35 #[.nilIface,.iface 78 (.pointer (qb ⟨t,0,qa⟩))] w (AsP qf t f w):=(As.as_nil _ w).mono fun e w' ⟨h1,h2⟩=>by subst h2;exact⟨h1,ht,qg _ _⟩
theorem q3K(t:Nat)(e:qp)(old:qn)(w:qc)(ht:Blk w t 76 [old])(o1 o2 o3 o4:Obj):Blk (((((w.alloc o1).alloc o2).alloc o3).alloc o4).setCell ⟨t,0,qa⟩ (.pointer (qb e))) t 76 [.pointer (qb e)]/\w.grownBy (((((w.alloc o1).alloc o2).alloc o3).alloc o4).setCell ⟨t,0,qa⟩ (.pointer (qb e))) (qb t):=by have a:w.grownBy ((((w.alloc o1).alloc o2).alloc o3).alloc o4) (qb t):=q0x (q0x (q0x (q0x (qg _ _) _) _) _) _;exact⟨((((ht.alloc o1).alloc o2).alloc o3).alloc o4).set 0 _,q09 a (.inl rfl) _⟩
theorem as_wrong(x e:qp)(t:Nat)(old:qn)(w:qc)(hg:qfF w)(ht:Blk w t 76 [old])(hx:w.cell? x=qb (.pointer (qb e))):qm qe 35 #[.iface 112 (.pointer (qb x)),.iface 78 (.pointer (qb ⟨t,0,qa⟩))] w (AsP qj t (.pointer (qb e)) w):=(As.as_wrong x e ⟨t,0,qa⟩ old w hg (ht.cell 0) (ht.fz 0) hx).mono fun ev w' ⟨h1,h2⟩=>by subst h2;exact⟨h1,(q3K t e old w ht _ _ _ _).1,(q3K t e old w ht _ _ _ _).2⟩
theorem as_refused(e:qp)(t:Nat)(old:qn)(w:qc)(hg:qfF w)(ht:Blk w t 76 [old]):qm qe 35 #[.iface 141 (.pointer (qb e)),.iface 78 (.pointer (qb ⟨t,0,qa⟩))] w (AsP qj t (.pointer (qb e)) w):=(As.as_refused e ⟨t,0,qa⟩ old w hg (ht.cell 0) (ht.fz 0)).mono fun ev w' ⟨h1,h2⟩=>by subst h2;exact⟨h1,(q3K t e old w ht _ _ _ _).1,(q3K t e old w ht _ _ _ _).2⟩
def qel(r:Num × Nat × Nat)(w:qc)(e:Ending)(w':qc):Prop:=
 (r.2.1=0/\∃A m c,e=.returned (.tuple #[Scn.numV r.1 A m c,.nilIface])/\Rd w' A m c (toL r.1.mant)/\qh w.heap.size w w') \/
 (r.2.1≠0/\∃v,e=.returned (.tuple #[Scn.numV Num.none_ qa 0 0,v])/\q6M w.heap.size w' v (r.2.1:Nat) (r.2.2:Nat)/\qh w.heap.size w w')
theorem qeY(s:ByteArray)(w:qc)(hg:Bg w)(ht:qfF w):qm qe 40 #[.string s] w (qel (read s) w):=by
 obtain⟨w0,J⟩:=yx (w.alloc (.cells #[.int .u8 0,.bool qf,.bool qf,.string ⟨#[]⟩,.int .i64 0,.bool qf,.slice qa 0 0,.int .i64 0,.int .u64 0] 92));have T:Ctx w [(w.heap.size,92,q1o)] w0:=by rw[J];exact(Ctx.nil w).new 92 q1o rfl
 have a1:=vv (Scn.Read s w0 (hg.below T.low));obtain⟨r,hr⟩:=yx (read s);rw[<- hr] at a1 ⊢;have H:=vv T;have HW:=vv J;have HT:=vv ht;clear T J hr ht;go_enter func40,ntmps40;go_wp2_with fail;rw[<- HW.o];refine a1.o.mono ?_;rintro e q (⟨D,A,m,c,rfl,U,hF,b⟩|⟨D,g,rfl,b0,I,b⟩)
 ·have L:=vv (H.o.step b);obtain⟨x,hx⟩:=yx (r.1);rw[<- hx] at U ⊢;rw[show Scn.numV x A m c=.agg #[.int .u8 (x.kind:Int),.bool x.neg,.bool x.dneg,.string ⟨x.digits.toArray⟩,.int .i64 x.exp,.bool x.hneg,.slice A m c,.int .i64 x.hexp,.int .u64 (x.payload:Int)] from rfl];have p:=vv (And.intro D hx);obtain⟨f,k⟩:=yx (q.heap.size);obtain⟨t,i⟩:=yx (q.alloc (.cells #[.int .u8 (x.kind:Int),.bool x.neg,.bool x.dneg,.string ⟨x.digits.toArray⟩,.int .i64 x.exp,.bool x.hneg,.slice A m c,.int .i64 x.hexp,.int .u64 (x.payload:Int)] 92));have a2:qh q.heap.size q t:=by rw[i];exact(qk _ _).alloc lr _
  have l:qo (Ctx w [(f,92,[.int .u8 (x.kind:Int),.bool x.neg,.bool x.dneg,.string ⟨x.digits.toArray⟩,.int .i64 x.exp,.bool x.hneg,.slice A m c,.int .i64 x.hexp,.int .u64 (x.payload:Int)]),(w.heap.size,92,q1o)] t):=vv (by rw[i];exact L.o.new _ _ k);have b1:=vv (U.below a2 rfl);have b2:qo (∀a,A=qb a->w.heap.size<a.block):=vv (fun a e=>by have:=(hF a e).1;have:=H.o.get 0 rfl |>.lt;omega);have C:=vv (And.intro i k);clear D hx U hF b a2 i k;rw[C.o.1] at l;have M:=vv (l.o.get 1 rfl);go_wp2_with (with_reducible refine q05 rfl 92 (.tmp 2) (.tmp 14) rfl w.heap.size [.int .u8 (x.kind:Int),.bool x.neg,.bool x.dneg,.string ⟨x.digits.toArray⟩,.int .i64 x.exp,.bool x.hneg,.slice A m c,.int .i64 x.hexp,.int .u64 (x.payload:Int)] rfl rfl 92 q1o M.o (by kernel_rfl) rfl rfl ?_);intro V b n;have N:=vv (q0h l.o.low n l.o.low.size lr);have b3:qo (Rd V A m c (toL x.mant)):=vv ((show Rd _ A m c (toL x.mant) from C.o.1 ▸ b1.o).only n (fun a e=>by have:=b2.o a e;omega));have W:=vv b;clear b n;go_wp2;obtain⟨X,Y,Z,k3,k4,k5,k6,k7,k8⟩:=W.o.num;refine qi (v:=.tuple #[Scn.numV x A m c,.nilIface]) (by simp [results,results40,go_sem,X,Y,Z,k3,k4,k5,k6,k7,k8,Scn.numV]) rfl (.inl ⟨p.o.1,A,m,c,?_,?_,N.o⟩)
  ·rw[<- p.o.2]
  ·rw[<- p.o.2];exact b3.o
 ·have L:=vv (H.o.step b);obtain⟨u,O⟩:∃u:Int,u=((r.2.1:Nat):Int):=⟨_,rfl⟩;obtain⟨z,P⟩:∃z:Int,z=((r.2.2:Nat):Int):=⟨_,rfl⟩;rw[<- O,<- P] at I;have p:=vv (And.intro D (And.intro O P));have a3:=I.lt;rw[show Scn.numV Num.none_ qa 0 0=.agg #[.int .u8 0,.bool qf,.bool qf,.string ⟨#[]⟩,.int .i64 0,.bool qf,.slice qa 0 0,.int .i64 0,.int .u64 0] from rfl];obtain⟨f,k⟩:=yx (q.heap.size);obtain⟨t,i⟩:=yx ((q.alloc (.cells #[.int .u8 0,.bool qf,.bool qf,.string ⟨#[]⟩,.int .i64 0,.bool qf,.slice qa 0 0,.int .i64 0,.int .u64 0] 92)).alloc (.cells #[.pointer qa] 76));have a4:Ctx w [(f+1,76,[.pointer qa]),(f,92,q1o),(w.heap.size,92,q1o)] t:=by rw[i,k];exact(L.o.new 92 q1o rfl).new 76 [.pointer qa] (by simp)
  have a5:Blk t g 143 [.int .i64 u,.int .i64 z]:=by rw[i];exact(I.alloc _).alloc _
  have l:=vv a4;have b4:=vv a5;have HG:qo (w.heap.size<g/\g<f):=vv ⟨by have:=H.o.get 0 rfl |>.lt;omega,by rw[k];exact a3⟩;have C:=vv (And.intro i k);clear D O P I b a3 b0 a4 a5 i k;go_wp2_with fail;rw[<- C.o.1,<- C.o.2];refine(as_refused ⟨g,0,qa⟩ (f+1) _ t (HT.o.below l.o.low) (l.o.get 0 rfl)).mono ?_;rintro e w3 ⟨rfl,a6,Q⟩;have b5:g≠f+1:=by have:=HG.o;omega
  have F:=vv (b4.o.grown Q (fun e=>by injection e;omega));have R:qo (Ctx w [(f+1,76,[.pointer (qb ⟨g,0,qa⟩)]),(f,92,q1o),(w.heap.size,92,q1o)] w3):=vv (l.o.put 0 rfl (by
   intro j y hj E;have:=HG.o
   match j,hj,E with
   | 1,_,E=>cases E;show f≠f+1;omega
   | 2,_,E=>cases E;show w.heap.size≠f+1;omega) (by have:=HG.o;omega) a6 Q)
  clear a6 Q b5;have t0:=(R.o.get 0 rfl).cell 0;have tl:=(R.o.get 0 rfl).lt;have q0:=F.o.cell 0;have q1:=F.o.cell 1;have ql:=F.o.lt;simp only[k07,k0c] at t0 q0 q1;go_wp2_with fail;refine q02 (fun w'=>w'.cell? ⟨f+1,0,qa⟩=qb (.pointer (qb ⟨g,0,qa⟩))/\w'.cell? ⟨g,0,qa⟩=qb (.int .i64 u)/\w'.cell? ⟨g,1,qa⟩=qb (.int .i64 z)) 10
   (.still 0 (.still 1 (.still 2 (.still 3 (.still 4 (.still 5 (.still 6 (.still 7 (.still 8 (.one 9 .done)))))))))) (by kernel_rfl) (by kernel_rfl) (fun _ _ d _ _ h=>by cases d<;>exact h) ⟨t0,q0,q1⟩ (fun hS0=>?_)
  iterate 9
   refine q01 (v:=?_) rfl (by rfl) ?_ ?_;rotate_left
   ·intro w b8;go_simp;with_reducible rfl
   simp only[Act.put,sa,sb,sc]
  have S:=vv R.o.drew;have a7:=vv (F.o.below (q07 (qk _ _)));obtain⟨wd,a8⟩:=yx (w3.drew);rw[<- a8] at hS0 S a7 ⊢;clear a8 t0 tl q0 q1 ql;refine q04 rfl (by rfl) (fun K hK=>?_);go_simp;refine(no_ u z _).mono ?_;rintro e w5 ⟨v,rfl,hE,b⟩;have G:=vv (S.o.step b);have a9:=vv (a7.o.below b);have b6:=vv hE;have HL:qo (w.heap.size<wd.heap.size):=vv (S.o.get 2 rfl).lt;have M:=vv (G.o.get 2 rfl);clear b hE;go_wp2_with fail;refine hK.out _ _ ⟨(G.o.get 0 rfl).cell 0,a9.o.cell 0,a9.o.cell 1⟩ (fun a0=>?_);clear hK;refine q0a ?_;clear a0 hS0;simp only[k0P,k0L];go_wp2_with (with_reducible refine q05 rfl 92 (.tmp 2) (.tmp 21) rfl w.heap.size [.int .u8 0,.bool qf,.bool qf,.string ⟨#[]⟩,.int .i64 0,.bool qf,.slice qa 0 0,.int .i64 0,.int .u64 0] rfl rfl 92 q1o M.o (by kernel_rfl) rfl rfl ?_);intro V b n;have N:=vv (q0h G.o.low n G.o.low.size lr);have b7:qo (q6M w.heap.size V v u z):=vv ((b6.o.grown n HL.o).mono (k1j HL.o));have W:=vv b;clear b n;go_wp2;obtain⟨X,Y,Z,k3,k4,k5,k6,k7,k8⟩:=W.o.num;refine qi (v:=.tuple #[Scn.numV Num.none_ qa 0 0,v]) (by simp [results,results40,go_sem,X,Y,Z,k3,k4,k5,k6,k7,k8,Scn.numV,Num.none_]) rfl (.inr ⟨p.o.1,v,rfl,?_,N.o⟩);rw[<- p.o.2.1,<- p.o.2.2];exact b7.o
def q2x(E F:Int)(x:Num)(mode:Nat):Nat × Nat × Nat:=q1E E F x.kind x.neg x.dneg ⟨x.digits.toArray⟩ x.exp x.hneg (toL x.mant).length (toL x.mant) x.hexp x.payload mode
def q0U(E F:Int)(s:ByteArray)(mode:Nat):Nat × Nat × Int × Int:=
 if R3.formOk E F=qf then(0,0,5,0) else
 if 4<mode then(0,0,7,0) else
 if(read s).2.1≠0 then(0,0,(((read s).2.1:Nat):Int),(((read s).2.2:Nat):Int)) else
 ((q2x E F (read s).1 mode).1,(q2x E F (read s).1 mode).2.1,(((q2x E F (read s).1 mode).2.2:Nat):Int),0)
def qcW(o:Nat × Nat × Int × Int)(w:qc)(e:Ending)(w':qc):Prop:=
 ∃v,e=.returned (.tuple #[.int .u64 (o.1:Int),.int .u8 (o.2.1:Int),v])/\q6M w.heap.size w' v o.2.2.1 o.2.2.2/\qh w.heap.size w w'
theorem q6M.some(h:q6M n0 w v c a)(hc:c≠0):∃x,v=.iface 112 x:=by
 rcases h with h|⟨h,b,d,e,-⟩
 ·exact absurd h.1 hc
 ·exact⟨_,e⟩
theorem qa0(E F:Int)(s:ByteArray)(mode:Nat)(w:qc)(hf:R3.formOk E F=qf):qm qe 34 #[fm E F,.string s,.int .u8 (mode:Int)] w (qcW (0,0,5,0) w):=by
 have c:=vv fun w=>Fms.Check E F w
 rw[R3.chk_no hf] at c;obtain⟨i,b⟩:=yx (w.alloc (.cells #[.int .i64 E,.int .i64 F] 23));have f:Ctx w [(w.heap.size,23,[.int .i64 E,.int .i64 F])] i:=by rw[b];exact(Ctx.nil w).new _ _ rfl
 have j:=vv f;have k:=vv b;clear f b hf;go_enter func34,ntmps34;go_wp2_with fail;rw[<- k.o];go_wp2_with fail;refine(c.o _).mono ?_;rintro e m ⟨rfl,a⟩;have d:=vv (j.o.step a);clear a;go_wp2_with fail;refine(no_ 5 0 _).mono ?_;rintro e n ⟨v,rfl,g,a⟩;have h:=vv (d.o.step a);have l:=vv (g.mono (k06 d.o.low.size lr));clear a g;go_wp2;go_ret3;exact⟨v,rfl,l.o,h.o.low⟩
theorem q9Z(E F:Int)(s:ByteArray)(mode:Nat)(w:qc)(hf:R3.formOk E F=qj)(hm:4<mode):qm qe 34 #[fm E F,.string s,.int .u8 (mode:Int)] w (qcW (0,0,7,0) w):=by
 have c:=vv fun w=>Fms.Check E F w
 rw[R3.chk_ok hf] at c;obtain⟨i,b⟩:=yx (w.alloc (.cells #[.int .i64 E,.int .i64 F] 23));have f:Ctx w [(w.heap.size,23,[.int .i64 E,.int .i64 F])] i:=by rw[b];exact(Ctx.nil w).new _ _ rfl
 have j:=vv f;have k:=vv b;have m:(4:Int)<(mode:Int):=by omega
 clear f b hf hm;go_enter func34,ntmps34;go_wp2_with fail;rw[<- k.o];go_wp2_with fail;refine(c.o _).mono ?_;rintro e n ⟨rfl,a⟩;have d:=vv (j.o.step a);clear a;go_wp2_with fail;refine(no_ 7 0 _).mono ?_;rintro e p ⟨v,rfl,g,a⟩;have h:=vv (d.o.step a);have l:=vv (g.mono (k06 d.o.low.size lr));clear a g;go_wp2;go_ret3;exact⟨v,rfl,l.o,h.o.low⟩
theorem Bits(E F:Int)(s:ByteArray)(mode:Nat)(w:qc)(hg:Bg w)(ht:qfF w):qm qe 34 #[fm E F,.string s,.int .u8 (mode:Int)] w (qcW (q0U E F s mode) w):=by
 unfold q0U;by_cases hf:R3.formOk E F=qf
 ·rw[if_pos hf];exact qa0 E F s mode w hf
 rw[if_neg hf];have t:R3.formOk E F=qj:=by simpa using hf
 by_cases hm:4<mode
 ·rw[if_pos hm];exact q9Z E F s mode w t hm
 rw[if_neg hm];have H:=vv fun w=>Fms.Check E F w
 rw[R3.chk_ok t] at H;have u:=qar s;obtain⟨w0,z⟩:=yx (w.alloc (.cells #[.int .i64 E,.int .i64 F] 23));have P:Ctx w [(w.heap.size,23,[.int .i64 E,.int .i64 F])] w0:=by rw[z];exact(Ctx.nil w).new _ _ rfl
 have I:=vv fun w' (h:qh w.heap.size w w')=>qeY s w' (hg.below h) (ht.below h)
 have U:=vv fun(x:Num) A n c w' (h:qh w.heap.size w w') (f:Rd w' A n c (toL x.mant)) (hx:x.digits.length<=131074) =>Rea.Number E F x.kind x.neg x.dneg ⟨x.digits.toArray⟩ x.exp x.hneg A n c (toL x.mant) x.hexp x.payload mode w' f (by show((x.digits.toArray.size:Nat):Int)<=_;rw[k21];omega) (hg.below h).std
 obtain⟨r,f⟩:=yx (read s);rw[<- f] at I u ⊢;obtain⟨O,b⟩:∃O:Nat × Nat × Int × Int,O=if r.2.1≠0 then(0,0,((r.2.1:Nat):Int),((r.2.2:Nat):Int)) else((q2x E F r.1 mode).1,(q2x E F r.1 mode).2.1,(((q2x E F r.1 mode).2.2:Nat):Int),0):=⟨_,rfl⟩;rw[<- b];have Q:=vv b;clear b;have HC:=vv P;have HW:=vv z;have V:=vv u;have a0:(mode:Int)<=4:=by omega
 clear P z hf t hm hg ht f u;go_enter func34,ntmps34;go_wp2_with fail;rw[<- HW.o];go_wp2_with fail;refine(H.o _).mono ?_;rintro e w1 ⟨rfl,a⟩;have k:=vv (HC.o.step a);clear a;go_wp2_with fail;refine(I.o _ k.o.low).mono ?_;rintro e g (⟨j,A,m,c,rfl,q,a⟩|⟨j,v,rfl,i,a⟩)
 ·have d:=vv (k.o.step a);obtain⟨x,hx⟩:=yx (r.1);rw[<- hx] at q ⊢;have b:=Q.o;rw[if_neg (by rw[j];exact fun h=>h rfl),<- hx] at b;have J:qo (∀w',qh w.heap.size w w'->Rd w' A m c (toL x.mant)->qm qe 41 #[fm E F,.agg #[.int .u8 (x.kind:Int),.bool x.neg,.bool x.dneg,.string ⟨x.digits.toArray⟩,.int .i64 x.exp,.bool x.hneg,.slice A m c,.int .i64 x.hexp,.int .u64 (x.payload:Int)],.int .u8 (mode:Int)] w' (q2F (q1E E F x.kind x.neg x.dneg ⟨x.digits.toArray⟩ x.exp x.hneg m (toL x.mant) x.hexp x.payload mode) w')):=vv fun w' h f=>U.o x A m c w' h f (by rw[hx];exact V.o)
  rw[show Scn.numV x A m c=.agg #[.int .u8 (x.kind:Int),.bool x.neg,.bool x.dneg,.string ⟨x.digits.toArray⟩,.int .i64 x.exp,.bool x.hneg,.slice A m c,.int .i64 x.hexp,.int .u64 (x.payload:Int)] from rfl];have K:m=(toL x.mant).length:=q.len.symm;obtain⟨o,D⟩:=yx (q2x E F x mode);rw[<- D] at b;subst b;have L:q1E E F x.kind x.neg x.dneg ⟨x.digits.toArray⟩ x.exp x.hneg m (toL x.mant) x.hexp x.payload mode=o:=by rw[D,K];rfl
  rw[L] at J;obtain⟨g4,C⟩:=yx (g.heap.size);obtain⟨R,l⟩:=yx (g.alloc (.cells #[.int .u8 (x.kind:Int),.bool x.neg,.bool x.dneg,.string ⟨x.digits.toArray⟩,.int .i64 x.exp,.bool x.hneg,.slice A m c,.int .i64 x.hexp,.int .u64 (x.payload:Int)] 92));have M:qh g.heap.size g R:=by rw[l];exact(qk _ _).alloc lr _
  have p:qo (Ctx w [(g4,92,[.int .u8 (x.kind:Int),.bool x.neg,.bool x.dneg,.string ⟨x.digits.toArray⟩,.int .i64 x.exp,.bool x.hneg,.slice A m c,.int .i64 x.hexp,.int .u64 (x.payload:Int)]),(w.heap.size,23,[.int .i64 E,.int .i64 F])] R):=vv (by rw[l];exact d.o.new _ _ C);have W:=vv (q.below M rfl);have X:=vv (And.intro l C);clear j hx q a M l C K D L;have S:=(d.o.get 0 rfl).cell 0;have T:=(d.o.get 0 rfl).cell 1;have cl:=(d.o.get 0 rfl).lt;simp only[k07,k0c] at S T;go_wp2_with fail;rw[<- X.o.1];refine(J.o _ p.o.low W.o).mono ?_;rintro e w4 ⟨rfl,a⟩;have N:=vv (p.o.step a);clear a S T cl;go_wp2_with fail;refine(no_ _ 0 _).mono ?_;rintro e w5 ⟨v,rfl,i,a⟩;have Y:=vv (N.o.step a);have G:=vv (i.mono (k06 N.o.low.size lr));clear a i;go_wp2;go_ret3;exact⟨v,rfl,G.o,Y.o.low⟩
 ·have d:=vv (k.o.step a);have b:=Q.o;rw[if_pos j] at b;subst b;obtain⟨y,hy⟩:=i.some (by omega);rw[show Scn.numV Num.none_ qa 0 0=.agg #[.int .u8 0,.bool qf,.bool qf,.string ⟨#[]⟩,.int .i64 0,.bool qf,.slice qa 0 0,.int .i64 0,.int .u64 0] from rfl];have G:=vv (i.mono (k06 k.o.low.size lr));subst hy;have p:=vv (d.o.low.alloc d.o.low.size (.cells #[.int .u8 0,.bool qf,.bool qf,.string ⟨#[]⟩,.int .i64 0,.bool qf,.slice qa 0 0,.int .i64 0,.int .u64 0] 92));have Z:=vv (G.o.below ((qk g.heap.size g).alloc (o:=.cells #[.int .u8 0,.bool qf,.bool qf,.string ⟨#[]⟩,.int .i64 0,.bool qf,.slice qa 0 0,.int .i64 0,.int .u64 0] 92) lr));clear j i a;go_wp2;go_ret3;exact⟨_,rfl,Z.o,p.o⟩
end Rdx
namespace Dlx
open Go Go.RowKit Go.Proofs.YthopehoklmgphaaGreatDoor Scn R5 Rdx
theorem at_(c:Int)(w:qc):qm qe 46 #[.int .i64 c] w fun e w'=>e=.returned (.agg #[.int .i64 c,.int .i64 0])/\qh w.heap.size w w':=by go_enter func46,ntmps46;go_wp2;exact qi (v:=.agg #[.int .i64 c,.int .i64 0]) (by simp [results,results46,go_sem]) rfl ⟨rfl,(qk _ _).alloc lr _⟩
def qcX(o:Nat × Nat × Int × Int)(w:qc)(e:Ending)(w':qc):Prop:=
 e=.returned (.tuple #[.int .u64 (o.1:Int),.int .u8 (o.2.1:Int),.agg #[.int .i64 o.2.2.1,.int .i64 o.2.2.2]])/\qh w.heap.size w w'
theorem Bits(E F:Int)(s:ByteArray)(mode:Nat)(w:qc)(hg:Bg w):qm qe 37 #[fm E F,.string s,.int .u8 (mode:Int)] w (qcX (q0U E F s mode) w):=by
 obtain⟨w0,V⟩:=yx ((w.alloc (.cells #[.int .i64 E,.int .i64 F] 23)).alloc (.cells #[.int .i64 0,.int .i64 0] 80));have hC:Ctx w [(w.heap.size+1,80,[.int .i64 0,.int .i64 0]),(w.heap.size,23,[.int .i64 E,.int .i64 F])] w0:=by rw[V];exact((Ctx.nil w).new _ _ rfl).new _ _ (by simp)
 have W:(w.alloc (.cells #[.int .i64 E,.int .i64 F] 23)).heap.size=w.heap.size+1:=by simp
 have a1:qo (∀(m l:List qn) (t u:TypeId),∀j x,j≠0->[(w.heap.size+1,t,m),(w.heap.size,u,l)][j]?=qb x->x.1≠w.heap.size+1):=vv (fun m l t u=>(q47 (bs:=[(w.heap.size+1,t,m),(w.heap.size,u,l)]) rfl (by omega)).2);have f:=vv hC;have HW:=vv V;have HG:=vv hg;have X:=vv fun(c:Int) (w':qc)=>at_ c w'
 have P:=vv fun w'=>R3.Check E F w'
 clear hC V hg;by_cases hf:R3.formOk E F=qf
 ·have O:qo (q0U E F s mode=(0,0,5,0)):=vv (by unfold q0U;rw[if_pos hf]);rw[R3.chk_no hf] at P;rw[O.o];clear hf;go_enter func37,ntmps37;go_wp2_with fail;rw[<- HW.o];clear W;have k:=(f.o.get 1 rfl).cell 0;have p:=(f.o.get 1 rfl).cell 1;have K:=(f.o.get 1 rfl).lt;simp only[k07,k0c] at k p;go_wp2_with fail;refine(P.o _).mono ?_;rintro e w1 ⟨rfl,a⟩;have N:=vv (f.o.step a);clear a k p K;go_wp2_with fail;refine(X.o 5 _).mono ?_;rintro e I ⟨rfl,a⟩;have H:=vv (N.o.step a);clear a;have b:=H.o.get 0 rfl;go_wp2_with (with_reducible refine q05 rfl 80 (.tmp 8) (.tmp 17) rfl (w.heap.size+1) [.int .i64 5,.int .i64 0] rfl rfl 80 _ b (by kernel_rfl) rfl rfl ?_);intro w9 a g;have i:=vv (H.o.put 0 rfl (a1.o _ _ _ _) (k1s _) a g);clear a g b;go_wp2;have z:=i.o.get 0 rfl;have C:=z.cell 0;have D:=z.cell 1;simp only[k07,k0c] at C D;exact qi (v:=.tuple #[.int .u64 0,.int .u8 0,.agg #[.int .i64 5,.int .i64 0]]) (by simp [results,results37,go_sem,C,D]) rfl ⟨rfl,i.o.low⟩
 have Y:R3.formOk E F=qj:=by simpa using hf
 rw[R3.chk_ok Y] at P;by_cases hm:4<mode
 ·have O:qo (q0U E F s mode=(0,0,7,0)):=vv (by unfold q0U;rw[if_neg hf,if_pos hm]);rw[O.o];have b0:(4:Int)<(mode:Int):=by omega
  clear hf Y hm;go_enter func37,ntmps37;go_wp2_with fail;rw[<- HW.o];clear W;have k:=(f.o.get 1 rfl).cell 0;have p:=(f.o.get 1 rfl).cell 1;have K:=(f.o.get 1 rfl).lt;simp only[k07,k0c] at k p;go_wp2_with fail;refine(P.o _).mono ?_;rintro e w1 ⟨rfl,a⟩;have N:=vv (f.o.step a);clear a k p K;go_wp2_with fail;refine(X.o 7 _).mono ?_;rintro e I ⟨rfl,a⟩;have H:=vv (N.o.step a);clear a;have b:=H.o.get 0 rfl;go_wp2_with (with_reducible refine q05 rfl 80 (.tmp 8) (.tmp 20) rfl (w.heap.size+1) [.int .i64 7,.int .i64 0] rfl rfl 80 _ b (by kernel_rfl) rfl rfl ?_);intro w9 a g;have i:=vv (H.o.put 0 rfl (a1.o _ _ _ _) (k1s _) a g);clear a g b;go_wp2;have z:=i.o.get 0 rfl;have C:=z.cell 0;have D:=z.cell 1;simp only[k07,k0c] at C D;exact qi (v:=.tuple #[.int .u64 0,.int .u8 0,.agg #[.int .i64 7,.int .i64 0]]) (by simp [results,results37,go_sem,C,D]) rfl ⟨rfl,i.o.low⟩
 obtain⟨r,L⟩:=yx (Scn.read s);have O:qo (q0U E F s mode=if r.2.1≠0 then(0,0,((r.2.1:Nat):Int),((r.2.2:Nat):Int)) else((q2x E F r.1 mode).1,(q2x E F r.1 mode).2.1,(((q2x E F r.1 mode).2.2:Nat):Int),0)):=vv (by unfold q0U;rw[if_neg hf,if_neg hm,<- L]);have a2:=vv fun w' (h:qh w.heap.size w w')=>Read s w' (HG.o.below h)
 rw[<- L] at a2;have b1:=vv fun(x:Num) A n c w' (h:qh w.heap.size w w') (L:Rd w' A n c (toL x.mant)) =>R16.Number E F x.kind x.neg x.dneg ⟨x.digits.toArray⟩ x.exp x.hneg A n c (toL x.mant) x.hexp x.payload mode w' L (HG.o.below h).std
 have b0:(mode:Int)<=4:=by omega
 clear hf Y hm L;go_enter func37,ntmps37;go_wp2_with fail;rw[<- HW.o];clear W;have k:=(f.o.get 1 rfl).cell 0;have p:=(f.o.get 1 rfl).cell 1;have K:=(f.o.get 1 rfl).lt;simp only[k07,k0c] at k p;go_wp2_with fail;refine(P.o _).mono ?_;rintro e w1 ⟨rfl,a⟩;have N:=vv (f.o.step a);clear a k p K;go_wp2_with fail;refine(a2.o _ N.o.low).mono ?_;rintro e I ⟨x,A,m,c,he,a,hv⟩;rw[show Scn.numV x A m c=.agg #[.int .u8 (x.kind:Int),.bool x.neg,.bool x.dneg,.string ⟨x.digits.toArray⟩,.int .i64 x.exp,.bool x.hneg,.slice A m c,.int .i64 x.hexp,.int .u64 (x.payload:Int)] from rfl] at he;subst he;have H:=vv (N.o.step a);have HV:=vv hv;clear a hv;obtain⟨q,b⟩:=yx (I.heap.size);obtain⟨w3,R⟩:=yx ((I.alloc (.cells #[.int .u8 (x.kind:Int),.bool x.neg,.bool x.dneg,.string ⟨x.digits.toArray⟩,.int .i64 x.exp,.bool x.hneg,.slice A m c,.int .i64 x.hexp,.int .u64 (x.payload:Int)] 92)).alloc (.cells #[.int .i64 (r.2.1:Int),.int .i64 (r.2.2:Int)] 80));have Z:(I.alloc (.cells #[.int .u8 (x.kind:Int),.bool x.neg,.bool x.dneg,.string ⟨x.digits.toArray⟩,.int .i64 x.exp,.bool x.hneg,.slice A m c,.int .i64 x.hexp,.int .u64 (x.payload:Int)] 92)).heap.size=q+1:=by rw[b];simp
 have G:qo (Ctx w [(q+1,80,[.int .i64 (r.2.1:Int),.int .i64 (r.2.2:Int)]),(q,92,[.int .u8 (x.kind:Int),.bool x.neg,.bool x.dneg,.string ⟨x.digits.toArray⟩,.int .i64 x.exp,.bool x.hneg,.slice A m c,.int .i64 x.hexp,.int .u64 (x.payload:Int)]),(w.heap.size+1,80,[.int .i64 0,.int .i64 0]),(w.heap.size,23,[.int .i64 E,.int .i64 F])] w3):=vv (by rw[R];exact(H.o.new _ _ b).new _ _ Z.symm);have a3:qh I.heap.size I w3:=by rw[R];exact((qk _ _).alloc lr _).alloc (by simp) _
 have b2:qo (r.2.1=0->x=r.1/\Rd w3 A m c (toL r.1.mant)):=vv (fun h=>⟨(HV.o h).1,(HV.o h).2.below a3 rfl⟩);have HQ:qo (w.heap.size+1<q):=vv (by rw[b];exact(H.o.get 0 rfl).lt);have a4:=vv R;have b6:=vv b;have a5:I.heap.size=q:=b.symm;clear R a3 b;have a0:qo (∀j y,j≠2->[(q+1,80,[Value.int .i64 (r.2.1:Int),.int .i64 (r.2.2:Int)]),(q,92,[.int .u8 (x.kind:Int),.bool x.neg,.bool x.dneg,.string ⟨x.digits.toArray⟩,.int .i64 x.exp,.bool x.hneg,.slice A m c,.int .i64 x.hexp,.int .u64 (x.payload:Int)]),(w.heap.size+1,80,[.int .i64 0,.int .i64 0]),(w.heap.size,23,[.int .i64 E,.int .i64 F])][j]?=qb y->y.1≠w.heap.size+1):=vv (by
  have:=HQ.o;intro j y hj M
  match j,hj,M with
  | 0,_,M=>cases M;show q+1≠w.heap.size+1;omega
  | 1,_,M=>cases M;show q≠w.heap.size+1;omega
  | 3,_,M=>cases M;show w.heap.size≠w.heap.size+1;omega)
 have T:=(G.o.get 0 rfl).cell 0;have U:=(G.o.get 0 rfl).cell 1;have fl:=(G.o.get 0 rfl).lt;simp only[k07,k0c] at T U;by_cases hz:r.2.1=0
 ·obtain⟨hx,S⟩:=b2.o hz;have J:=O.o;rw[if_neg (fun h=>h hz),<- hx] at J;rw[<- hx] at S;have a6:m=(toL x.mant).length:=S.len.symm;obtain⟨o,ho⟩:=yx (q2x E F x mode);rw[<- ho] at J;have a7:q1E E F x.kind x.neg x.dneg ⟨x.digits.toArray⟩ x.exp x.hneg m (toL x.mant) x.hexp x.payload mode=o:=by rw[ho,a6];rfl
  have b3:qo (∀w',qh w.heap.size w w'->Rd w' A m c (toL x.mant)->qm qe 48 #[fm E F,.agg #[.int .u8 (x.kind:Int),.bool x.neg,.bool x.dneg,.string ⟨x.digits.toArray⟩,.int .i64 x.exp,.bool x.hneg,.slice A m c,.int .i64 x.hexp,.int .u64 (x.payload:Int)],.int .u8 (mode:Int)] w' (q2F o w')):=vv (fun w' h L=>by have:=b1.o x A m c w' h L;rw[a7] at this;exact this);have a8:(r.2.1:Int)=0:=by omega
  have t0:((r.2.1:Int) != 0)=qf:=by rw[a8];rfl
  have b4:=vv S;have HO:=vv J;clear hz hx S a6 ho a7 J a8;have k:=(G.o.get 3 rfl).cell 0;have p:=(G.o.get 3 rfl).cell 1;have K:=(G.o.get 3 rfl).lt;simp only[k07,k0c] at k p;have a9:=G.o.get 1 rfl;go_wp2_with (first|rw[<- a4.o]|with_reducible refine q0O rfl 92 (.tmp 9) rfl q rfl 92 _ _ a9 underlying92 rfl (by kernel_rfl) ?_);refine(b3.o _ G.o.low b4.o).mono ?_;rintro e w4 ⟨rfl,a⟩;have b5:=vv (G.o.step a);clear a k p K T U fl a9 t0 a5 Z;go_wp2_with fail;refine(X.o _ _).mono ?_;rintro e w5 ⟨rfl,a⟩;have Q:=vv (b5.o.step a);clear a;have b:=Q.o.get 2 rfl;go_wp2_with (with_reducible refine q05 rfl 80 (.tmp 8) (.tmp 41) rfl (w.heap.size+1) [.int .i64 (o.2.2:Int),.int .i64 0] rfl rfl 80 _ b (by kernel_rfl) rfl rfl ?_);intro w9 a g;have i:=vv (Q.o.put 2 rfl a0.o (k1s _) a g);clear a g b;go_wp2;have z:=i.o.get 2 rfl;have C:=z.cell 0;have D:=z.cell 1;simp only[k07,k0c] at C D;exact qi (v:=.tuple #[.int .u64 (o.1:Int),.int .u8 (o.2.1:Int),.agg #[.int .i64 (o.2.2:Int),.int .i64 0]]) (by simp [results,results37,go_sem,C,D]) rfl (by unfold qcX;rw[HO.o];exact⟨rfl,i.o.low⟩)
 ·have J:=O.o;rw[if_pos hz] at J;have t0:((r.2.1:Int) != 0)=qj:=by rw[k1r];omega
  have HO:=vv J;clear hz J;go_wp2_with (first|rw[<- a4.o]|fail);refine q02 (fun w'=>w'.cell? ⟨q+1,0,qa⟩=qb (.int .i64 (r.2.1:Int))/\w'.cell? ⟨q+1,1,qa⟩=qb (.int .i64 (r.2.2:Int))) 3
   (.still 0 (.still 1 (.still 2 .done))) (by kernel_rfl) (by kernel_rfl) (fun _ _ d _ _ h=>by cases d<;>exact h) ⟨T,U⟩ (fun hS0=>?_)
  iterate 3
   refine q01 (v:=?_) rfl (by rfl) ?_ ?_;rotate_left
   ·intro w b7;go_simp;with_reducible rfl
   simp only[Act.put,sa,sb,sc]
  refine q0a ?_;simp only[k0P,k0L];have Q:=vv G.o.drew;clear T U fl hS0 t0 a5 Z;have b:=Q.o.get 2 rfl;go_wp2_with (with_reducible refine q05 rfl 80 (.tmp 8) (.tmp 29) rfl (w.heap.size+1) [.int .i64 (r.2.1:Int),.int .i64 (r.2.2:Int)] rfl rfl 80 _ b (by kernel_rfl) rfl rfl ?_);intro w9 a g;have i:=vv (Q.o.put 2 rfl a0.o (k1s _) a g);clear a g b;go_wp2;have z:=i.o.get 2 rfl;have C:=z.cell 0;have D:=z.cell 1;simp only[k07,k0c] at C D;exact qi (v:=.tuple #[.int .u64 0,.int .u8 0,.agg #[.int .i64 (r.2.1:Int),.int .i64 (r.2.2:Int)]]) (by simp [results,results37,go_sem,C,D]) rfl (by unfold qcX;rw[HO.o];exact⟨rfl,i.o.low⟩)
end Dlx
namespace Str
open Go Go.RowKit R5 Scn Hx Rdx
abbrev q8V:ByteArray:=⟨#[43,45,46,95,40,41]⟩
def q2L(c:Nat):Bool:=(qd (97<=c) && qd (c<=122)) || (qd (65<=c) && qd (c<=90)) || (qd (48<=c) && qd (c<=57)) || decide (127<c) || decide (0<=Lib.indexByte q8V.data.toList c.toUInt8)
theorem qaw(c:Nat)(w:qc)(hh:(48<=c/\c<=57)\/(65<=c/\c<=90)\/(97<=c/\c<=122)\/(127<c)):qm qe 26 #[.int .u8 (c:Int)] w fun e w'=>e=.returned (.bool qj)/\w=w':=by
 rcases hh with h|h|h|h;all_goals
  first
   | have a:(97:Int)<=(c:Int):=by omega
   | have a:¬(97:Int)<=(c:Int):=by omega
  first
   | have b:(c:Int)<=122:=by omega
   | have b:¬(c:Int)<=122:=by omega
  first
   | have d:(65:Int)<=(c:Int):=by omega
   | have d:¬(65:Int)<=(c:Int):=by omega
  first
   | have f:(c:Int)<=90:=by omega
   | have f:¬(c:Int)<=90:=by omega
  first
   | have g:(48:Int)<=(c:Int):=by omega
   | have g:¬(48:Int)<=(c:Int):=by omega
  first
   | have i:(c:Int)<=57:=by omega
   | have i:¬(c:Int)<=57:=by omega
  first
   | have j:(127:Int)<(c:Int):=by omega
   | have j:¬(127:Int)<(c:Int):=by omega
  clear h;go_enter func26,ntmps26;go_wp2;go_ret;exact⟨rfl,rfl⟩
theorem qc8(c:Nat)(w:qc)(hh:(c<=47)\/(58<=c/\c<=64)\/(91<=c/\c<=96)\/(123<=c/\c<=127)):qm qe 26 #[.int .u8 (c:Int)] w fun e w'=>e=.returned (.bool (qd (0<=Lib.indexByte q8V.data.toList c.toUInt8)))/\w=w':=by
 have a:=Tryz.strings_IndexByte q8V (c:Int) w;rw[k20] at a;obtain⟨k,b⟩:=yx (Lib.indexByte q8V.data.toList c.toUInt8);rw[<- b] at a;have d:=vv a;rw[<- b];clear b a;rcases hh with h|h|h|h;all_goals
  first
   | have f:(97:Int)<=(c:Int):=by omega
   | have f:¬(97:Int)<=(c:Int):=by omega
  first
   | have g:(c:Int)<=122:=by omega
   | have g:¬(c:Int)<=122:=by omega
  first
   | have i:(65:Int)<=(c:Int):=by omega
   | have i:¬(65:Int)<=(c:Int):=by omega
  first
   | have j:(c:Int)<=90:=by omega
   | have j:¬(c:Int)<=90:=by omega
  first
   | have l:(48:Int)<=(c:Int):=by omega
   | have l:¬(48:Int)<=(c:Int):=by omega
  first
   | have m:(c:Int)<=57:=by omega
   | have m:¬(c:Int)<=57:=by omega
  first
   | have n:(127:Int)<(c:Int):=by omega
   | have n:¬(127:Int)<(c:Int):=by omega
  clear h;go_enter func26,ntmps26;go_wp2_with fail;refine d.o.mono ?_;rintro e w' ⟨rfl,rfl⟩;go_wp2;go_ret;exact⟨rfl,rfl⟩
theorem qf2(c:Nat)(w:qc)(hc:c<256):qm qe 26 #[.int .u8 (c:Int)] w fun e w'=>e=.returned (.bool (q2L c))/\w=w':=by
 by_cases hh:(48<=c/\c<=57)\/(65<=c/\c<=90)\/(97<=c/\c<=122)\/(127<c)
 ·have e:q2L c=qj:=by unfold q2L;simp only[k1z,k0C,k0I];omega
  rw[e];exact qaw c w hh
 ·have e:q2L c=qd (0<=Lib.indexByte q8V.data.toList c.toUInt8):=by
   have a:(qd (97<=c) && qd (c<=122))=qf:=by rw[k2e,k0A,k0A];omega
   have b:(qd (65<=c) && qd (c<=90))=qf:=by rw[k2e,k0A,k0A];omega
   have d:(qd (48<=c) && qd (c<=57))=qf:=by rw[k2e,k0A,k0A];omega
   have f:qd (127<c)=qf:=k00 (by omega);unfold q2L;rw[a,b,d,f];rfl
  rw[e];exact qc8 c w (by omega)
def q77(s:ByteArray):Bool:=qd (s.size<=16) && s.data.toList.all (fun b=>!q2L b.toNat)
theorem q94{s:ByteArray}(h:∀j (hj:j<s.size),q2L s[j].toNat=qf):q77 s=qd (s.size<=16):=by
 have e:s.data.toList.all (fun b=>!q2L b.toNat)=qj:=by rw[k1W];intro b a;obtain⟨j,hj,rfl⟩:=k2H a;have:=h j (by simpa using hj);have c:s.data.toList[j]=s[j]'(by simpa using hj):=rfl;rw[c,this];rfl
 unfold q77;rw[e,Bool.and_true]
theorem q93{s:ByteArray}(hk:k<s.size)(e:q2L s[k].toNat=qj):q77 s=qf:=by
 have a:s.data.toList.all (fun b=>!q2L b.toNat)=qf:=by rw[List.all_eq_false];exact⟨s[k],k1D (by simpa using hk),by rw[e];decide⟩
 unfold q77;rw[a,Bool.and_false]
theorem may(s:ByteArray)(w:qc)(hsz:s.size<=140737488351232):qm qe 16 #[.string s] w fun e w'=>e=.returned (.bool (q77 s))/\w=w':=by
 have n:(s.size:Int)<=140737488351232:=by omega
 clear hsz;go_enter func16,ntmps16;go_wp2;go_loop [6] (fun t=>∃k:Nat,k<=s.size/\t=.int .i64 k/\(∀j (h:j<s.size),j<k->q2L s[j].toNat=qf)) (fun t=>s.size-(intOf t).toNat)
 case atStart=>exact⟨0,k0d _,rfl,fun j _ h=>absurd h (by omega)⟩
 case round =>
  obtain⟨k,i,rfl,c⟩:=hrel;have d:=vv c;clear c;by_cases hks:k<s.size
  ·have a:=vv (qf2 s[k].toNat w (k1q _));cases hb:q2L s[k].toNat with
   | false =>
    rw[hb] at a;have l:=vv hb;clear hb;go_wp2_with fail;refine a.o.mono ?_;rintro e w' ⟨rfl,rfl⟩;go_wp2;go_round
    case rel =>
     refine⟨k+1,by omega,by go_num,fun j h hj=>?_⟩;rcases(by omega:j<k\/j=k) with h|rfl
     ·exact d.o j _ h
     ·exact l.o
    case measure=>simp [intOf];omega
   | true =>rw[hb] at a;have m:=vv (q93 hks hb);clear hb;go_wp2_with fail;refine a.o.mono ?_;rintro e w' ⟨rfl,rfl⟩;go_wp2;go_ret;exact⟨q1L m.o.symm,rfl⟩
  ·have f:k=s.size:=by omega
   subst f;have b:qo (q77 s=qd (s.size<=16)):=vv (q94 (fun j h=>d.o j h h));clear i hks;by_cases h16:s.size<=16
   ·have g:(s.size:Int)<=16:=by omega
    rw[k03 h16] at b;clear h16;go_wp2;go_ret;exact⟨q1L b.o.symm,rfl⟩
   ·have g:¬(s.size:Int)<=16:=by omega
    rw[k00 h16] at b;clear h16;go_wp2;go_ret;exact⟨q1L b.o.symm,rfl⟩
abbrev q0S:ByteArray:=⟨#[32,9,10,13]⟩
def q3q(E F:Int)(mode:Nat)(seps:ByteArray)(at_:Nat)(tok:Option qp)(ended made:Bool):List qn:=
 [.int .i64 E,.int .i64 F,.int .u8 (mode:Int),.string seps,.int .i64 (at_:Int),.pointer tok,.bool ended,.bool made]
def q0R(E F:Int)(mode:Nat)(sep:ByteArray):Nat:=if R3.formOk E F=qf then 5 else if 4<mode then 7 else if q77 sep=qf then 2 else 0
def qfj(E F:Int)(mode:Nat)(sep:ByteArray)(w:qc)(e:Ending)(w':qc):Prop:=
 qh w.heap.size w w'/\((q0R E F mode sep≠0/\e=.returned (.tuple #[.pointer qa,.int .i64 (q0R E F mode sep:Int)])) \/
  (q0R E F mode sep=0/\∃g,e=.returned (.tuple #[.pointer (qb ⟨g,0,qa⟩),.int .i64 0])/\w.heap.size<=g/\Blk w' g 35 (q3q E F mode (q0S++sep) 0 qa qf qj)))
theorem New(E F:Int)(mode:Nat)(sep:ByteArray)(w:qc)(hsz:sep.size<=140737488351232):qm qe 5 #[fm E F,.int .u8 (mode:Int),.string sep] w (qfj E F mode sep w):=by
 have d:=vv fun w=>Fms.Check E F w
 have f:=vv fun w=>may sep w hsz
 obtain⟨n,i⟩:=yx (w.alloc (.cells #[.int .i64 E,.int .i64 F] 23));have l:Ctx w [(w.heap.size,23,[.int .i64 E,.int .i64 F])] n:=by rw[i];exact(Ctx.nil w).new _ _ rfl
 have g:=vv l;have h:=vv i;clear l i hsz;by_cases hf:R3.formOk E F=qf
 ·have c:qo (q0R E F mode sep=5):=vv (by unfold q0R;rw[if_pos hf]);rw[R3.chk_no hf] at d;clear hf;go_enter func5,ntmps5;go_wp2_with fail;rw[<- h.o];go_wp2_with fail;refine(d.o _).mono ?_;rintro e j ⟨rfl,b⟩;have a:=vv (g.o.step b);clear b;go_wp2;go_ret2;exact⟨a.o.low,.inl ⟨by rw[c.o];decide,by rw[c.o];rfl⟩⟩
 rw[R3.chk_ok (by simpa using hf)] at d;by_cases hm:4<mode
 ·have c:qo (q0R E F mode sep=7):=vv (by unfold q0R;rw[if_neg hf,if_pos hm]);have m:(4:Int)<(mode:Int):=by omega
  clear hf hm;go_enter func5,ntmps5;go_wp2_with fail;rw[<- h.o];go_wp2_with fail;refine(d.o _).mono ?_;rintro e j ⟨rfl,b⟩;have a:=vv (g.o.step b);clear b;go_wp2;go_ret2;exact⟨a.o.low,.inl ⟨by rw[c.o];decide,by rw[c.o];rfl⟩⟩
 have m:(mode:Int)<=4:=by omega
 cases hy:q77 sep with
 | false =>have c:qo (q0R E F mode sep=2):=vv (by unfold q0R;rw[if_neg hf,if_neg hm,if_pos hy]);rw[hy] at f;clear hf hm hy;go_enter func5,ntmps5;go_wp2_with fail;rw[<- h.o];go_wp2_with fail;refine(d.o _).mono ?_;rintro e j ⟨rfl,b⟩;have a:=vv (g.o.step b);clear b;go_wp2_with fail;refine(f.o _).mono ?_;rintro e p ⟨rfl,rfl⟩;go_wp2;go_ret2;exact⟨a.o.low,.inl ⟨by rw[c.o];decide,by rw[c.o];rfl⟩⟩
 | true =>
  have c:qo (q0R E F mode sep=0):=vv (by unfold q0R;rw[if_neg hf,if_neg hm,if_neg (by rw[hy];decide)]);rw[hy] at f;have s:sep.size<=16:=by unfold q77 at hy;rw[k0C,k0I] at hy;exact hy.1
  have t:(sep.size:Int)<=16:=by omega
  clear hf hm hy;go_enter func5,ntmps5;go_wp2_with fail;rw[<- h.o];go_wp2_with fail;refine(d.o _).mono ?_;rintro e j ⟨rfl,b⟩;have a:=vv (g.o.step b);clear b;have q:=(a.o.get 0 rfl).cell 0;have r:=(a.o.get 0 rfl).cell 1;have u:=(a.o.get 0 rfl).lt;simp only[k07,k0c] at q r;have k:=vv (a.o.new 35 (q3q E F mode (q0S++sep) 0 qa qf qj) rfl);go_wp2_with fail;refine(f.o _).mono ?_;rintro e p ⟨rfl,rfl⟩;go_wp2;go_ret2;exact⟨k.o.low,.inr ⟨c.o,_,rfl,a.o.low.size,k.o.get 0 rfl⟩⟩
structure RdrC(w:qc)(g:Nat)(E F:Int)(mode:Nat)(seps:ByteArray)(at_:Nat)(tok:Option qp)(ended made:Bool):Prop where
 c0:w.cell? ⟨g,0,qa⟩=qb (.int .i64 E)
 c1:w.cell? ⟨g,1,qa⟩=qb (.int .i64 F)
 c2:w.cell? ⟨g,2,qa⟩=qb (.int .u8 (mode:Int))
 c3:w.cell? ⟨g,3,qa⟩=qb (.string seps)
 c4:w.cell? ⟨g,4,qa⟩=qb (.int .i64 (at_:Int))
 c5:w.cell? ⟨g,5,qa⟩=qb (.pointer tok)
 c6:w.cell? ⟨g,6,qa⟩=qb (.bool ended)
 c7:w.cell? ⟨g,7,qa⟩=qb (.bool made)
theorem q4D{E F:Int}{mode:Nat}{seps:ByteArray}{at_:Nat}{tok:Option qp}{ended made:Bool}
  (h:Blk w g 35 (q3q E F mode seps at_ tok ended made)):RdrC w g E F mode seps at_ tok ended made:=
 ⟨h.cell 0,h.cell 1,h.cell 2,h.cell 3,h.cell 4,h.cell 5,h.cell 6,h.cell 7⟩
def q9S(w:qc)(lo:Nat)(T:Option qp):Option (List Nat × Nat)->Prop
 | none=>T=qa
 | some (L,first)=>∃b v,T=qb ⟨b,0,qa⟩/\lo<=b/\Blk w b 58 [v,.int .i64 (first:Int)]/\w.ownsRow lo 5 1 v L.length (u8s L)/\0<L.length/\∀x∈L,x<256
def q80:Option (List Nat × Nat)->Nat
 | none=>0
 | some (L,_)=>L.length
theorem q40{base:Nat}{L:List Nat}(h:w.ownsRow base 5 1 v n (u8s L)):∀W:qc,(Builtin.len_ #[56] 3 #[v]).run qe W=.ok (.int .i64 (n:Int)) W:=by obtain⟨A,c,rfl⟩:=q0E h;intro W;simp [Builtin.len_,go_sem,underlying56]
theorem there(g:Nat)(E F:Int)(mode:Nat)(seps:ByteArray)(at_:Nat)(tok:Option qp)(ended:Bool)(w:qc)
  (h:Blk w g 35 (q3q E F mode seps at_ tok ended qj)) :
  qm qe 23 #[.pointer (qb ⟨g,0,qa⟩)] w fun e w'=>e=.returned (.int .i64 (if ended then 240 else 0))/\w=w':=by
 have j:=h.lt;obtain⟨a,b,c,d,f,i,k,l⟩:=q4D h;clear h a b c d f i;cases ended with
 | false =>go_enter func23,ntmps23;go_wp2;go_ret;exact⟨rfl,rfl⟩
 | true =>go_enter func23,ntmps23;go_wp2;go_ret;exact⟨rfl,rfl⟩
theorem At(g:Nat)(E F:Int)(mode:Nat)(seps:ByteArray)(at_:Nat)(tok:Option qp)(ended:Bool)(w:qc)
  (h:Blk w g 35 (q3q E F mode seps at_ tok ended qj)) :
  qm qe 8 #[.pointer (qb ⟨g,0,qa⟩)] w fun e w'=>e=.returned (.int .i64 (at_:Int))/\w=w':=by
 have k:=h.lt;obtain⟨a,b,c,d,l,f,i,j⟩:=q4D h;clear h a b c d f i j;go_enter func8,ntmps8;go_wp2;go_ret;exact⟨rfl,rfl⟩
theorem Held(g lo:Nat)(E F:Int)(mode:Nat)(seps:ByteArray)(at_:Nat)(tok:Option qp)(ended:Bool)(tk:Option (List Nat × Nat))(w:qc)
  (h:Blk w g 35 (q3q E F mode seps at_ tok ended qj)) (ht:q9S w lo tok tk) :
  qm qe 10 #[.pointer (qb ⟨g,0,qa⟩)] w fun e w'=>e=.returned (.int .i64 (q80 tk:Int))/\w=w':=by
 have s:=h.lt;obtain⟨f,i,j,k,l,t,m,n⟩:=q4D h;clear h f i j k l m n;cases tk with
 | none =>subst ht;go_enter func10,ntmps10;go_wp2;go_ret;exact⟨rfl,rfl⟩
 | some x =>obtain⟨L,first⟩:=x;obtain⟨b,v,rfl,d,a,c,o,-⟩:=ht;have q:=a.lt;have p:=a.cell 0;simp only[k07] at p;have r:=q40 c;clear a c d o;go_enter func10,ntmps10;go_wp2;go_ret;exact⟨rfl,rfl⟩
theorem q4q{b:Nat}{t:TypeId}{m:List qn}(h:Blk w g s l)(k:Blk w b t m)(hst:s≠t):g≠b:=by rintro rfl;have e:=h.symm.trans k;injection e with e;injection e with _ e;exact hst e
theorem q3Z(h:Blk w g s l)(k:w.ownsRow lo e 1 v n xs)(hst:s≠e):v.ownBlock≠qb g:=by
 rcases k.2 with ⟨rfl,-⟩|⟨c,cap,b,rfl,-,a,-⟩
 ·simp [Value.ownBlock]
 ·simp only[Value.ownBlock];rintro e;injection e with e;subst e;have e:=h.symm.trans a;injection e with e;injection e with _ e;exact hst e
def q1i(E F:Int)(mode:Nat)(L:List Nat)(first:Nat):List qn:=
 if(q0U E F (txt L) mode).2.2.1=0 then[.int .u64 ((q0U E F (txt L) mode).1:Int),.int .u8 ((q0U E F (txt L) mode).2.1:Int),.int .i64 0,.int .i64 (first:Int),.int .i64 (L.length:Int)]
 else[.int .u64 0,.int .u8 0,.int .i64 (q0U E F (txt L) mode).2.2.1,.int .i64 (first:Int),.int .i64 (L.length:Int)]
theorem qdZ(w00:qc)(hg0:Bg w00)(ht0:qfF w00)(g b lo at_ first mode:Nat)(E F:Int)(seps:ByteArray)(ended:Bool)(L:List Nat)(v:qn)(w:qc)
  (hw:qh w00.heap.size w00 w) (hge:w00.heap.size<=g)
  (h:Blk w g 35 (q3q E F mode seps at_ (qb ⟨b,0,qa⟩) ended qj)) (hb:Blk w b 58 [v,.int .i64 (first:Int)])
  (hr:w.ownsRow lo 5 1 v L.length (u8s L)) (hL:∀x∈L,x<256) :
  qm qe 25 #[.pointer (qb ⟨g,0,qa⟩)] w fun e w'=>e=.returned (.agg (q1i E F mode L first).toArray)/\Blk w' g 35 (q3q E F mode seps at_ qa ended qj)/\w.grownBy w' (qb g):=by
 have hl:=h.lt;have b9:g≠b:=q4q h hb (by decide);have c0:=q3Z h hr (by decide);have c5:=(q4D h).c5;have f5:=h.fz 5;obtain⟨a,W⟩:=yx (w.setCell ⟨g,5,qa⟩ (.pointer qa));have hs:a.heap.size=w.heap.size:=by rw[W];simp
 have t:w.grownBy a (qb g):=by rw[W];exact q09 (qg _ _) (.inl rfl) _
 have u:Blk a g 35 (q3q E F mode seps at_ qa ended qj):=by rw[W];exact h.set 5 _
 have z:Blk a b 58 [v,.int .i64 (first:Int)]:=hb.grown t (fun e=>b9 (by injection e));have C:a.ownsRow lo 5 1 v L.length (u8s L):=hr.kept t (.inr c0);have N:qh w00.heap.size w00 a:=q0h hw t (by have:=hw.size;omega) hge;have a1:=vv fun(w':qc) (c:qh a.heap.size a w')=>Bits E F (txt L) mode w' (hg0.below (N.trans (c.mono N.size))) (ht0.below (N.trans (c.mono N.size)))
 have d8:=vv fun(w':qc) (c:qh a.heap.size a w')=>ht0.below (N.trans (c.mono N.size))
 have a2:qo (∀w',qh a.heap.size a w'->Blk w' g 35 (q3q E F mode seps at_ qa ended qj)/\w.grownBy w' (qb g)):=vv fun w' c =>⟨u.below c,c.os.trans t.os,c.tape.trans t.tape,c.output.trans t.output,k06 t.size c.size,fun k hk d9=>(c.block k (k01 hk t.size)).trans (t.block k hk d9)⟩
 have b2:=vv fun(w':qc) (c:qh a.heap.size a w')=>q4D (u.below c)
 have X:=vv fun(w':qc) (c:qh a.heap.size a w')=>z.below c
 have e0:=vv fun(w':qc) (c:qh a.heap.size a w')=>q0A C (fun q _ U=>c.block q U)
 have c1:b<a.heap.size:=z.lt;have c2:g<a.heap.size:=u.lt;have e3:=q40 C;obtain⟨w1,b3⟩:=yx (a.alloc (.cells #[.int .u64 0,.int .u8 0,.int .i64 0,.int .i64 0,.int .i64 0] 48));have hC:Ctx a [(w.heap.size,48,[.int .u64 0,.int .u8 0,.int .i64 0,.int .i64 0,.int .i64 0])] w1:=by rw[b3];exact(Ctx.nil a).new _ _ hs.symm
 have c3:=vv hC;have HW:=vv (And.intro W b3);have D:=vv hs;have HL:=vv (And.intro c1 c2);obtain⟨O,hO⟩:=yx (q0U E F (txt L) mode);have HI:qo (q1i E F mode L first=if O.2.2.1=0 then[.int .u64 (O.1:Int),.int .u8 (O.2.1:Int),.int .i64 0,.int .i64 (first:Int),.int .i64 (L.length:Int)]
  else[.int .u64 0,.int .u8 0,.int .i64 O.2.2.1,.int .i64 (first:Int),.int .i64 (L.length:Int)]):=vv (by rw[hO];rfl)
 rw[<- hO] at a1;have e4:=vv hL;clear hO c1 c2 hs u z C t N W b3 hC h hb hr hg0 ht0 hw hge b9 c0 hL;go_enter func25,ntmps25;go_wp2_with fail;clear c5 f5;rw[<- HW.o.1,<- HW.o.2];have n:=X.o _ c3.o.low;have i:=n.cell 0;have d1:=n.cell 1;have dl:=n.lt;simp only[k07,k0c] at i d1;clear n;refine q02 (fun w'=>w'.cell? ⟨b,0,qa⟩=qb v/\w'.cell? ⟨b,1,qa⟩=qb (.int .i64 (first:Int))) 11
  (.still 0 (.still 1 (.still 2 (.still 3 (.still 4 (.still 5 (.still 6 (.still 7 (.still 8 (.still 9 (.one 10 .done))))))))))) (by kernel_rfl) (by kernel_rfl) (fun _ _ d _ _ h=>by cases d<;>exact h) ⟨i,d1⟩ (fun hS0=>?_)
 iterate 10
  refine q01 (v:=?_) rfl (by rfl) ?_ ?_;rotate_left
  ·intro w c4;go_simp;with_reducible rfl
  simp only[Act.put,sa,sb,sc]
 have b4:=vv c3.o.drew;obtain⟨wd,Y⟩:=yx (w1.drew);rw[<- Y] at hS0 b4 ⊢;clear Y i d1 dl e3;refine q04 rfl (by rfl) (fun K l=>?_);go_simp;obtain⟨q,U⟩:=yx (wd.heap.size);obtain⟨we,b5⟩:=yx (wd.alloc (.cells #[.int .u64 0,.int .u8 0,.int .i64 0,.int .i64 0,.int .i64 0] 48));have b6:qo (Ctx a [(q,48,[.int .u64 0,.int .u8 0,.int .i64 0,.int .i64 0,.int .i64 0]),(w.heap.size,48,[.int .u64 0,.int .u8 0,.int .i64 0,.int .i64 0,.int .i64 0])] we):=vv (by rw[b5];exact b4.o.new _ _ U);have G:qo (w.heap.size<q):=vv (by rw[U];exact(b4.o.get 0 rfl).lt);rw[<- b5,<- U];clear b5 U;have n:=X.o _ b6.o.low;refine l.out _ _ ⟨n.cell 0,n.cell 1⟩ (fun Z=>?_);clear l hS0 n;refine q0a ?_;simp only[k0P,k0L];clear Z;have c6:=b6.o.get 0 rfl;go_wp2_with (with_reducible refine q05 rfl 48 (.tmp 4) (.tmp 25) rfl q [.int .u64 0,.int .u8 0,.int .i64 0,.int .i64 (first:Int),.int .i64 (L.length:Int)] rfl rfl 48 _ c6 (by kernel_rfl) rfl rfl ?_);intro w4 c7 c8;have a9:=vv (b6.o.put 0 rfl (by
  have:=G.o;intro j y hj H
  match j,hj,H with
  | 1,_,H=>cases H;show w.heap.size≠q;omega) (by have:=G.o;have:=D.o;omega) c7 c8)
 clear c7 c8 c6;have kr:=b2.o _ a9.o.low;obtain⟨I,J,M,-,-,-,-,-⟩:=kr;have n:=X.o _ a9.o.low;have i:=n.cell 0;have dl:=n.lt;have gl:=(a2.o _ a9.o.low).1.lt;simp only[k07] at i;clear n;go_wp2_with fail;refine q02 (fun w'=>w'.cell? ⟨g,0,qa⟩=qb (.int .i64 E)/\w'.cell? ⟨g,1,qa⟩=qb (.int .i64 F)/\w'.cell? ⟨g,2,qa⟩=qb (.int .u8 (mode:Int))/\w'.cell? ⟨b,0,qa⟩=qb v) 20
  (.still 0 (.still 1 (.still 2 (.still 3 (.still 4 (.still 5 (.still 6 (.still 7 (.still 9 (.still 10 (.still 11 (.still 12 (.one 8 (.one 13 (.still 14 (.still 15 (.still 16 (.still 17 (.still 18 (.still 19 .done)))))))))))))))))))) (by kernel_rfl) (by kernel_rfl) (fun _ _ d _ _ h=>by cases d<;>exact h) ⟨I,J,M,i⟩ (fun hS0=>?_)
 iterate 12
  refine q01 (v:=?_) rfl (by rfl) ?_ ?_;rotate_left
  ·intro w c4;go_simp;with_reducible rfl
  simp only[Act.put,sa,sb,sc]
 have P:=vv a9.o.drew;obtain⟨c9,Y⟩:=yx (w4.drew);rw[<- Y] at hS0 P ⊢;clear Y i dl gl I J M;have e5:=q2H (e0.o _ P.o.low) e4.o;refine q04 rfl (by rfl) (fun K l=>?_);go_simp;obtain⟨I,J,M,-,-,-,-,-⟩:=b2.o _ P.o.low;have i:=(X.o _ P.o.low).cell 0;simp only[k07] at i;refine l.out _ _ ⟨I,J,M,i⟩ (fun Z=>?_);clear l hS0 I J M i e5 Z;refine q04 rfl (by rfl) (fun K l=>?_);go_simp;refine(a1.o _ P.o.low).mono ?_;rintro e w5 ⟨x,rfl,hE,c⟩;have b0:=vv (P.o.step c);have e6:=vv hE;have e7:=vv c.size;clear hE c;obtain⟨I,J,M,-,-,-,-,-⟩:=b2.o _ b0.o.low;have i:=(X.o _ b0.o.low).cell 0;simp only[k07] at i;refine l.out _ _ ⟨I,J,M,i⟩ (fun Z=>?_);clear l I J M i
 iterate 6
  refine q01 (v:=?_) rfl (by rfl) ?_ ?_;rotate_left
  ·intro w c4;go_simp;with_reducible rfl
  simp only[Act.put,sa,sb,sc]
 refine q0a ?_;simp only[k0P,k0L];clear Z;go_wp2_with fail;obtain⟨r,a3⟩:=yx (w5.heap.size);obtain⟨w6,b1⟩:=yx (w5.alloc (.cells #[.pointer qa] 76));have S:qo (Ctx a [(r,76,[.pointer qa]),(q,48,[.int .u64 0,.int .u8 0,.int .i64 0,.int .i64 (first:Int),.int .i64 (L.length:Int)]),(w.heap.size,48,[.int .u64 0,.int .u8 0,.int .i64 0,.int .i64 0,.int .i64 0])] w6):=vv (by rw[b1];exact b0.o.new _ _ a3);have e8:=vv (e6.o.below (by rw[b1];exact(qk _ _).alloc lr _:qh w5.heap.size w5 w6));have HT:qo (q<r):=vv (by rw[a3];exact(b0.o.get 0 rfl).lt);have f2:qo (c9.heap.size<=r/\q<c9.heap.size):=vv ⟨by rw[a3];exact e7.o,(P.o.get 0 rfl).lt⟩;rw[<- b1,<- a3];clear b1 a3;have a7:∀j y,j≠0->[(r,76,[Value.pointer qa]),(q,48,[.int .u64 0,.int .u8 0,.int .i64 0,.int .i64 (first:Int),.int .i64 (L.length:Int)]),(w.heap.size,48,[.int .u64 0,.int .u8 0,.int .i64 0,.int .i64 0,.int .i64 0])][j]?=qb y->y.1≠r:=by
  have:=G.o;have:=HT.o;intro j y hj H
  match j,hj,H with
  | 1,_,H=>cases H;show q≠r;omega
  | 2,_,H=>cases H;show w.heap.size≠r;omega
 have d2:=vv a7;clear a7;rcases e8.o with ⟨hz,rfl⟩|⟨hz,gw,gf,rfl,d3,d4,d5,d6⟩
 ·have R:=HI.o;rw[if_pos hz] at R;have b7:=vv R;clear R hz;refine(qcF r _ _ (S.o.get 0 rfl)).mono ?_;rintro e m ⟨rfl,c,V⟩;have f:=vv (S.o.put 0 rfl d2.o (by have:=D.o;have:=G.o;have:=HT.o;omega) c V);clear c V;obtain⟨i0,i1,i2⟩:m.cell? ⟨q,0,qa⟩=qb (.int .u64 0)/\m.cell? ⟨q,1,qa⟩=qb (.int .u8 0)/\m.cell? ⟨r,0,qa⟩=qb (.pointer qa):=⟨(f.o.get 1 rfl).cell 0,(f.o.get 1 rfl).cell 1,(f.o.get 0 rfl).cell 0⟩;have f0:=(f.o.get 1 rfl).fz 0;have f1:=(f.o.get 1 rfl).fz 1;have ql:=(f.o.get 1 rfl).lt;have a4:Blk ((m.setCell ⟨q,0,qa⟩ (.int .u64 (O.1:Int))).setCell ⟨q,1,qa⟩ (.int .u8 (O.2.1:Int))) q 48 [.int .u64 (O.1:Int),.int .u8 (O.2.1:Int),.int .i64 0,.int .i64 (first:Int),.int .i64 (L.length:Int)]:=((f.o.get 1 rfl).set 0 _).set 1 _;have T:q≠w.heap.size:=by have:=G.o;omega
  have a5:Blk ((m.setCell ⟨q,0,qa⟩ (.int .u64 (O.1:Int))).setCell ⟨q,1,qa⟩ (.int .u8 (O.2.1:Int))) w.heap.size 48 [.int .u64 0,.int .u8 0,.int .i64 0,.int .i64 0,.int .i64 0]:=((f.o.get 2 rfl).other T _).other T _;have Q:qh a.heap.size a ((m.setCell ⟨q,0,qa⟩ (.int .u64 (O.1:Int))).setCell ⟨q,1,qa⟩ (.int .u8 (O.2.1:Int))):=by have e1:=q09 (qg m (qb q)) (p:=⟨q,0,qa⟩) (.inl rfl) (.int .u64 (O.1:Int));have e2:=q09 e1 (p:=⟨q,1,qa⟩) (.inl rfl) (.int .u8 (O.2.1:Int));exact q0h f.o.low e2 f.o.low.size (by have:=D.o;have:=G.o;omega)
  clear T;go_wp2_with (first
   | with_reducible refine q0O rfl 48 (.tmp 4) rfl q rfl 48 _ _ a4 underlying48 rfl (by kernel_rfl) ?_
   | with_reducible refine q05 rfl 48 (.tmp 2) (.tmp 61) rfl w.heap.size [.int .u64 (O.1:Int),.int .u8 (O.2.1:Int),.int .i64 0,.int .i64 (first:Int),.int .i64 (L.length:Int)] rfl rfl 48 _ a5 (by kernel_rfl) rfl rfl ?_)
  intro w8 l a6;have a0:=q0h Q a6 (by have:=Q.size;have:=D.o;omega) (by rw[D.o];exact lr);have s:=vv l;have b8:=vv a0;clear l a6 Q a0 a4 a5;go_wp2;have k0:=s.o.cell 0;have k1:=s.o.cell 1;have u:=s.o.cell 2;have z:=s.o.cell 3;have C:=s.o.cell 4;simp only[k07,k0c] at k0 k1 u z C;rw[b7.o];exact qi (v:=.agg #[.int .u64 (O.1:Int),.int .u8 (O.2.1:Int),.int .i64 0,.int .i64 (first:Int),.int .i64 (L.length:Int)]) (by simp [results,results25,go_sem,k0,k1,u,z,C]) rfl ⟨rfl,a2.o _ b8.o⟩
 ·have R:=HI.o;rw[if_neg hz] at R;have b7:=vv R;have e9:=vv d5;have d7:=vv d6;have f3:=vv (And.intro d3 d4);clear R hz d5 d6 d3 d4;refine(as_wrong ⟨gw,0,qa⟩ ⟨gf,0,qa⟩ r _ _ (d8.o _ S.o.low) (S.o.get 0 rfl) (e9.o.cell 0)).mono ?_;rintro e m ⟨rfl,c,V⟩;have a8:=vv (d7.o.grown V (fun e=>q4q d7.o (S.o.get 0 rfl) (by decide) (by injection e with e;exact e.symm)));have f:=vv (S.o.put 0 rfl d2.o (by have:=D.o;have:=G.o;have:=HT.o;omega) c V);clear c V;obtain⟨i0,i1,i2⟩:m.cell? ⟨q,2,qa⟩=qb (.int .i64 0)/\m.cell? ⟨gf,0,qa⟩=qb (.int .i64 O.2.2.1)/\m.cell? ⟨r,0,qa⟩=qb (.pointer (qb ⟨gf,0,qa⟩)):=⟨(f.o.get 1 rfl).cell 2,a8.o.cell 0,(f.o.get 0 rfl).cell 0⟩;have f0:=(f.o.get 1 rfl).fz 2;have ql:=(f.o.get 1 rfl).lt;have f4:=a8.o.lt;have a4:Blk (m.setCell ⟨q,2,qa⟩ (.int .i64 O.2.2.1)) q 48 [.int .u64 0,.int .u8 0,.int .i64 O.2.2.1,.int .i64 (first:Int),.int .i64 (L.length:Int)]:=(f.o.get 1 rfl).set 2 _;have T:q≠w.heap.size:=by have:=G.o;omega
  have a5:Blk (m.setCell ⟨q,2,qa⟩ (.int .i64 O.2.2.1)) w.heap.size 48 [.int .u64 0,.int .u8 0,.int .i64 0,.int .i64 0,.int .i64 0]:=(f.o.get 2 rfl).other T _;have Q:qh a.heap.size a (m.setCell ⟨q,2,qa⟩ (.int .i64 O.2.2.1)):=q0h (g:=q) f.o.low (q09 (qg _ _) (.inl rfl) _) f.o.low.size (by have:=D.o;have:=G.o;omega);clear T;go_wp2_with (first
   | with_reducible refine q0O rfl 48 (.tmp 4) rfl q rfl 48 _ _ a4 underlying48 rfl (by kernel_rfl) ?_
   | with_reducible refine q05 rfl 48 (.tmp 2) (.tmp 56) rfl w.heap.size [.int .u64 0,.int .u8 0,.int .i64 O.2.2.1,.int .i64 (first:Int),.int .i64 (L.length:Int)] rfl rfl 48 _ a5 (by kernel_rfl) rfl rfl ?_)
  intro w8 l a6;have a0:=q0h Q a6 (by have:=Q.size;have:=D.o;omega) (by rw[D.o];exact lr);have s:=vv l;have b8:=vv a0;clear l a6 Q a0 a4 a5;go_wp2;have k0:=s.o.cell 0;have k1:=s.o.cell 1;have u:=s.o.cell 2;have z:=s.o.cell 3;have C:=s.o.cell 4;simp only[k07,k0c] at k0 k1 u z C;rw[b7.o];exact qi (v:=.agg #[.int .u64 0,.int .u8 0,.int .i64 O.2.2.1,.int .i64 (first:Int),.int .i64 (L.length:Int)]) (by simp [results,results25,go_sem,k0,k1,u,z,C]) rfl ⟨rfl,a2.o _ b8.o⟩
theorem q7u(g:Nat)(E F:Int)(mode:Nat)(seps:ByteArray)(at_:Nat)(w:qc)
  (h:Blk w g 35 (q3q E F mode seps at_ qa qf qj)) :
  qm qe 14 #[.pointer (qb ⟨g,0,qa⟩)] w fun e w'=>e=.returned (.tuple #[.slice qa 0 0,.int .i64 0])/\Blk w' g 35 (q3q E F mode seps at_ qa qj qj)/\w.grownBy w' (qb g):=by
 have a:=vv (there g E F mode seps at_ qa qf w h);have c:=h.lt;have d:=(q4D h).c5;have f:=(q4D h).c6;have i:=h.fz 6;have b:=vv (And.intro (h.set 6 (.bool qj)) (q09 (qg w (qb g)) (p:=⟨g,6,qa⟩) (.inl rfl) (.bool qj)));clear h;go_enter func14,ntmps14;go_wp2_with fail;refine a.o.mono ?_;rintro e w' ⟨rfl,rfl⟩;go_wp2;go_ret2;exact⟨rfl,b.o⟩
theorem q6x:(Tryz.prog.info? 48).map (fun i=>(i.zero,i.size,i.bytes))=qb (qb (.agg #[.int .u64 0,.int .u8 0,.int .i64 0,.int .i64 0,.int .i64 0]),5,40):=by kernel_rfl
theorem q6p(h:Blk w g s l)(hr:w.ownsRow lo e k v n xs)(hst:s≠e):v.ownBlock≠qb g:=by
 rcases hr.2 with ⟨rfl,-⟩|⟨c,cap,b,rfl,-,a,-⟩
 ·simp [Value.ownBlock]
 ·simp only[Value.ownBlock];rintro e;injection e with e;subst e;have e:=h.symm.trans a;injection e with e;injection e with _ e;exact hst e
theorem q3h(w:qc)(cs:List qn)(t:TypeId):∀j u,cs[j]?=qb u->(w.alloc (.cells cs.toArray t)).cell? ((⟨w.heap.size,0,qa⟩:qp).add j)=qb u:=by
 intro j u h;have a:Addr.add ⟨w.heap.size,0,qa⟩ j=⟨w.heap.size,j,qa⟩:=by cases j with|zero=>rfl|succ j=>simp [Addr.add]
 rw[a,(Blk.made w t cs).cell j];exact h
theorem q2J(E F:Int)(mode:Nat)(L:List Nat)(first:Nat):∃x0 x1 x2 x3 x4,q1i E F mode L first=[x0,x1,x2,x3,x4]/\∀u∈[x0,x1,x2,x3,x4],u.oneCell'=qj:=by
 unfold q1i;split
 ·exact⟨_,_,_,_,_,rfl,by simp [Value.oneCell']⟩
 ·exact⟨_,_,_,_,_,rfl,by simp [Value.oneCell']⟩
theorem q7t(w00:qc)(hg0:Bg w00)(ht0:qfF w00)(g b lo at_ first mode:Nat)(E F:Int)(seps:ByteArray)(L:List Nat)(v:qn)(w:qc)
  (hw:qh w00.heap.size w00 w) (hge:w00.heap.size<=g)
  (h:Blk w g 35 (q3q E F mode seps at_ (qb ⟨b,0,qa⟩) qf qj)) (hb:Blk w b 58 [v,.int .i64 (first:Int)])
  (hr:w.ownsRow lo 5 1 v L.length (u8s L)) (hL:∀x∈L,x<256) :
  qm qe 14 #[.pointer (qb ⟨g,0,qa⟩)] w fun e w'=>∃v',e=.returned (.tuple #[v',.int .i64 0])/\w'.ownsRow w.heap.size 48 5 v' 1 (q1i E F mode L first) /\Blk w' g 35 (q3q E F mode seps at_ qa qj qj)/\w.grownBy w' (qb g):=by
 obtain⟨N,hi,I,J,K⟩:=info_parts q6x;have O:=vv (there g E F mode seps at_ (qb ⟨b,0,qa⟩) qf w h);have s:=vv (qdZ w00 hg0 ht0 g b lo at_ first mode E F seps qf L v w hw hge h hb hr hL);obtain⟨f,i,j,l,m,q,M⟩:=q2J E F mode L first;rw[q] at s ⊢;have T:=h.lt;have P:=(q4D h).c5;clear h hb hr hL hg0 ht0 hw hge q;go_enter func14,ntmps14
 go_wp2_with fail;refine O.o.mono ?_;rintro e w' ⟨rfl,rfl⟩;go_wp2_with fail;refine s.o.mono ?_;rintro e t ⟨rfl,u,y⟩;have Q:=vv u;have z:=vv y;clear u y P;go_wp2_with (at_builtin;refine wpList_append_own _ rfl _ _ 42 rfl w.heap.size 48 N (.agg #[.int .u64 0,.int .u8 0,.int .i64 0,.int .i64 0,.int .i64 0]) 5 40 underlying42 hi I J K rfl (by decide) _ 0 [] rfl (World.ownsRow_nil _ _ _ _) ⟨t.heap.size,0,qa⟩ 1 1 [f,i,j,l,m] rfl rfl (q3h t [f,i,j,l,m] _) M (by decide) (by decide) (by have:=z.o.size;simp;omega) ?_);intro v' C n a _;have c:=(Q.o.alloc (.cells #[f,i,j,l,m] 48)).grown a (by simp [Value.ownBlock]);have r:w.grownBy C (qb g):=by have e:=q0x z.o (.cells #[f,i,j,l,m] 48);exact⟨a.os.trans e.os,a.tape.trans e.tape,a.output.trans e.output,k06 e.size a.size,fun k hk d=>(a.block k (k01 hk e.size) (by simp [Value.ownBlock])).trans (e.block k hk d)⟩
 have d:=q6p c n (by decide);have U:=(q4D c).c6;have V:=c.fz 6;have S:=c.lt;have D:=c.set 6 (.bool qj);have G:=q09 r (p:=⟨g,6,qa⟩) (.inl rfl) (.bool qj);have H:=n.kept (q09 (qg C (qb g)) (p:=⟨g,6,qa⟩) (.inl rfl) (.bool qj)) (.inr d);have R:=vv (And.intro H (And.intro D G));clear n a c r d D G H;go_wp2;go_ret2;exact⟨v',rfl,R.o⟩
abbrev Tk:=List Nat × Nat
def q7m(seps:ByteArray)(c:Nat):Bool:=qd (0<=Lib.indexByte seps.data.toList c.toUInt8)
def q1e(seps:ByteArray)(a:Nat)(tok:Option Tk)(c:Nat):Option Tk × List Tk:=
 if q7m seps c=qj then(qa,tok.toList) else
 match tok with
 | none=>(qb ([c],a),[])
 | some (L,f)=>(qb (L++[c],f),[])
def q10(seps:ByteArray):Nat->Option Tk->List Nat->Option Tk × List Tk
 | _,tok,[]=>(tok,[])
 | a,tok,c::cs=>((q10 seps (a+1) (q1e seps a tok c).1 cs).1,(q1e seps a tok c).2++(q10 seps (a+1) (q1e seps a tok c).1 cs).2)
theorem q2e(seps:ByteArray):∀(xs ys:List Nat) (a:Nat) (tok:Option Tk),q10 seps a tok (xs++ys)=((q10 seps (a+xs.length) (q10 seps a tok xs).1 ys).1,(q10 seps a tok xs).2++(q10 seps (a+xs.length) (q10 seps a tok xs).1 ys).2)
 | [],ys,a,tok=>by simp [q10]
 | c::xs,ys,a,tok=>by have ih:=q2e seps xs ys (a+1) (q1e seps a tok c).1;simp only[k2x,q10,k19];rw[ih,show a+1+xs.length=a+(xs.length+1) by omega,List.append_assoc]
theorem q5O(seps:ByteArray)(xs:List Nat)(c a:Nat)(tok:Option Tk):q10 seps a tok (xs++[c])=((q1e seps (a+xs.length) (q10 seps a tok xs).1 c).1,(q10 seps a tok xs).2++(q1e seps (a+xs.length) (q10 seps a tok xs).1 c).2):=by rw[q2e];simp [q10]
def q8c(seps:ByteArray)(a:Nat)(tok:Option Tk)(xs:List Nat):List Tk:=(q10 seps a tok xs).2++(q10 seps a tok xs).1.toList
def qe1(seps:ByteArray)(a:Nat)(t:Tk):Prop:=0<t.1.length/\t.2+t.1.length=a/\(∀x∈t.1,x<256)/\∀x∈t.1,q7m seps x=qf
theorem qai(seps:ByteArray)(a:Nat)(tok:Option Tk)(c:Nat)(hc:c<256)(h:∀t,tok=qb t->qe1 seps a t):∀t,(q1e seps a tok c).1=qb t->qe1 seps (a+1) t:=by
 intro t b;unfold q1e at b;by_cases hb:q7m seps c=qj
 ·rw[if_pos hb] at b;cases b
 rw[if_neg hb] at b;have d:q7m seps c=qf:=by simpa using hb
 match tok,h,b with
 | none,h,b =>cases b;exact⟨by simp,rfl,by simpa using hc,by simpa using d⟩
 | some (L,f),h,b =>
  cases b;obtain⟨j,e,g,i⟩:=h (L,f) rfl;refine⟨by simp,by simp only[k0p,k19,k1p] at e ⊢;omega,?_,?_⟩
  ·intro x hx;rcases k1L.1 hx with hx|hx
   ·exact g x hx
   ·rw[k0j.1 hx];exact hc
  ·intro x hx;rcases k1L.1 hx with hx|hx
   ·exact i x hx
   ·rw[k0j.1 hx];exact d
end Str
namespace Str
open Go Go.RowKit
end Str
namespace Str
open Go Go.RowKit R5 Scn Hx Rdx
theorem q3c(c:UInt8):∀l:List UInt8,0<=Lib.indexByte l c↔c∈l
 | []=>by simp [Lib.indexByte]
 | b::l=>by
  have ih:=q3c c l;have hge:=Lib.indexByte_ge l c;by_cases e:b=c
  ·subst e;simp [Lib.indexByte]
  ·have e1:(b==c)=qf:=by simpa using e
   have a:¬c=b:=fun h=>e h.symm
   simp only[Lib.indexByte,e1,k1t,if_false,k1E,a,false_or];rw[<- ih];by_cases h:Lib.indexByte l c = -1
   ·simp [h]
   ·have d:(Lib.indexByte l c == -1)=qf:=by simpa using h
    simp only[d,k1t,if_false];omega
def q4N(sep:ByteArray)(c:Nat):Bool:=qd (c.toUInt8∈sep.data.toList) || decide (c=32) || decide (c=9) || decide (c=10) || decide (c=13)
theorem q8a(sep:ByteArray)(c:Nat)(hc:c<256):q7m (q0S++sep) c=q4N sep c:=by
 have e:(q0S++sep).data.toList=[32,9,10,13]++sep.data.toList:=by simp [ByteArray.data_append]
 have a:∀d,d<256->(c.toUInt8=(d:Nat).toUInt8↔c=d):=by
  intro d j;constructor
  ·intro h;have:=k0g UInt8.toNat h;simp only[Nat.toUInt8,UInt8.toNat_ofNat'] at this;omega
  ·rintro rfl;rfl
 unfold q7m q4N;rw[Bool.eq_iff_iff];simp only[k1z,k0I,q3c,e,k1L,k1E,k0W,or_false];have b:=a 32 (by decide);have f:=a 9 (by decide);have g:=a 10 (by decide);have i:=a 13 (by decide);rw[show((32:Nat).toUInt8)=(32:UInt8) from rfl] at b;rw[show((9:Nat).toUInt8)=(9:UInt8) from rfl] at f;rw[show((10:Nat).toUInt8)=(10:UInt8) from rfl] at g;rw[show((13:Nat).toUInt8)=(13:UInt8) from rfl] at i;rw[b,f,g,i];constructor
 ·rintro((h|h|h|h)|h);all_goals simp [h]
 ·rintro((((h|h)|h)|h)|h);all_goals simp [h]
end Str
end Go.Proofs.YthopehoklmgphaaGreatDoor
