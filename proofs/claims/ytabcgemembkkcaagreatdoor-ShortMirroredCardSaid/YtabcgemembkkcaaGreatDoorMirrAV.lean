/- Lemmas. -/
import Derived.Test.YtabcgemembkkcaaGreatDoorMirrAU
import Derived.Test.YtabcgemembkkcaaGreatDoorMirrAL
import Derived.Test.YtabcgemembkkcaaGreatDoorMirrAC
set_option linter.all false
set_option maxHeartbeats 4000000
set_option maxRecDepth 100000
open Go.Proofs.Tryz
open Option renaming none->qa,some->qd
open Decidable renaming decide->qb
open Go.Proofs.Tryz renaming prog->qc
open Bool renaming false->qe,true->qk
open Go renaming World->qf,RowKit.Below.refl->qg,Calls->qh,heap_alloc_new->qj,IntKind.wrap_i64->qm,Addr->qn,IntKind.wrap_u64->qo,IntKind.wrap_u32->qp
open Go.RowKit renaming Below->qi,Hid->ql
namespace Go.Proofs.YtabcgemembkkcaaGreatDoor
variable{fq:FuncId}{a k g n b c N:Nat}{w w':qf}{E F:Int}{neg:Bool}
namespace AB
open Go Go.RowKit
theorem Mul(g o gx ox gy oy:Nat)(v u1 u2:Int)(w:qf)(h:IntAt w g o v)(hx:IntAt w gx ox u1)(hy:IntAt w gy oy u2)(hn:Sz u1.natAbs)(hm:Sz u2.natAbs)(hq:fq=94\/fq=278:=by decide):qh qc fq #[.pointer (qd ⟨g,o,qa⟩),.pointer (qd ⟨gx,ox,qa⟩),.pointer (qd ⟨gy,oy,qa⟩)] w (q0B g o (u1*u2) w):=by
 have l:=vv h;have j:=hx.lt;have k:=hy.lt;obtain⟨A,n,c,q,r,f,y⟩:=hx.ex;obtain⟨B,m,d,s,t,i,hy⟩:=hy.ex;have z:=vv fun fq hq=>mulWords (fq:=fq) (hq:=hq) A B n m c d _ _ _ f.drew i.drew (by have:=f.sz hn;have:=i.sz hm;omega)
 clear f y i hy h hx hn hm;rcases hq with rfl|rfl;go_enter func94,ntmps94;rotate_left;go_enter func278,ntmps278;rotate_left;all_goals
  go_wp2_with fail;refine q02 (fun w'=>w'.cell? ⟨gx,ox,qa⟩=qd (.bool (qb (u1<0)))/\w'.cell? ⟨gx,ox+1,qa⟩=qd (.slice A n c)/\w'.cell? ⟨gy,oy,qa⟩=qd (.bool (qb (u2<0)))/\w'.cell? ⟨gy,oy+1,qa⟩=qd (.slice B m d)) 19
   (.still 0 (.still 1 (.still 2 (.still 3 (.still 4 (.still 5 (.still 6 (.still 7 (.still 8 (.still 9 (.still 10 (.still 11 (.still 12 (.still 13 (.still 14 (.still 15 (.still 16 (.still 17 (.one 18 .done))))))))))))))))))) (by kernel_rfl) (by kernel_rfl) (fun _ _ d _ _ h=>by cases d<;>exact h) ⟨q,r,s,t⟩ (fun hS0=>?_)
  iterate 18
   refine q01 (v:=?_) rfl (by rfl) ?_ ?_;rotate_left
   ·intro w H;go_simp;with_reducible rfl
   simp only[Act.put,sa,sb,sc]
  refine q03 rfl (by rfl) (fun K hK=>?_);go_simp;refine(z.o _ (by decide)).mono ?_;rintro e J ⟨C,D,E,rfl,u,x,b⟩;go_wp2_with fail;refine hK.out _ _ ⟨(b.cell (p:=⟨gx,ox,qa⟩) j).trans q,(b.cell (p:=⟨gx,ox+1,qa⟩) j).trans r,(b.cell (p:=⟨gy,oy,qa⟩) k).trans s,(b.cell (p:=⟨gy,oy+1,qa⟩) k).trans t⟩ (fun I=>?_);clear hK;refine q07 ?_;go_wp2_with fail;refine(set_of g o v (u1*u2) _ C D E (u1.natAbs*u2.natAbs) _ (l.o.drew.below b) (by rw[q04,q04] at u;exact u) (fun a e=>(x a e).2) (k0B u1 u2) ?_).mono ?_
  ·rw[q2u];rfl
  rintro e L ⟨rfl,F,G⟩;go_wp2;go_ret;exact⟨rfl,F,((Fm.of_below b l.o.lt).trans G).undrew⟩
theorem added_same(g o:Nat)(v u:Int)(b:Bool)(N M:Nat)(A B:Option qn)(n m c d:Nat)(w:qf)(h:IntAt w g o v)(ha:Rd w A n c (toL N))(hb:Rd w B m d (toL M))(hn:Sz N)(hm:Sz M)(hu:u=sg b (N+M))(hq:fq=335\/fq=255:=by decide):qh qc fq #[.pointer (qd ⟨g,o,qa⟩),.slice A n c,.bool b,.slice B m d,.bool b] w (q0B g o u w):=by
 have i:=vv h;have p:=vv fun fq hq=>addWords (fq:=fq) (hq:=hq) A B n m c d _ _ w ha hb (by have:=ha.sz hn;omega) (by have:=hb.sz hm;omega)
 have j:=vv hu;clear ha hb hn hm h hu;have z:(b==b)=qk:=by cases b<;>rfl
 rcases hq with rfl|rfl;go_enter func335,ntmps335;rotate_left;go_enter func255,ntmps255;rotate_left;all_goals
  go_wp2_with fail;refine(p.o _ (by decide)).mono ?_;rintro e C ⟨q,r,s,rfl,f,l,k⟩;rw[q04,q04] at f;have t:=vv f;clear f;go_wp2_with fail;refine(set_of g o v u b q r s (N+M) _ (i.o.below k) t.o (fun a e=>(l a e).2) (by rw[j.o,q0z]) (by rw[j.o,q1d])).mono ?_;rintro e D ⟨rfl,x,y⟩;go_wp2;go_ret;exact⟨rfl,x,(Fm.of_below k i.o.lt).trans y⟩
theorem added_ge(g o:Nat)(v u:Int)(b:Bool)(N M:Nat)(t:Int)(A B:Option qn)(n m c d:Nat)(w:qf)(h:IntAt w g o v)(ha:Rd w A n c (toL N))(hb:Rd w B m d (toL M))(ht:q0F N M=t)(h0:t=0\/t=1)(hle:M<=N)(hu:u=sg b (N-M))(hq:fq=335\/fq=255:=by decide):qh qc fq #[.pointer (qd ⟨g,o,qa⟩),.slice A n c,.bool b,.slice B m d,.bool (!b)] w (q0B g o u w):=by
 have l:=vv h;have y:=vv fun fq hq=>cmpWords (fq:=fq) (hq:=hq) A B n m c d _ _ w ha hb (by rw[q04]) (by rw[q04])
 have p:=vv ha;have q:=vv hb;have r:=vv hu;have s:=vv hle;have z:=vv ht;have I:(b==!b)=qe:=by cases b<;>rfl
 clear ha hb h hu hle ht;rcases h0 with rfl|rfl;all_goals
  rcases hq with rfl|rfl;go_enter func335,ntmps335;rotate_left;go_enter func255,ntmps255;rotate_left;all_goals
   go_wp2_with fail;refine(y.o _ (by decide)).mono ?_;rintro e J ⟨rfl,f⟩;rw[q04,q04,z.o];go_wp2_with fail;refine(subWords A B n m c d _ _ _ (p.o.below f rfl) (q.o.below f rfl) (by rw[q04,q04];exact s.o) (q.o.le_of p.o s.o)).mono ?_;rintro e K ⟨C,D,E,rfl,i,x,j⟩;rw[q04,q04] at i;have F:=vv i;have k:=vv (f.trans (j.mono f.size));clear i j;go_wp2_with fail;refine(set_of g o v u b C D E (N-M) _ (l.o.below k.o) F.o (fun a e=>(x a e).2) (by rw[r.o,q0z]) (by rw[r.o,q1d])).mono ?_;rintro e L ⟨rfl,G,H⟩;go_wp2;go_ret;exact⟨rfl,G,(Fm.of_below k.o l.o.lt).trans H⟩
theorem added_lt(g o:Nat)(v u:Int)(b:Bool)(N M:Nat)(A B:Option qn)(n m c d:Nat)(w:qf)(h:IntAt w g o v)(ha:Rd w A n c (toL N))(hb:Rd w B m d (toL M))(ht:q0F N M = -1)(hle:N<=M)(hu:u=sg (!b) (M-N))(hq:fq=335\/fq=255:=by decide):qh qc fq #[.pointer (qd ⟨g,o,qa⟩),.slice A n c,.bool b,.slice B m d,.bool (!b)] w (q0B g o u w):=by
 have l:=vv h;have x:=vv fun fq hq=>cmpWords (fq:=fq) (hq:=hq) A B n m c d _ _ w ha hb (by rw[q04]) (by rw[q04])
 have p:=vv ha;have q:=vv hb;have r:=vv hu;have s:=vv hle;have y:=vv ht;have H:(b==!b)=qe:=by cases b<;>rfl
 clear ha hb h hu hle ht;rcases hq with rfl|rfl;go_enter func335,ntmps335;rotate_left;go_enter func255,ntmps255;rotate_left;all_goals
  go_wp2_with fail;refine(x.o _ (by decide)).mono ?_;rintro e I ⟨rfl,f⟩;rw[q04,q04,y.o];go_wp2_with fail;refine(subWords B A m n d c _ _ _ (q.o.below f rfl) (p.o.below f rfl) (by rw[q04,q04];exact s.o) (p.o.le_of q.o s.o)).mono ?_;rintro e J ⟨z,C,D,rfl,i,t,j⟩;rw[q04,q04] at i;have E:=vv i;have k:=vv (f.trans (j.mono f.size));clear i j;go_wp2_with fail;refine(set_of g o v u (!b) z C D (M-N) _ (l.o.below k.o) E.o (fun a e=>(t a e).2) (by rw[r.o,q0z]) (by rw[r.o,q1d])).mono ?_;rintro e K ⟨rfl,F,G⟩;go_wp2;go_ret;exact⟨rfl,F,(Fm.of_below k.o l.o.lt).trans G⟩
theorem added(g o:Nat)(v:Int)(a b:Bool)(N M:Nat)(A B:Option qn)(n m c d:Nat)(w:qf)(h:IntAt w g o v)(ha:Rd w A n c (toL N))(hb:Rd w B m d (toL M))(hn:Sz N)(hm:Sz M)(hq:fq=335\/fq=255:=by decide):qh qc fq #[.pointer (qd ⟨g,o,qa⟩),.slice A n c,.bool a,.slice B m d,.bool b] w (q0B g o (sg a N+sg b M) w):=by
 by_cases e:b=a
 ·subst e;exact added_same (hq:=hq) g o v _ b N M A B n m c d w h ha hb hn hm (by cases b<;>simp [sg]<;>omega)
 ·obtain rfl:b=!a:=by cases a<;>cases b<;>simp_all
  rcases k1w N M with k|k|k
  ·exact added_lt (hq:=hq) g o v _ a N M A B n m c d w h ha hb (by unfold q0F;simp [k]) (by omega) (by cases a<;>simp [sg]<;>omega)
  ·exact added_ge (hq:=hq) g o v _ a N M 0 A B n m c d w h ha hb (by unfold q0F;simp [k]) (.inl rfl) (by omega) (by cases a<;>simp [sg]<;>omega)
  ·exact added_ge (hq:=hq) g o v _ a N M 1 A B n m c d w h ha hb (by unfold q0F;simp [k];omega) (.inr rfl) (by omega) (by cases a<;>simp [sg]<;>omega)
theorem Add(g o gx ox gy oy:Nat)(v u1 u2:Int)(w:qf)(h:IntAt w g o v)(hx:IntAt w gx ox u1)(hy:IntAt w gy oy u2)(hn:Sz u1.natAbs)(hm:Sz u2.natAbs)(hq:fq=292\/fq=160:=by decide):qh qc fq #[.pointer (qd ⟨g,o,qa⟩),.pointer (qd ⟨gx,ox,qa⟩),.pointer (qd ⟨gy,oy,qa⟩)] w (q0B g o (u1+u2) w):=by
 obtain⟨A,n,c,i,j,a,k⟩:=hx.ex;obtain⟨B,m,d,l,p,b,hy⟩:=hy.ex;have q:=vv fun fq hq=>added (fq:=fq) (hq:=hq) g o v (qb (u1<0)) (qb (u2<0)) _ _ A B n m c d w.drew h.drew a.drew b.drew hn hm
 clear a k b hy h hx hn hm;rcases hq with rfl|rfl;go_enter func292,ntmps292;rotate_left;go_enter func160,ntmps160;rotate_left;all_goals
  go_wp2_with fail;refine q02 (fun w'=>w'.cell? ⟨gx,ox,qa⟩=qd (.bool (qb (u1<0)))/\w'.cell? ⟨gx,ox+1,qa⟩=qd (.slice A n c)/\w'.cell? ⟨gy,oy,qa⟩=qd (.bool (qb (u2<0)))/\w'.cell? ⟨gy,oy+1,qa⟩=qd (.slice B m d)) 17
   (.still 0 (.still 1 (.still 2 (.still 3 (.still 4 (.still 5 (.still 6 (.still 7 (.still 8 (.still 9 (.still 10 (.still 11 (.still 12 (.still 13 (.still 14 (.still 15 (.still 16 .done))))))))))))))))) (by kernel_rfl) (by kernel_rfl) (fun _ _ d _ _ h=>by cases d<;>exact h) ⟨i,j,l,p⟩ (fun hS0=>?_)
  iterate 17
   refine q01 (v:=?_) rfl (by rfl) ?_ ?_;rotate_left
   ·intro w s;go_simp;with_reducible rfl
   simp only[Act.put,sa,sb,sc]
  refine q07 ?_;go_wp2_with fail;refine(q.o _ (by decide)).mono ?_;rintro e t ⟨rfl,f,r⟩;rw[q4V,q4V] at f;go_wp2;go_ret;exact⟨rfl,f,r.undrew⟩
theorem Sub(g o gx ox gy oy:Nat)(v u1 u2:Int)(w:qf)(h:IntAt w g o v)(hx:IntAt w gx ox u1)(hy:IntAt w gy oy u2)(hn:Sz u1.natAbs)(hm:Sz u2.natAbs)(hq:fq=319\/fq=356:=by decide):qh qc fq #[.pointer (qd ⟨g,o,qa⟩),.pointer (qd ⟨gx,ox,qa⟩),.pointer (qd ⟨gy,oy,qa⟩)] w (q0B g o (u1-u2) w):=by
 obtain⟨A,n,c,i,j,a,k⟩:=hx.ex;obtain⟨B,m,d,l,p,b,hy⟩:=hy.ex;have q:=vv fun fq hq=>added (fq:=fq) (hq:=hq) g o v (qb (u1<0)) (!qb (u2<0)) _ _ A B n m c d w.drew h.drew a.drew b.drew hn hm
 clear a k b hy h hx hn hm;rcases hq with rfl|rfl;go_enter func319,ntmps319;rotate_left;go_enter func356,ntmps356;rotate_left;all_goals
  go_wp2_with fail;refine q02 (fun w'=>w'.cell? ⟨gx,ox,qa⟩=qd (.bool (qb (u1<0)))/\w'.cell? ⟨gx,ox+1,qa⟩=qd (.slice A n c)/\w'.cell? ⟨gy,oy,qa⟩=qd (.bool (qb (u2<0)))/\w'.cell? ⟨gy,oy+1,qa⟩=qd (.slice B m d)) 18
   (.still 0 (.still 1 (.still 2 (.still 3 (.still 4 (.still 5 (.still 6 (.still 7 (.still 8 (.still 9 (.still 10 (.still 11 (.still 12 (.still 13 (.still 14 (.still 15 (.still 16 (.still 17 .done)))))))))))))))))) (by kernel_rfl) (by kernel_rfl) (fun _ _ d _ _ h=>by cases d<;>exact h) ⟨i,j,l,p⟩ (fun hS0=>?_)
  iterate 18
   refine q01 (v:=?_) rfl (by rfl) ?_ ?_;rotate_left
   ·intro w s;go_simp;with_reducible rfl
   simp only[Act.put,sa,sb,sc]
  refine q07 ?_;go_wp2_with fail;refine(q.o _ (by decide)).mono ?_;rintro e t ⟨rfl,f,r⟩;rw[q4V,qbc,<- k21] at f;go_wp2;go_ret;exact⟨rfl,f,r.undrew⟩
theorem Lsh(g o gx ox k:Nat)(v u:Int)(w:qf)(h:IntAt w g o v)(hx:IntAt w gx ox u)(hn:Sz u.natAbs)(hk:k<30000000000000)(hq:fq=172\/fq=169:=by decide):qh qc fq #[.pointer (qd ⟨g,o,qa⟩),.pointer (qd ⟨gx,ox,qa⟩),.int .u64 (k:Int)] w (q0B g o (u*2^k) w):=by
 have j:=vv h;have i:=hx.lt;obtain⟨A,n,c,l,m,f,s⟩:=hx.ex;have t:=vv fun fq hq=>up (fq:=fq) (hq:=hq) A n c _ k _ rfl _ f.drew (by have:=f.sz hn;omega)
 have E:IntKind.i64.wrap (k:Int)=(k:Int):=by rw[qm];omega
 clear f s h hx hn;rcases hq with rfl|rfl;go_enter func172,ntmps172;rotate_left;go_enter func169,ntmps169;rotate_left;all_goals
  go_wp2_with fail;refine q02 (fun w'=>w'.cell? ⟨gx,ox,qa⟩=qd (.bool (qb (u<0)))/\w'.cell? ⟨gx,ox+1,qa⟩=qd (.slice A n c)) 12
   (.still 0 (.still 1 (.still 2 (.still 3 (.still 4 (.still 5 (.still 6 (.still 7 (.still 8 (.still 9 (.still 10 (.one 11 .done)))))))))))) (by kernel_rfl) (by kernel_rfl) (fun _ _ d _ _ h=>by cases d<;>exact h) ⟨l,m⟩ (fun hS0=>?_)
  iterate 11
   refine q01 (v:=?_) rfl (by rfl) ?_ ?_;rotate_left
   ·intro w F;go_simp;with_reducible rfl
   simp only[Act.put,sa,sb,sc]
  refine q03 rfl (by rfl) (fun K hK=>?_);go_simp;refine(t.o _ (by decide)).mono ?_;rintro e H ⟨x,y,z,rfl,q,r,b⟩;go_wp2_with fail;refine hK.out _ _ ⟨(b.cell (p:=⟨gx,ox,qa⟩) i).trans l,(b.cell (p:=⟨gx,ox+1,qa⟩) i).trans m⟩ (fun G=>?_);clear hK;refine q07 ?_;go_wp2_with fail;refine(set_of g o v (u*2^k) _ x y z (u.natAbs*2^k) _ (j.o.drew.below b) (by rw[q04] at q;exact q) (fun a e=>(r a e).2) (by rw[k0B,Int.natAbs_pow];rfl) ?_).mono ?_
  ·exact q8t u k
  rintro e I ⟨rfl,C,D⟩;go_wp2;go_ret;exact⟨rfl,C,((Fm.of_below b j.o.lt).trans D).undrew⟩
theorem Uint64(g o:Nat)(u:Int)(w:qf)(h:IntAt w g o u)(hu:u.natAbs<18446744073709551616)(hq:fq=269\/fq=276:=by decide):qh qc fq #[.pointer (qd ⟨g,o,qa⟩)] w fun e w'=>e=.returned (.int .u64 ((u.natAbs:Nat):Int))/\w=w':=by
 obtain⟨A,n,c,i,j,a,b⟩:=h.ex;have d:=vv fun fq hq=>toUint (fq:=fq) (hq:=hq) A n c _ w a
 have f:=vv (two_words hu);clear a b h;rcases hq with rfl|rfl;go_enter func269,ntmps269;rotate_left;go_enter func276,ntmps276;rotate_left;all_goals
  go_wp2_with fail;refine(d.o _ (by decide)).mono ?_;rintro e k ⟨rfl,rfl⟩;rw[f.o];go_wp2;go_ret;exact⟨rfl,rfl⟩
theorem NewInt(x:Int)(w:qf)(h1:-9223372036854775808<=x)(h2:x<=9223372036854775807)(hq:fq=93\/fq=114:=by decide):qh qc fq #[.int .i64 x] w (q19 x w):=by
 rcases hq with rfl|rfl;go_enter func93,ntmps93;rotate_left;go_enter func114,ntmps114;rotate_left;all_goals
  go_wp2_with fail;refine(SetInt64 _ _ 0 x _ (IntAt.zero w _) h1 h2).mono ?_;rintro e c ⟨rfl,a,b⟩;go_wp2;go_ret;exact⟨_,rfl,lr,a,b.below ((qg _ w).alloc lr _) (by simp) lr⟩
theorem Cmp_ff(g o gx ox N M n c m d:Nat)(A B:Option qn)(w:qf)(h0:w.cell? ⟨g,o,qa⟩=qd (.bool qe))(h1:w.cell? ⟨g,o+1,qa⟩=qd (.slice A n c))(k0:w.cell? ⟨gx,ox,qa⟩=qd (.bool qe))(k1:w.cell? ⟨gx,ox+1,qa⟩=qd (.slice B m d))
  (ha:Rd w A n c (toL N)) (hb:Rd w B m d (toL M)) (hq:fq=204\/fq=113:=by decide) :
  qh qc fq #[.pointer (qd ⟨g,o,qa⟩),.pointer (qd ⟨gx,ox,qa⟩)] w fun e w'=>e=.returned (.int .i64 (q0F N M))/\qi w.heap.size w w':=by
 have f:=vv fun fq hq=>cmpWords (fq:=fq) (hq:=hq) A B n m c d _ _ w.drew.drew (ha.like rfl) (hb.like rfl) (by rw[q04]) (by rw[q04])
 clear ha hb;rcases hq with rfl|rfl;go_enter func204,ntmps204;rotate_left;go_enter func113,ntmps113;rotate_left;all_goals
  go_wp2_with fail;refine q02 (fun w'=>w'.cell? ⟨g,o,qa⟩=qd (.bool qe)/\w'.cell? ⟨gx,ox,qa⟩=qd (.bool qe)) 9
   (.still 0 (.still 1 (.still 2 (.still 3 (.still 4 (.still 5 (.still 6 (.still 7 (.still 8 .done))))))))) (by kernel_rfl) (by kernel_rfl) (fun _ _ d _ _ h=>by cases d<;>exact h) ⟨h0,k0⟩ (fun hS0=>?_)
  iterate 9
   refine q01 (v:=?_) rfl (by rfl) ?_ ?_;rotate_left
   ·intro w b;go_simp;with_reducible rfl
   simp only[Act.put,sa,sb,sc]
  refine q0K rfl ?_;go_wp2_with fail;refine q02 (fun w'=>w'.cell? ⟨g,o+1,qa⟩=qd (.slice A n c)/\w'.cell? ⟨gx,ox+1,qa⟩=qd (.slice B m d)) 8
   (.still 0 (.still 1 (.still 2 (.still 3 (.still 4 (.still 5 (.still 6 (.still 7 .done)))))))) (by kernel_rfl) (by kernel_rfl) (fun _ _ d _ _ h=>by cases d<;>exact h) ⟨h1,k1⟩ (fun hS0=>?_)
  iterate 8
   refine q01 (v:=?_) rfl (by rfl) ?_ ?_;rotate_left
   ·intro w b;go_simp;with_reducible rfl
   simp only[Act.put,sa,sb,sc]
  refine q07 ?_;go_wp2_with fail;refine(f.o _ (by decide)).mono ?_;rintro e i ⟨rfl,a⟩;rw[q04,q04];go_wp2;go_ret;exact⟨rfl,⟨a.os,a.tape,a.output,a.size,a.block⟩⟩
theorem Cmp_tt(g o gx ox N M n c m d:Nat)(A B:Option qn)(w:qf)(h0:w.cell? ⟨g,o,qa⟩=qd (.bool qk))(h1:w.cell? ⟨g,o+1,qa⟩=qd (.slice A n c))(k0:w.cell? ⟨gx,ox,qa⟩=qd (.bool qk))(k1:w.cell? ⟨gx,ox+1,qa⟩=qd (.slice B m d))
  (ha:Rd w A n c (toL N)) (hb:Rd w B m d (toL M)) (hq:fq=204\/fq=113:=by decide) :
  qh qc fq #[.pointer (qd ⟨g,o,qa⟩),.pointer (qd ⟨gx,ox,qa⟩)] w fun e w'=>e=.returned (.int .i64 (-q0F N M))/\qi w.heap.size w w':=by
 have f:=vv fun fq hq=>cmpWords (fq:=fq) (hq:=hq) A B n m c d _ _ w.drew.drew (ha.like rfl) (hb.like rfl) (by rw[q04]) (by rw[q04])
 have i:IntKind.i64.wrap (-q0F N M) = -q0F N M:=by have:=q7M N M;rw[qm];omega
 clear ha hb;rcases hq with rfl|rfl;go_enter func204,ntmps204;rotate_left;go_enter func113,ntmps113;rotate_left;all_goals
  go_wp2_with fail;refine q02 (fun w'=>w'.cell? ⟨g,o,qa⟩=qd (.bool qk)/\w'.cell? ⟨gx,ox,qa⟩=qd (.bool qk)) 9
   (.still 0 (.still 1 (.still 2 (.still 3 (.still 4 (.still 5 (.still 6 (.still 7 (.still 8 .done))))))))) (by kernel_rfl) (by kernel_rfl) (fun _ _ d _ _ h=>by cases d<;>exact h) ⟨h0,k0⟩ (fun hS0=>?_)
  iterate 9
   refine q01 (v:=?_) rfl (by rfl) ?_ ?_;rotate_left
   ·intro w b;go_simp;with_reducible rfl
   simp only[Act.put,sa,sb,sc]
  refine q0K rfl ?_;go_wp2_with fail;refine q02 (fun w'=>w'.cell? ⟨g,o+1,qa⟩=qd (.slice A n c)/\w'.cell? ⟨gx,ox+1,qa⟩=qd (.slice B m d)) 8
   (.still 0 (.still 1 (.still 2 (.still 3 (.still 4 (.still 5 (.still 6 (.still 7 .done)))))))) (by kernel_rfl) (by kernel_rfl) (fun _ _ d _ _ h=>by cases d<;>exact h) ⟨h1,k1⟩ (fun hS0=>?_)
  iterate 8
   refine q01 (v:=?_) rfl (by rfl) ?_ ?_;rotate_left
   ·intro w b;go_simp;with_reducible rfl
   simp only[Act.put,sa,sb,sc]
  refine q07 ?_;go_wp2_with fail;refine(f.o _ (by decide)).mono ?_;rintro e j ⟨rfl,a⟩;rw[q04,q04];go_wp2;go_ret;exact⟨rfl,⟨a.os,a.tape,a.output,a.size,a.block⟩⟩
theorem Cmp_ne(g o gx ox:Nat)(a:Bool)(w:qf)(h0:w.cell? ⟨g,o,qa⟩=qd (.bool a))(k0:w.cell? ⟨gx,ox,qa⟩=qd (.bool !a))(hq:fq=204\/fq=113:=by decide):qh qc fq #[.pointer (qd ⟨g,o,qa⟩),.pointer (qd ⟨gx,ox,qa⟩)] w fun e w'=>e=.returned (.int .i64 (if a then -1 else 1))/\qi w.heap.size w w':=by
 cases a
 ·rcases hq with rfl|rfl;go_enter func204,ntmps204;rotate_left;go_enter func113,ntmps113;rotate_left;all_goals
   go_wp2_with fail;refine q02 (fun w'=>w'.cell? ⟨g,o,qa⟩=qd (.bool qe)/\w'.cell? ⟨gx,ox,qa⟩=qd (.bool qk)) 9
    (.still 0 (.still 1 (.still 2 (.still 3 (.still 4 (.still 5 (.still 6 (.still 7 (.still 8 .done))))))))) (by kernel_rfl) (by kernel_rfl) (fun _ _ d _ _ h=>by cases d<;>exact h) ⟨h0,k0⟩ (fun hS0=>?_)
   iterate 9
    refine q01 (v:=?_) rfl (by rfl) ?_ ?_;rotate_left
    ·intro w b;go_simp;with_reducible rfl
    simp only[Act.put,sa,sb,sc]
   refine q0K rfl ?_;go_wp2;go_ret;exact⟨rfl,q05 (qg _ _)⟩
 ·rcases hq with rfl|rfl;go_enter func204,ntmps204;rotate_left;go_enter func113,ntmps113;rotate_left;all_goals
   go_wp2_with fail;refine q02 (fun w'=>w'.cell? ⟨g,o,qa⟩=qd (.bool qk)/\w'.cell? ⟨gx,ox,qa⟩=qd (.bool qe)) 9
    (.still 0 (.still 1 (.still 2 (.still 3 (.still 4 (.still 5 (.still 6 (.still 7 (.still 8 .done))))))))) (by kernel_rfl) (by kernel_rfl) (fun _ _ d _ _ h=>by cases d<;>exact h) ⟨h0,k0⟩ (fun hS0=>?_)
   iterate 9
    refine q01 (v:=?_) rfl (by rfl) ?_ ?_;rotate_left
    ·intro w b;go_simp;with_reducible rfl
    simp only[Act.put,sa,sb,sc]
   refine q0K rfl ?_;go_wp2;go_ret;exact⟨rfl,q05 (qg _ _)⟩
theorem Cmp(g o gx ox:Nat)(u1 u2:Int)(w:qf)(h:IntAt w g o u1)(hx:IntAt w gx ox u2)(hq:fq=204\/fq=113:=by decide):qh qc fq #[.pointer (qd ⟨g,o,qa⟩),.pointer (qd ⟨gx,ox,qa⟩)] w fun e w'=>e=.returned (.int .i64 (q1Z u1 u2))/\qi w.heap.size w w':=by
 obtain⟨A,n,c,a,f,i,l⟩:=h.ex;obtain⟨B,m,d,b,j,k,p⟩:=hx.ex;by_cases e1:u1<0<;>by_cases e2:u2<0
 ·rw[k03 e1] at a;rw[k03 e2] at b;rw[qaw e1 e2];exact Cmp_tt (hq:=hq) g o gx ox _ _ n c m d A B w a f b j i k
 ·rw[k03 e1] at a;rw[k00 e2] at b;rw[q44 (by omega)];exact Cmp_ne (hq:=hq) g o gx ox qk w a b
 ·rw[k00 e1] at a;rw[k03 e2] at b;rw[q45 (by omega)];exact Cmp_ne (hq:=hq) g o gx ox qe w a b
 ·rw[k00 e1] at a;rw[k00 e2] at b;rw[q46 e1 e2];exact Cmp_ff (hq:=hq) g o gx ox _ _ n c m d A B w a f b j i k
theorem Bit0(g o:Nat)(u:Int)(w:qf)(h:IntAt w g o u)(hq:fq=320\/fq=325:=by decide):qh qc fq #[.pointer (qd ⟨g,o,qa⟩),.int .i64 0] w fun e w'=>e=.returned (.int .u64 ((u.natAbs%2:Nat):Int))/\w=w':=by
 obtain⟨A,n,c,k,t,a,l⟩:=h.ex;have s:=a.sm;have d:=a.words;clear l h k;rcases k01 n with rfl|f
 ·have m:=q06.1 d;rw[m];clear d a;rcases hq with rfl|rfl;go_enter func320,ntmps320;rotate_left;go_enter func325,ntmps325;rotate_left;all_goals
   go_wp2;go_ret;exact⟨rfl,rfl⟩
 ·obtain⟨b,off,rfl,v,i⟩:=a.cell f;have j:=i 0 f;rw[k14] at j;have p:=a.nth_lt 0;have q:=vv (q7U (nth (toL u.natAbs) 0) p);have r:=vv (q4v u.natAbs);clear i d a;rcases hq with rfl|rfl;go_enter func320,ntmps320;rotate_left;go_enter func325,ntmps325;rotate_left;all_goals
   go_wp2;go_ret;refine⟨q0U ?_,rfl⟩;rw[q.o,r.o,qo];omega
def q5S(g o gr or:Nat)(q r:Int)(w:qf)(e:Ending)(w':qf):Prop:=
 e=.returned (.tuple #[.pointer (qd ⟨g,o,qa⟩),.pointer (qd ⟨gr,or,qa⟩)])/\IntAt w' g o q/\IntAt w' gr or r/\Fs [(gr,or,2),(g,o,2)] w w'
theorem QuoRem(g o gx ox gy oy gr or:Nat)(v u1 u2 ur:Int)(w:qf)(h:IntAt w g o v)(hx:IntAt w gx ox u1)(hy:IntAt w gy oy u2)(hr:IntAt w gr or ur)(hne:g≠gr)(h0:u2≠0)(hn:Sz u1.natAbs)(hq:fq=318\/fq=253:=by decide):qh qc fq #[.pointer (qd ⟨g,o,qa⟩),.pointer (qd ⟨gx,ox,qa⟩),.pointer (qd ⟨gy,oy,qa⟩),.pointer (qd ⟨gr,or,qa⟩)] w
   (q5S g o gr or (sg (qb (u1<0) != qb (u2<0)) (u1.natAbs/u2.natAbs)) (sg (qb (u1<0)) (u1.natAbs%u2.natAbs)) w):=by
 have y:=vv h;have z:=vv hr;have F:=hx.lt;have G:=hy.lt;obtain⟨A,n,c,h0,C,k,N⟩:=hx.ex;obtain⟨B,m,d,O,D,E,hy⟩:=hy.ex;have P:=vv fun fq hq=>divWords (fq:=fq) (hq:=hq) A B n m c d _ _ w.drew.drew (k.like rfl) (E.like rfl) (by omega) (by have:=k.sz hn;omega)
 clear k N E hy h hx hn hr;rcases hq with rfl|rfl;go_enter func318,ntmps318;rotate_left;go_enter func253,ntmps253;rotate_left;all_goals
  go_wp2_with fail;refine q02 (fun w'=>w'.cell? ⟨gx,ox,qa⟩=qd (.bool (qb (u1<0)))/\w'.cell? ⟨gy,oy,qa⟩=qd (.bool (qb (u2<0)))) 9
   (.still 0 (.still 1 (.still 2 (.still 3 (.still 4 (.still 5 (.still 6 (.still 7 (.still 8 .done))))))))) (by kernel_rfl) (by kernel_rfl) (fun _ _ d _ _ h=>by cases d<;>exact h) ⟨h0,O⟩ (fun hS0=>?_)
  iterate 9
   refine q01 (v:=?_) rfl (by rfl) ?_ ?_;rotate_left
   ·intro w l;go_simp;with_reducible rfl
   simp only[Act.put,sa,sb,sc]
  refine q07 ?_;go_wp2_with fail;refine q02 (fun w'=>w'.cell? ⟨gx,ox+1,qa⟩=qd (.slice A n c)/\w'.cell? ⟨gy,oy+1,qa⟩=qd (.slice B m d)) 14
   (.still 0 (.still 1 (.still 2 (.still 3 (.still 4 (.still 5 (.still 6 (.still 7 (.one 8 (.still 9 (.still 10 (.still 11 (.still 12 (.still 13 .done)))))))))))))) (by kernel_rfl) (by kernel_rfl) (fun _ _ d _ _ h=>by cases d<;>exact h) ⟨C,D⟩ (fun hS0=>?_)
  iterate 8
   refine q01 (v:=?_) rfl (by rfl) ?_ ?_;rotate_left
   ·intro w l;go_simp;with_reducible rfl
   simp only[Act.put,sa,sb,sc]
  refine q03 rfl (by rfl) (fun K hK=>?_);go_simp;refine(P.o _ (by decide)).mono ?_;rintro e Q ⟨R,S,T,U,V,W,rfl,q,r,s,H,f⟩;have b:ql (qi w.heap.size w Q):=vv ⟨f.os,f.tape,f.output,f.size,f.block⟩;have I:=vv q;have J:=vv r;clear q r f;go_wp2_with fail;refine hK.out _ _ ⟨(b.o.cell (p:=⟨gx,ox+1,qa⟩) F).trans C,(b.o.cell (p:=⟨gy,oy+1,qa⟩) G).trans D⟩ (fun X=>?_);clear hK
  iterate 5
   refine q01 (v:=?_) rfl (by rfl) ?_ ?_;rotate_left
   ·intro w l;go_simp;with_reducible rfl
   simp only[Act.put,sa,sb,sc]
  refine q0K rfl ?_;go_wp2_with fail;refine(set_of gr or ur (sg (qb (u1<0)) (u1.natAbs%u2.natAbs)) _ U V W _ _ (z.o.below b.o) J.o (fun a e=>(H a e).2) (q0z _ _) (q1d _ _)).mono ?_;rintro e Z i;have j:=vv (i.fs (z.o.below b.o));obtain⟨rfl,t,hF⟩:=i;have L:=vv t;clear t;go_wp2_with fail;refine(set_of g o v (sg (qb (u1<0) != qb (u2<0)) (u1.natAbs/u2.natAbs)) _ R S T _ _ ((y.o.below b.o).fs1 j.o (Ne.symm hne)) (I.o.fs (fun a e=>(s a e).2) j.o) (fun a e=>(s a e).2) (q0z _ _) (q1d _ _)).mono ?_;rintro e w3 i;have u:=vv (i.fs ((y.o.below b.o).fs1 j.o (Ne.symm hne)));obtain⟨rfl,x,Y⟩:=i;have M:=vv x;clear x;go_wp2;go_ret2;exact⟨rfl,M.o,L.o.fs1 u.o hne,((Fs.of_below [] b.o (fun _ hp=>by cases hp)).trans j.o).trans u.o⟩
theorem DivMod_up(g o gx ox gy oy gr or:Nat)(v u1 u2 ur:Int)(w:qf)(h:IntAt w g o v)(hx:IntAt w gx ox u1)(hy:IntAt w gy oy u2)(hr:IntAt w gr or ur)(hne:g≠gr)(h0:u2≠0)(hn:Sz u1.natAbs)
  (hlow:¬sg (qb (u1<0)) (u1.natAbs%u2.natAbs)<0) (hq:fq=260\/fq=326:=by decide) :
  qh qc fq #[.pointer (qd ⟨g,o,qa⟩),.pointer (qd ⟨gx,ox,qa⟩),.pointer (qd ⟨gy,oy,qa⟩),.pointer (qd ⟨gr,or,qa⟩)] w (q5S g o gr or (u1/u2) (u1%u2) w):=by
 obtain⟨f,a⟩:=qbN h0 hlow;have t:ql (qb (u1%u2<0)=qe):=vv (k00 (by rw[<- a];exact hlow));have C:=vv h;have D:=vv hr;have E:=vv hx;have F:=vv hy;obtain⟨B,m,d,G,H,i,q⟩:=hy.ex;have u:=vv fun fq hq=>copied (fq:=fq) (hq:=hq) B m d _ w i
 have j:=vv fun fq hq w' (hw:qi w.heap.size w w')=>QuoRem (fq:=fq) (hq:=hq) g o gx ox gy oy gr or v u1 u2 ur w' (h.below hw) (hx.below hw) (hy.below hw) (hr.below hw) hne h0 hn
 rw[f,a] at j;clear i q h hx hy hr hlow hn f a;rcases hq with rfl|rfl;go_enter func260,ntmps260;rotate_left;go_enter func326,ntmps326;rotate_left;all_goals
  go_wp2_with fail;refine(u.o _ (by decide)).mono ?_;rintro e I ⟨rfl,x,k⟩;have l:=vv k;clear k x;go_wp2_with fail;refine((j.o _ (by decide)) _ l.o).mono ?_;rintro e J ⟨rfl,hq,b,p⟩;have y:=vv p;have r:=vv hq;have s:=vv b;obtain⟨A,n,c,z,K,_,_⟩:=b.ex;rw[t.o] at z;clear p hq b;go_wp2;go_ret2;exact⟨rfl,r.o,s.o,(Fs.of_below [] l.o (fun _ hp=>by cases hp)).trans y.o⟩
theorem DivMod_low(g o gx ox gy oy gr or:Nat)(v u1 u2 ur:Int)(w:qf)(h:IntAt w g o v)(hx:IntAt w gx ox u1)(hy:IntAt w gy oy u2)(hr:IntAt w gr or ur)(hne:g≠gr)(h0:u2≠0)(hn:Sz u1.natAbs)
  (hlow:sg (qb (u1<0)) (u1.natAbs%u2.natAbs)<0) (hq:fq=260\/fq=326:=by decide) :
  qh qc fq #[.pointer (qd ⟨g,o,qa⟩),.pointer (qd ⟨gx,ox,qa⟩),.pointer (qd ⟨gy,oy,qa⟩),.pointer (qd ⟨gr,or,qa⟩)] w (q5S g o gr or (u1/u2) (u1%u2) w):=by
 obtain⟨E1,E2⟩:=qar h0 hlow;have O:Sz (sg (qb (u1<0) != qb (u2<0)) (u1.natAbs/u2.natAbs)).natAbs:=by rw[q0z];exact hn.mono (k0e _ _)
 have P:(sg (qb (u1<0)) (u1.natAbs%u2.natAbs)).natAbs=u1.natAbs%u2.natAbs:=q0z _ _;have S:u1.natAbs%u2.natAbs<=u2.natAbs:=k16 (k0j _ (by omega));obtain⟨Q,hQ⟩:=yx (sg (qb (u1<0) != qb (u2<0)) (u1.natAbs/u2.natAbs));obtain⟨R,hR⟩:=yx (sg (qb (u1<0)) (u1.natAbs%u2.natAbs));have HI:=vv h;have HR:=vv hr;have HX:=vv hx;have HY:=vv hy;obtain⟨B,m,d,k0,k1,L,a7⟩:=hy.ex;have a4:=L.len;have a0:=L.sm;have HC:=vv fun fq hq=>copied (fq:=fq) (hq:=hq) B m d _ w L
 have M:=vv fun fq hq w' (hw:qi w.heap.size w w')=>QuoRem (fq:=fq) (hq:=hq) g o gx ox gy oy gr or v u1 u2 ur w' (h.below hw) (hx.below hw) (hy.below hw) (hr.below hw) hne h0 hn
 rw[<- hQ] at E1 O M;rw[<- hR] at hlow P M;rw[<- P] at E2 S;have HD:ql (qb (R<0)=qk):=vv (k03 hlow);have J:=vv E1;have K:=vv E2;have N:=vv S;have a1:=vv a4;have a5:=vv a0;have a6:=vv O;clear L a7 h hx hy hr hlow hn O P hQ hR a4 a0 E1 E2 S;by_cases hu:u2<0
 ·rw[k03 hu] at k0;rw[k0n hu] at J;rcases hq with rfl|rfl;go_enter func260,ntmps260;rotate_left;go_enter func326,ntmps326;rotate_left;all_goals
   go_wp2_with fail;refine(HC.o _ (by decide)).mono ?_;rintro e w1 ⟨rfl,G,H⟩;have HO:=vv (G.rd a1.o.symm lr a5.o);have I:=vv H;clear H G;go_wp2_with fail;refine((M.o _ (by decide)) _ I.o).mono ?_;rintro e w2 ⟨rfl,hq,k,t⟩;have HF:=vv t;have T:=vv (HO.o.fs (fun a e=>by cases e;rfl) t);have l:=vv hq;have U:=vv k;obtain⟨A,n,c,m0,m1,i,p⟩:=k.ex;rw[HD.o] at m0;have a2:=hq.lt;have a3:=k.lt;clear t hq k i p;go_wp2_with fail;refine(NewInt 1 _ (by omega) (by omega)).mono ?_;rintro e w3 ⟨g1,rfl,a8,u,x⟩;have V:=vv u;have b:=vv x;clear u x;go_wp2_with fail;refine(Add g o g o g1 0 _ _ _ _ (l.o.below b.o) (l.o.below b.o) V.o a6.o (Sz.small (by decide))).mono ?_;rintro e w4 f;have q:=vv (f.fs (l.o.below b.o));obtain⟨rfl,y,_⟩:=f;have W:=vv y;have r:=vv ((U.o.below b.o).fs1 q.o hne);have z:=vv ((T.o.below b.o rfl).fs (fun a e=>by cases e;rfl) q.o);obtain⟨A4,n4,c4,p0,p1,i,p⟩:=r.o.ex;have C:=vv i;clear y i p;go_wp2_with fail;refine(subWords _ A4 m n4 m c4 _ _ _ z.o C.o (by rw[q04,q04];exact N.o) (C.o.le_of z.o N.o)).mono ?_;rintro e w5 ⟨A5,m5,c5,rfl,s,X,D⟩;rw[q04,q04] at s;have Y:=vv s;have j:=vv D;clear s D;go_wp2_with fail;refine(set_of gr or R (u1%u2) _ A5 m5 c5 _ _ (r.o.below j.o) Y.o (fun a e=>(X a e).2) (by rw[<- K.o];rfl) (q2N (by rw[<- K.o];omega))).mono ?_;rintro e w6 f;have E:=vv (f.fs (r.o.below j.o));obtain⟨rfl,F,_⟩:=f;have Z:=vv F;clear F;go_wp2;go_ret2;refine⟨rfl,?_,Z.o,?_⟩
   ·rw[<- J.o];exact(W.o.below j.o).fs1 E.o (Ne.symm hne)
   ·exact q7v ((Fs.of_nil I.o).trans (HF.o.trans ((Fs.of_nil b.o).trans (q.o.trans ((Fs.of_nil j.o).trans E.o)))))
 ·rw[k00 hu] at k0;rw[k0o hu] at J;rcases hq with rfl|rfl;go_enter func260,ntmps260;rotate_left;go_enter func326,ntmps326;rotate_left;all_goals
   go_wp2_with fail;refine(HC.o _ (by decide)).mono ?_;rintro e w1 ⟨rfl,G,H⟩;have HO:=vv (G.rd a1.o.symm lr a5.o);have I:=vv H;clear H G;go_wp2_with fail;refine((M.o _ (by decide)) _ I.o).mono ?_;rintro e w2 ⟨rfl,hq,k,t⟩;have HF:=vv t;have T:=vv (HO.o.fs (fun a e=>by cases e;rfl) t);have l:=vv hq;have U:=vv k;obtain⟨A,n,c,m0,m1,i,p⟩:=k.ex;rw[HD.o] at m0;have a2:=hq.lt;have a3:=k.lt;clear t hq k i p;go_wp2_with fail;refine(NewInt 1 _ (by omega) (by omega)).mono ?_;rintro e w3 ⟨g1,rfl,a8,u,x⟩;have V:=vv u;have b:=vv x;clear u x;go_wp2_with fail;refine(Sub g o g o g1 0 _ _ _ _ (l.o.below b.o) (l.o.below b.o) V.o a6.o (Sz.small (by decide))).mono ?_;rintro e w4 f;have q:=vv (f.fs (l.o.below b.o));obtain⟨rfl,y,_⟩:=f;have W:=vv y;have r:=vv ((U.o.below b.o).fs1 q.o hne);have z:=vv ((T.o.below b.o rfl).fs (fun a e=>by cases e;rfl) q.o);obtain⟨A4,n4,c4,p0,p1,i,p⟩:=r.o.ex;have C:=vv i;clear y i p;go_wp2_with fail;refine(subWords _ A4 m n4 m c4 _ _ _ z.o C.o (by rw[q04,q04];exact N.o) (C.o.le_of z.o N.o)).mono ?_;rintro e w5 ⟨A5,m5,c5,rfl,s,X,D⟩;rw[q04,q04] at s;have Y:=vv s;have j:=vv D;clear s D;go_wp2_with fail;refine(set_of gr or R (u1%u2) _ A5 m5 c5 _ _ (r.o.below j.o) Y.o (fun a e=>(X a e).2) (by rw[<- K.o];rfl) (q2N (by rw[<- K.o];omega))).mono ?_;rintro e w6 f;have E:=vv (f.fs (r.o.below j.o));obtain⟨rfl,F,_⟩:=f;have Z:=vv F;clear F;go_wp2;go_ret2;refine⟨rfl,?_,Z.o,?_⟩
   ·rw[<- J.o,<- k21];exact(W.o.below j.o).fs1 E.o (Ne.symm hne)
   ·exact q7v ((Fs.of_nil I.o).trans (HF.o.trans ((Fs.of_nil b.o).trans (q.o.trans ((Fs.of_nil j.o).trans E.o)))))
theorem DivMod(g o gx ox gy oy gr or:Nat)(v u1 u2 ur:Int)(w:qf)(h:IntAt w g o v)(hx:IntAt w gx ox u1)(hy:IntAt w gy oy u2)(hr:IntAt w gr or ur)(hne:g≠gr)(h0:u2≠0)(hn:Sz u1.natAbs)(hq:fq=260\/fq=326:=by decide):qh qc fq #[.pointer (qd ⟨g,o,qa⟩),.pointer (qd ⟨gx,ox,qa⟩),.pointer (qd ⟨gy,oy,qa⟩),.pointer (qd ⟨gr,or,qa⟩)] w (q5S g o gr or (u1/u2) (u1%u2) w):=by
 by_cases hlow:sg (qb (u1<0)) (u1.natAbs%u2.natAbs)<0
 ·exact DivMod_low (hq:=hq) g o gx ox gy oy gr or v u1 u2 ur w h hx hy hr hne h0 hn hlow
 ·exact DivMod_up (hq:=hq) g o gx ox gy oy gr or v u1 u2 ur w h hx hy hr hne h0 hn hlow
theorem Div(g o gx ox gy oy:Nat)(v u1 u2:Int)(w:qf)(h:IntAt w g o v)(hx:IntAt w gx ox u1)(hy:IntAt w gy oy u2)(h0:u2≠0)(hn:Sz u1.natAbs)(hq:fq=231\/fq=323:=by decide):qh qc fq #[.pointer (qd ⟨g,o,qa⟩),.pointer (qd ⟨gx,ox,qa⟩),.pointer (qd ⟨gy,oy,qa⟩)] w fun e w'=>e=.returned (.pointer (qd ⟨g,o,qa⟩))/\IntAt w' g o (u1/u2)/\Fs [(g,o,2)] w w':=by
 have n:=h.lt;have d:=vv h;have f:=vv hx;have i:=vv hy;have j:=vv h.head;clear h hx hy;rcases hq with rfl|rfl;go_enter func231,ntmps231;rotate_left;go_enter func323,ntmps323;rotate_left;all_goals
  go_wp2_with fail;have a:ql (∀t,qi w.heap.size w (w.alloc (.cells #[.bool qe,.slice qa 0 0] t))):=vv fun t=>(qg _ w).alloc lr _
  refine(DivMod g o gx ox gy oy _ 0 _ _ _ _ _ (d.o.below (a.o _)) (f.o.below (a.o _)) (i.o.below (a.o _)) (IntAt.zero w _) (by omega) h0 hn).mono ?_;rintro e q ⟨rfl,hq,k,b⟩;have l:=vv hq;have m:=vv b;clear hq k b;go_wp2;go_ret;exact⟨rfl,l.o,((Fs.of_nil (a.o _)).trans m.o).weak (fun p hp c=>by
   simp only[k24,k1b,k1h,k2G] at hp ⊢;rcases hp with rfl|rfl
   ·exact absurd c (Nat.lt_irrefl _)
   ·rfl) (fun p hp _=>by rw[k0i.1 hp];exact j.o)⟩
def q88(d:Nat)(w:qf)(e:Ending)(w':qf):Prop:=∃A n c,e=.returned (.slice A n c)/\Rd w' A n c (toL d)/\(∀a,A=qd a->a.off=0)/\qi w.heap.size w w'
theorem below(g:Nat)(p:Int)(d:Nat)(w:qf)(h:RatAt w g p d)(hq:fq=279\/fq=168:=by decide):qh qc fq #[.pointer (qd ⟨g,0,qa⟩)] w (q88 (ld p d) w):=by
 have m:=h.lt;have i:=q0S (p:=p) h.pos;obtain⟨A,n,c,e,⟨b,j⟩⟩:=h.den;clear h;rcases b with ⟨rfl,b⟩|⟨r,f⟩
 ·rw[b];clear b i;rcases hq with rfl|rfl;go_enter func279,ntmps279;rotate_left;go_enter func168,ntmps168;rotate_left;all_goals
   go_wp2;go_ret;have k:Own (w.alloc (.cells #[.int .u32 1] 54)) w.heap.size 54 [1]:=Own.lit _ (q0y.2 ⟨by omega,q0N⟩) (by simp [q0q]);exact⟨_,1,1,rfl,k.rd rfl lr (by omega),fun a e=>by cases e;rfl,(qg _ _).alloc lr _⟩
 ·have q:=f.sm;have s:((n:Int)==0)=qe:=by simp;omega
  have l:=vv f;clear f i;rcases hq with rfl|rfl;go_enter func279,ntmps279;rotate_left;go_enter func168,ntmps168;rotate_left;all_goals
   go_wp2;go_ret;exact⟨_,n,c,rfl,l.o,j,qg _ _⟩
theorem SetInt(g gx:Nat)(u:Int)(w:qf)(h:RatSh w g)(hx:IntAt w gx 0 u)(hq:fq=228\/fq=41:=by decide):qh qc fq #[.pointer (qd ⟨g,0,qa⟩),.pointer (qd ⟨gx,0,qa⟩)] w (q1X g u 1 w):=by
 have i:=vv h;obtain⟨v,b⟩:=h.int;have j:=vv b;have n:=b.lt;have k:=vv fun fq hq=>Set (fq:=fq) (hq:=hq) g 0 gx 0 v u w b hx
 clear b h hx;rcases hq with rfl|rfl;go_enter func228,ntmps228;rotate_left;go_enter func41,ntmps41;rotate_left;all_goals
  go_wp2_with fail;refine(k.o _ (by decide)).mono ?_;rintro e r a;have a:=a.f j.o;have l:=i.o.num a;obtain⟨hi,x,hx⟩:=l;have p:=hi.lt;have q:=hi.fz 2;have m:=vv a.2.2;have c:=vv hi;obtain⟨rfl,-,-⟩:=a;have d:=vv hx;clear hi;go_wp2;go_ret;refine⟨rfl,RatAt.made c.o ⟨x,d.o⟩ (q20.nil _) (by omega) (by omega) (k2n _) rfl,fs3 ?_⟩;exact m.o.trans (Fs.set2 c.o _)
theorem Num(g:Nat)(p:Int)(d:Nat)(w:qf)(h:RatAt w g p d)(hq:fq=211\/fq=102:=by decide):qh qc fq #[.pointer (qd ⟨g,0,qa⟩)] w (q19 (lp p d) w):=by
 have i:=h.lt;have a:ql (∀t,qi w.heap.size w (w.alloc (.cells #[.bool qe,.slice qa 0 0] t))):=vv fun t=>(qg _ w).alloc lr _
 have b:=vv h.num;clear h;rcases hq with rfl|rfl;go_enter func211,ntmps211;rotate_left;go_enter func102,ntmps102;rotate_left;all_goals
  go_wp2_with fail;refine(Set _ 0 g 0 0 _ _ (IntAt.zero w _) (b.o.below (a.o _))).mono ?_;rintro e j ⟨rfl,c,f⟩;go_wp2;go_ret;exact⟨_,rfl,lr,c,f.below (a.o _) (by simp) lr⟩
theorem RSign(g:Nat)(p:Int)(d:Nat)(w:qf)(h:RatAt w g p d)(hq:fq=212\/fq=79:=by decide):qh qc fq #[.pointer (qd ⟨g,0,qa⟩)] w fun e w'=>e=.returned (.int .i64 p.sign)/\w=w':=by
 have c:=h.lt;have a:=vv fun fq hq=>Sign (fq:=fq) (hq:=hq) g 0 _ w h.num
 have b:=vv (qaa (p:=p) h.pos);clear h;rcases hq with rfl|rfl;go_enter func212,ntmps212;rotate_left;go_enter func79,ntmps79;rotate_left;all_goals
  go_wp2_with fail;refine(a.o _ (by decide)).mono ?_;rintro e f ⟨rfl,rfl⟩;rw[b.o];go_wp2;go_ret;exact⟨rfl,rfl⟩
theorem Rset_zero(g:Nat)(b:Bool)(A B:Option qn)(n c m d:Nat)(xs ys:List Nat)(w:qf)(h:RatSh w g)(ha:Rd w A n c xs)(hb:Rd w B m d ys)(hD:0<val ys)(h0:val xs=0)(hq:fq=214\/fq=155:=by decide):qh qc fq #[.pointer (qd ⟨g,0,qa⟩),.bool b,.slice A n c,.slice B m d] w (q1X g (sg b (val xs)) (val ys) w):=by
 have s:=vv h;obtain⟨v,k⟩:=h.int;have l:=vv k;have E:=k.lt;have t:=vv fun fq hq=>trim (fq:=fq) (hq:=hq) A n c xs w ha
 have u:=vv fun fq hq=>trim (fq:=fq) (hq:=hq) B m d ys w hb
 have y:=vv hD;have p:=vv h0;clear k h ha hb hD h0;rcases hq with rfl|rfl;go_enter func214,ntmps214;rotate_left;go_enter func155,ntmps155;rotate_left;all_goals
  go_wp2_with fail;refine(t.o _ (by decide)).mono ?_;rintro e z ⟨C,rfl,rfl,j⟩;obtain rfl:C=0:=by rw[<- j.words];exact q06.2 p.o
  clear j;go_wp2_with fail;refine(u.o _ (by decide)).mono ?_;rintro e z ⟨H,rfl,rfl,j⟩;clear j;go_wp2_with fail;refine(set_of g 0 v 0 _ qa 0 0 0 _ l.o (Rd.nil _) (fun a e=>by cases e) rfl rfl).mono ?_;rintro e I i;have i:=i.f l.o;obtain⟨hi,x,hx⟩:=s.o.num i;have F:=hi.lt;have G:=hi.fz 2;have D:=vv i.2.2;have q:=vv hi;obtain⟨rfl,-,-⟩:=i;have r:=vv hx;clear hi;go_wp2;go_ret;refine⟨rfl,RatAt.made q.o ⟨x,r.o⟩ (q20.nil _) y.o (by omega) (k2n _) ?_,fs3 ?_⟩
  ·rw[p.o];cases b<;>simp [sg]
  ·exact D.o.trans (Fs.set2 q.o _)
theorem SetInt64R(g:Nat)(x:Int)(w:qf)(h:RatSh w g)(h1:-9223372036854775808<=x)(h2:x<=9223372036854775807)(hq:fq=220\/fq=275:=by decide):qh qc fq #[.pointer (qd ⟨g,0,qa⟩),.int .i64 x] w (q1X g x 1 w):=by
 have d:=vv h;have f:=vv fun fq hq w=>NewInt (fq:=fq) (hq:=hq) x w h1 h2
 clear h h1 h2;rcases hq with rfl|rfl;go_enter func220,ntmps220;rotate_left;go_enter func275,ntmps275;rotate_left;all_goals
  go_wp2_with fail;refine((f.o _ (by decide)) _).mono ?_;rintro e p ⟨i,rfl,n,a,b⟩;have j:=vv a;have c:=vv b;clear a b;go_wp2_with fail;refine(SetInt g i x _ (d.o.below c.o) j.o).mono ?_;rintro e q ⟨rfl,k,l⟩;have m:=vv k;go_wp2;go_ret;exact⟨rfl,m.o,l.after c.o⟩
end AB
namespace B
open AB
open Go Go.RowKit
def Mul:=@AB.Mul 278
def added_same:=@AB.added_same 255
def added_ge:=@AB.added_ge 255
def added_lt:=@AB.added_lt 255
def added:=@AB.added 255
end B
namespace B
open AB
open Go Go.RowKit
def Add:=@AB.Add 160
def Sub:=@AB.Sub 356
def Lsh:=@AB.Lsh 169
def Uint64:=@AB.Uint64 276
def NewInt:=@AB.NewInt 114
end B
namespace B
open AB
open Go Go.RowKit
def Cmp_ff:=@AB.Cmp_ff 113
def Cmp_tt:=@AB.Cmp_tt 113
def Cmp_ne:=@AB.Cmp_ne 113
def Cmp:=@AB.Cmp 113
def Bit0:=@AB.Bit0 325
end B
namespace B
open AB
open Go Go.RowKit
def QuoRem:=@AB.QuoRem 253
def DivMod_up:=@AB.DivMod_up 326
def DivMod_low:=@AB.DivMod_low 326
def DivMod:=@AB.DivMod 326
def Div:=@AB.Div 323
end B
namespace B
open AB
open Go Go.RowKit
theorem Exp(g o gx ox gy oy:Nat)(v:Int)(x y:Nat)(w:qf)(h:IntAt w g o v)(hx:IntAt w gx ox (x:Int))(hy:IntAt w gy oy (y:Int))(hx0:0<x)(hy0:0<y)(hs:Sz (x^y))(hsy:Sz y):qh qc 200 #[.pointer (qd ⟨g,o,qa⟩),.pointer (qd ⟨gx,ox,qa⟩),.pointer (qd ⟨gy,oy,qa⟩),.pointer qa] w (q6m g o ((x^y:Nat):Int) w):=by
 have U:=vv h;have HX:=vv hx;have HY:=vv hy;have b6:=hy.lt;have E:ql (∀q,q<=y->Sz (x^q)):=vv fun q hq=>hs.mono (k04 hx0 hq)
 have a3:ql ((y:Int).sign=1):=vv (k0r (by omega));have a4:=vv hsy;have c0:=vv hx0;have a5:=vv hy0;have s:ql (∀(w:qf) t,qi w.heap.size w (w.alloc (.cells #[.bool qe,.slice qa 0 0] t))):=vv fun w t=>(qg _ w).alloc lr _
 have HZ:=vv (IntAt.zero w 82);clear h hx hy hs hsy hx0 hy0;go_enter func200,ntmps200;go_wp2_with fail;refine(NewInt 1 _ (by omega) (by omega)).mono ?_;rintro e r ⟨k,rfl,P,H,I⟩;have a6:=vv H;have J:=vv ((s.o w 82).trans (I.mono (Below.size (s.o w 82))));have a7:=vv (HZ.o.below I);have b7:=H.lt;have b8:w.heap.size<k:=by simp at P;omega
 have a0:=J.o.size;clear H I P;go_wp2_with fail;have K:=vv (J.o.trans ((s.o r 82).mono J.o.size));have Q:=vv (IntAt.zero r 82);refine(Set _ 0 gx ox 0 _ _ Q.o (HX.o.below K.o)).mono ?_;rintro e V c;have c:=c.f Q.o;have L:=vv (c.below K.o (K.o.size) a0);have a8:=vv ((a6.o.below (s.o r 82)).fs1 c.2.2 (by omega));have a9:=vv ((a7.o.below (s.o r 82)).fs1 c.2.2 (by omega));have b0:=vv c.2.1;obtain⟨rfl,-,-⟩:=c;have M:=vv (HY.o.below L.o);go_wp2_with fail;refine(Sign gy oy _ _ M.o).mono ?_;rintro e W ⟨rfl,rfl⟩;rw[a3.o];obtain⟨B,m,d,k0,k1,F,G⟩:=M.o.ex;have O:=vv F;have X:=F.words;have HM:=vv X;have c1:=F.sz a4.o;have a2:=M.o.lt;clear F G k0 X;go_wp2_with fail;refine(copied _ _ _ _ _ O.o).mono ?_;rintro e W ⟨rfl,Y,u⟩;have b1:ql (ExpInv w w.heap.size k r.heap.size (qd ⟨V.heap.size,0,qa⟩) m x y 0 W):=vv
  ⟨a9.o.below u,by simpa using a8.o.below u,b0.o.below u,Y.rd O.o.len.symm lr O.o.sm,fun a e=>by cases e;rfl,L.o.trans (u.mono L.o.size)⟩
 clear Y u;go_wp2;go_loopw [13] (fun i wr=>∃(z:Int) (j:Nat),i=.int .i64 z/\z+1=j/\j<=32*m/\ExpInv w w.heap.size k r.heap.size (qd ⟨V.heap.size,0,qa⟩) m x y (y/2^j) wr) (fun i _=>(intOf i+1).toNat)
 case atStart =>refine⟨_,32*m,rfl,by omega,lr,?_⟩;have R:=q0f y;have b2:words y=m:=HM.o;rw[b2,q1q] at R;rw[k0N R];exact b1.o
 case round =>
  obtain⟨z,j,rfl,G,hj,Z⟩:=hrel;have l:=vv Z;clear Z;rcases k01 j with rfl|b9
  ·obtain rfl:z = -1:=by omega
   clear G;go_wp2_with fail;have S:=l.o.o;rw[k0J,k1m] at S;refine(Set g o k 0 _ _ _ (U.o.below l.o.bel) S).mono ?_;rintro e w5 c;have hF:=vv ((c.f (U.o.below l.o.bel)).after l.o.bel);obtain⟨rfl,b3,-⟩:=c;go_wp2;go_ret;exact⟨rfl,b3,hF.o⟩
  ·obtain⟨i,rfl⟩:∃i,j=i+1:=⟨j-1,by omega⟩;obtain rfl:z=(i:Int):=by omega
   clear G;have i1:(0:Int)<=(i:Int):=by omega
   have i2:(i:Int)<32*(m:Int):=by omega
   go_wp2_with fail;refine(Mul k 0 k 0 k 0 _ _ _ _ l.o.o l.o.o l.o.o (by simpa using E.o _ (k0e _ _)) (by simpa using E.o _ (k0e _ _))).mono ?_;rintro e w4 c;have n:=vv (l.o.step c (q':=2*(y/2^(i+1))) (by rw[<- k08,<- k0h];congr 2;omega) (by omega) (by omega) (by omega));obtain⟨rfl,-,-⟩:=c;obtain⟨b,off,b4,c2,hc⟩:=n.o.words.cell (by omega);cases b4;have T:=hc (i/32) (by omega);rw[k0U] at T;clear hc;have C:=q3L (nth (toL y) (i/32)) (i%32) (n.o.words.nth_lt _);rw[q4Y] at C;have HQ:=vv (q2Q y i);by_cases hb:y/2^i%2=1
   ·rw[k03 hb] at C;have D:ql (y/2^i=2*(y/2^(i+1))+1):=vv (by have:=HQ.o;omega);clear hb;go_wp2_with fail;refine(Mul k 0 k 0 r.heap.size 0 _ _ _ _ n.o.o n.o.o n.o.base (by simpa using E.o _ (by have:=k0e y (2^i);have:=D.o;omega)) (by simpa using E.o 1 a5.o)).mono ?_;rintro e w5 c;have p:=vv (n.o.step c (q':=y/2^i) (by rw[D.o,k0h x _ 1,k23,k08]) (by omega) (by omega) (by omega));obtain⟨rfl,-,-⟩:=c;obtain⟨A5,c5,b5⟩:=p.o.by_.nil;have a1:=p.o.by_.lt;clear T C;go_wp2;go_roundw
    case rel=>exact⟨_,i,rfl,by omega,by omega,p.o⟩
    case measure=>simp [intOf]
   ·rw[k00 hb] at C;have D:ql (y/2^i=2*(y/2^(i+1))):=vv (by have:=HQ.o;omega);clear hb;have N:=n.o;rw[<- D.o] at N;have p:=vv N;obtain⟨A5,c5,b5⟩:=p.o.by_.nil;have a1:=p.o.by_.lt;clear N;go_wp2;go_roundw
    case rel=>exact⟨_,i,rfl,by omega,by omega,p.o⟩
    case measure=>simp [intOf]
end B
namespace B
open AB
open Go Go.RowKit
def below:=@AB.below 168
def SetInt:=@AB.SetInt 41
def Num:=@AB.Num 102
theorem Denom(g:Nat)(p:Int)(d:Nat)(w:qf)(h:RatAt w g p d):qh qc 103 #[.pointer (qd ⟨g,0,qa⟩)] w (q19 (ld p d:Nat) w):=by
 have z:=h.lt;have i:ql (∀t,qi w.heap.size w (w.alloc (.cells #[.bool qe,.slice qa 0 0] t))):=vv fun t=>(qg _ w).alloc lr _
 have s:=vv h;clear h;go_enter func103,ntmps103;go_wp2_with fail;refine(below g p d _ (s.o.below (i.o _))).mono ?_;rintro e C ⟨A,n,c,rfl,l,D,b⟩;have u:=vv ((IntAt.zero w 82).below b);have j:=vv l;have q:=vv ((i.o 82).trans (b.mono (i.o _).size));clear l b;go_wp2_with fail;refine(copied _ _ _ _ _ j.o).mono ?_;rintro e E ⟨rfl,m,f⟩;have v:=vv m;have r:=vv (u.o.below f);have k:=vn q f;clear m f;go_wp2_with fail;refine(set_of _ 0 0 (ld p d:Nat) _ _ n n (ld p d) _ r.o (v.o.rd j.o.len.symm lr j.o.sm) (fun a e=>by cases e;rfl) rfl (q2N (by omega))).mono ?_;rintro e F ⟨rfl,x,y⟩;go_wp2;go_ret;exact⟨_,rfl,lr,x,y.below k.o k.o.size lr⟩
def RSign:=@AB.RSign 79
end B
namespace B
open AB
open Go Go.RowKit
def Rset_zero:=@AB.Rset_zero 155
theorem q4c(g:Nat)(b:Bool)(A B:Option qn)(n c m d:Nat)(xs ys:List Nat)(w:qf)(h:RatSh w g)(ha:Rd w A n c xs)(hb:Rd w B m d ys)(hD:0<val ys)(h0:0<val xs)(hza:∀a,A=qd a->a.off=0)(hzb:∀a,B=qd a->a.off=0)
  (hst:Std w) (hn:n<549755813888) (hm:m<549755813888) :
  qh qc 155 #[.pointer (qd ⟨g,0,qa⟩),.bool b,.slice A n c,.slice B m d] w (q1X g (sg b (val xs)) (val ys) w):=by
 have HH:=vv h;obtain⟨v,z⟩:=h.int;have Q:=vv z;have b9:=z.lt;have HA:=vv (trim A n c xs w ha);have HB:=vv (trim B m d ys w hb);have HD:=vv hD;have H0:=vv h0;have X:=vv hst;have Y:=vv ha.lim;have Z:=vv hb.lim;have a3:=vv ha.len;have a4:=vv hb.len;have C:=vv (q0e (n:=val xs) hD);have E:=vv (q9h (b:=b) (N:=val xs) hD);have F:ql (0<val ys/Nat.gcd (val xs) (val ys)):=vv (k1e (k13 hD (k0z _ _)) C.o);clear z h ha hb hD h0 hst;go_enter func155,ntmps155;go_wp2_with fail;refine HA.o.mono ?_;rintro e w' ⟨l,rfl,rfl,i⟩;have c0:l<=n:=i.trim_le Y.o (by rw[a3.o];exact lr);have c3:0<l:=by
  rcases k01 l with e|e
  ·have:=i.words;rw[e] at this;have:=q06.1 this;have:=H0.o;omega
  ·exact e
 have c5:=i.sm;have R:=vv i;clear i;go_wp2_with fail;refine HB.o.mono ?_;rintro e w' ⟨D,rfl,rfl,i⟩;have c6:D<=m:=i.trim_le Z.o (by rw[a4.o];exact lr);have G:=vv i;clear i;have c7:((l:Int)==0)=qe:=by simp;omega
 go_wp2_with fail;refine(q1I A B l D c d _ _ _ R.o G.o X.o (by omega) (by omega)).mono ?_;rintro e w1 ⟨S,T,U,rfl,V,a5,y⟩;have H:=vv V;have I:=vv y;have a6:=vv (R.o.below y rfl);have a1:=vv (G.o.below y rfl);clear V;go_wp2_with fail;refine q02 (fun _=>True) 7
  (.still 0 (.still 1 (.still 2 (.still 3 (.still 4 (.still 5 (.one 6 .done))))))) (by kernel_rfl) (by kernel_rfl) (fun _ _ d _ _ h=>by cases d<;>exact h) trivial (fun hS0=>?_)
 clear hS0
 iterate 6
  refine q01 (v:=?_) rfl (by rfl) ?_ ?_;rotate_left
  ·intro w c8;go_simp;with_reducible rfl
  simp only[Act.put,sa,sb,sc]
 refine q03 rfl (by rfl) (fun K hK=>?_);go_simp;refine(by_ A S l T c U _ _ _ a6.o.drew H.o.drew C.o (by omega)).mono ?_;rintro e w2 ⟨W,k2,c2,rfl,q,J,r⟩;have s:ql (qi w.heap.size w w2):=vv ((q05 I.o).trans (r.mono (by simpa using I.o.size)));have L:∀a,W=qd a->a.off=0:=fun a e=>by
  rcases J with j|j
  ·exact(j a e).2
  ·exact hza a (j ▸ e)
 have HQ:=vv q;have a7:=vv L;have a8:=vv (H.o.drew.below r rfl);have a0:=vv (a1.o.drew.below r rfl);clear q L J r;go_wp2_with fail;refine hK.out _ _ trivial (fun a2=>?_);clear hK;refine q07 ?_;go_wp2_with fail;refine(set_of g 0 v (sg b (val xs/Nat.gcd (val xs) (val ys))) _ W k2 c2 _ _ (Q.o.below s.o) HQ.o a7.o (q0z _ _) (q1d _ _)).mono ?_;rintro e w3 k;have k:=k.f (Q.o.below s.o);have a9:=vv k.2.2;have b0:=vv ((HH.o.below s.o).num k);have b1:=vv (a8.o.fs (fun a e=>(a5 a e).2) k.2.2);have b2:=vv (a0.o.fs hzb k.2.2);obtain⟨rfl,-,-⟩:=k;go_wp2_with fail;refine(by_ B S D T d U _ _ _ b2.o b1.o C.o (by omega)).mono ?_;rintro e w4 ⟨A4,k4,c4,rfl,q,M,t⟩;have O:∀a,A4=qd a->a.off=0:=fun a e=>by
  rcases M with j|j
  ·exact(j a e).2
  ·exact hzb a (j ▸ e)
 have b3:=vv q;have b4:=vv O;obtain⟨hi,x,hx⟩:=b0.o;have u:=hi.below t;have b5:=(t.cell (p:=⟨g,2,qa⟩) hi.lt).trans hx;have b8:=u.lt;have c9:=u.fz 2;have P:=vv u;have b6:=vv b5;have b7:ql (Fs [(g,0,2)] w w4):=vv (((a9.o.after s.o).trans (Fs.of_nil t)).drop (fun p hp _=>by simpa using hp) (fun p hp=>by simpa using hp));clear q O M t hi u hx;go_wp2;go_ret;refine⟨rfl,RatAt.made P.o ⟨x,b6.o⟩ (b3.o.den F.o b4.o) HD.o F.o E.o.1 E.o.2,fs3 ?_⟩;exact b7.o.trans (Fs.set2 P.o _)
end B
namespace B
open AB
open Go Go.RowKit
theorem q9B(g:Nat)(b:Bool)(A B:Option qn)(n c m d:Nat)(xs ys:List Nat)(w:qf)(h:RatSh w g)(ha:Rd w A n c xs)(hb:Rd w B m d ys)(hD:0<val ys)(hza:∀a,A=qd a->a.off=0)(hzb:∀a,B=qd a->a.off=0)
  (hst:Std w) (hn:n<549755813888) (hm:m<549755813888) :
  qh qc 155 #[.pointer (qd ⟨g,0,qa⟩),.bool b,.slice A n c,.slice B m d] w (q1X g (sg b (val xs)) (val ys) w):=by
 rcases k01 (val xs) with e|e
 ·exact Rset_zero g b A B n c m d xs ys w h ha hb hD e
 ·exact q4c g b A B n c m d xs ys w h ha hb hD e hza hzb hst hn hm
theorem SetFrac(g gx gy:Nat)(u:Int)(D:Nat)(w:qf)(h:RatSh w g)(hx:IntAt w gx 0 u)(hy:IntAt w gy 0 (D:Int))(hD:0<D)(hst:Std w)(hn:Sz u.natAbs)(hm:Sz D):qh qc 78 #[.pointer (qd ⟨g,0,qa⟩),.pointer (qd ⟨gx,0,qa⟩),.pointer (qd ⟨gy,0,qa⟩)] w (q1X g u D w):=by
 have r:=hx.lt;have s:=hy.lt;obtain⟨A,n,c,F,G,H,hz⟩:=hx.ex;obtain⟨B,m,d,y,I,P,hy⟩:=hy.ex;rw[k00 (by omega)] at y;have C:Rd w B m d (toL D):=P;have J:=vv H;have L:=vv C;have HH:=vv h;have R:=vv hst;have HD:=vv hD;have HN:=vv (H.sz hn);have HM:=vv (C.sz hm);clear H hz P C hy h hx hn hm hst hD;have fin:∀i b k l,qi w.heap.size w i->qi i.heap.size i b->Rd b k n n (toL u.natAbs)->Rd b l m m (toL D)->(∀a,k=qd a->a.off=0)->(∀a,l=qd a->a.off=0) ->qh qc 155 #[.pointer (qd ⟨g,0,qa⟩),.bool (qb (u<0)),.slice k n n,.slice l m m] b (q1X g u D w):=by intro i b k l N S ha hb T U;have E:=N.trans (S.mono N.size);refine(q9B g _ k l n n m m _ _ b (HH.o.below E) ha hb (by rw[q04];exact HD.o) T U (R.o.fs (Fs.of_nil E)) (by have:=HN.o;omega) (by have:=HM.o;omega)).mono ?_;rintro e q ⟨he,z,M⟩;rw[q04,q04,q4V] at z;exact⟨he,z,M.after E⟩
 have V:=vv fin;clear fin;go_enter func78,ntmps78;go_wp2_with fail;refine q02 (fun q=>q.cell? ⟨gx,0,qa⟩=qd (.bool (qb (u<0)))/\q.cell? ⟨gx,1,qa⟩=qd (.slice A n c)/\q.cell? ⟨gy,0,qa⟩=qd (.bool qe)/\q.cell? ⟨gy,1,qa⟩=qd (.slice B m d)) 20
  (.still 0 (.still 1 (.still 2 (.still 3 (.still 4 (.still 5 (.still 6 (.still 7 (.still 8 (.still 9 (.still 10 (.still 11 (.still 12 (.still 13 (.still 15 (.still 16 (.still 17 (.still 18 (.one 14 (.one 19 .done)))))))))))))))))))) (by kernel_rfl) (by kernel_rfl) (fun _ _ d _ _ h=>by cases d<;>exact h) ⟨F,G,y,I⟩ (fun hS0=>?_)
 iterate 18
  refine q01 (v:=?_) rfl (by rfl) ?_ ?_;rotate_left
  ·intro w a0;go_simp;with_reducible rfl
  simp only[Act.put,sa,sb,sc]
 refine q03 rfl (by rfl) (fun K hK=>?_);go_simp;refine(copied _ _ _ _ _ J.o.drew).mono ?_;rintro e i ⟨rfl,Q,j⟩;have HO:=vv (Q.rd J.o.len.symm lr J.o.sm);have f:ql (qi w.heap.size w i):=vv ⟨j.os,j.tape,j.output,j.size,j.block⟩;clear Q j;go_wp2_with fail;refine hK.out _ _ ⟨(f.o.cell (p:=⟨gx,0,qa⟩) r).trans F,(f.o.cell (p:=⟨gx,1,qa⟩) r).trans G,(f.o.cell (p:=⟨gy,0,qa⟩) s).trans y,(f.o.cell (p:=⟨gy,1,qa⟩) s).trans I⟩ (fun W=>?_);clear hK;refine q03 rfl (by rfl) (fun K hK=>?_);go_simp;refine(copied _ _ _ _ _ (L.o.below f.o rfl)).mono ?_;rintro e b ⟨rfl,O,t⟩;have X:=vv (O.rd L.o.len.symm lr L.o.sm);have Y:=vv (HO.o.below t rfl);have Z:=vv t;have x:=vn f t;clear O t;go_wp2_with fail;refine hK.out _ _ ⟨(x.o.cell (p:=⟨gx,0,qa⟩) r).trans F,(x.o.cell (p:=⟨gx,1,qa⟩) r).trans G,(x.o.cell (p:=⟨gy,0,qa⟩) s).trans y,(x.o.cell (p:=⟨gy,1,qa⟩) s).trans I⟩ (fun W=>?_);clear hK;refine q07 ?_;go_wp2_with fail;refine(V.o i b _ _ f.o Z.o Y.o X.o (fun a e=>by cases e;rfl) (fun a e=>by cases e;rfl)).mono ?_;rintro e w3 ⟨rfl,z,M⟩;have HR:=vv z;go_wp2;go_ret;exact⟨rfl,HR.o,M⟩
def SetInt64R:=@AB.SetInt64R 275
theorem q7Z(g:Nat)(x:Int)(D:Nat)(w:qf)(h:RatSh w g)(h1:-9223372036854775808<=x)(h2:x<=9223372036854775807)(hD:0<D)(hD2:D<=9223372036854775807)(hst:Std w):qh qc 355 #[.pointer (qd ⟨g,0,qa⟩),.int .i64 x,.int .i64 (D:Int)] w (q1X g x D w):=by
 have p:=vv h;have i:=vv hst;have q:=vv fun w=>NewInt x w h1 h2
 have j:=vv fun w=>NewInt D w (by omega) (by omega)
 have k:ql (Sz x.natAbs):=vv (Sz.small (by omega));have l:ql (Sz D):=vv (Sz.small (by omega));clear h hst h1 h2 hD2;go_enter func355,ntmps355;go_wp2_with fail;refine(q.o _).mono ?_;rintro e F ⟨r,rfl,C,c,d⟩;have s:=vv c;have t:=vv d;clear c d;go_wp2_with fail;refine(j.o _).mono ?_;rintro e G ⟨u,rfl,E,f,a⟩;have m:=vv (s.o.below a);have n:=vv f;have b:=vn t a;clear f a;go_wp2_with fail;refine(SetFrac g r u x D _ (p.o.below b.o) m.o n.o hD (i.o.fs (Fs.of_nil b.o)) k.o l.o).mono ?_;rintro e H ⟨rfl,v,y⟩;have z:=vv v;go_wp2;go_ret;exact⟨rfl,z.o,y.after b.o⟩
theorem NewRat(x:Int)(D:Nat)(w:qf)(h1:-9223372036854775808<=x)(h2:x<=9223372036854775807)(hD:0<D)(hD2:D<=9223372036854775807)(hst:Std w):qh qc 324 #[.int .i64 x,.int .i64 (D:Int)] w (q4e x D w):=by
 have c:=vv hst;clear hst;go_enter func324,ntmps324;go_wp2_with fail;have a:ql (∀t,qi w.heap.size w (w.alloc (.cells #[.bool qe,.slice qa 0 0,.slice qa 0 0] t))):=vv fun t=>(qg _ w).alloc lr _
 refine(q7Z _ x D _ (RatAt.zero w 87).sh h1 h2 hD hD2 (c.o.fs (Fs.of_nil (a.o _)))).mono ?_;rintro e h b;have d:=b.below (a.o _) (by simp) lr;obtain⟨rfl,f,i⟩:=b;have g:=vv f;go_wp2;go_ret;exact⟨_,rfl,lr,g.o,d⟩
end B
namespace B
open AB
open Go Go.RowKit
theorem Inv(g gx:Nat)(N d:Nat)(w:qf)(h:RatSh w g)(hx:RatAt w gx (N:Int) d)(hN:0<N):qh qc 170 #[.pointer (qd ⟨g,0,qa⟩),.pointer (qd ⟨gx,0,qa⟩)] w (q1X g (d:Int) N w):=by have Q:=vv h;have HX:=vv hx;have k:=vv (q2l hN hx.pos);have HP:=vv (q0S (p:=(N:Int)) hx.pos);have R:=vv hN;have H:=q2B (p:=(N:Int)) hx.pos;have t:=hx.lt;obtain⟨v,q⟩:=h.int;have X:=q.lt;have C:=vv q;obtain⟨A,n,c,S,T,D,hz⟩:=hx.num.ex;rw[k00 (by omega)] at S;have r:=vv D;have I:=vv (below gx _ _ w hx);clear h hx q D H hN;go_enter func170,ntmps170;go_wp2_with fail;refine I.o.mono ?_;rintro e w1 ⟨B,m,d1,rfl,E,Y,u⟩;have s:=vv E;have J:=vv u;clear E u;go_wp2_with fail;refine(copied _ _ _ _ _ s.o).mono ?_;rintro e U ⟨rfl,F,y⟩;have V:=vv (F.rd s.o.len.symm lr s.o.sm);have i:=vn J y;have Z:=(i.o.cell (p:=⟨gx,1,qa⟩) t).trans T;have a0:gx<U.heap.size:=k02 t i.o.size;clear F y;go_wp2_with fail;refine(copied _ _ _ _ _ (r.o.below i.o rfl)).mono ?_;rintro e w3 ⟨rfl,z,l⟩;have K:=vv ((z.rd r.o.len.symm lr r.o.sm).den k.o.2.2 (fun a e=>by cases e;rfl));have L:=vv (V.o.below l rfl);have j:=vn i l;clear z l;go_wp2_with fail;refine(set_of g 0 v (ld N d:Nat) _ _ m m (ld N d) _ (C.o.below j.o) L.o (fun a e=>by cases e;rfl) rfl (q2N (by omega))).mono ?_;rintro e w4 b;have b:=b.f (C.o.below j.o);have M:=vv ((Q.o.below j.o).num b);have W:=vv (b.2.2.after j.o);have O:=vv (K.o.fs b.2.2);obtain⟨rfl,-,-⟩:=b;obtain⟨hi,x,hx⟩:=M.o;have a1:=hi.lt;have a2:=hi.fz 2;have G:=vv hi;have P:=vv hx;clear hi;go_wp2;go_ret;exact⟨rfl,RatAt.made G.o ⟨x,P.o⟩ O.o R.o k.o.2.2 k.o.1 k.o.2.1,fs3 (W.o.trans (Fs.set2 G.o _))⟩
theorem q1C(g:Nat)(s:Bool)(A D B C:Option qn)(na ca nd cd nb cb nc cc a d b c:Nat)(w:qf)(h:RatSh w g)(ha:Rd w A na ca (toL a))(hb:Rd w B nb cb (toL b))(hd0:0<d)(hc0:0<c)
  (h0:a=0\/0<a/\b=0) (hst:Std w) :
  qh qc 167 #[.pointer (qd ⟨g,0,qa⟩),.bool s,.slice A na ca,.slice D nd cd,.slice B nb cb,.slice C nc cc] w (q1X g (sg s (a*b)) (d*c) w):=by
 have j:=ha.words;have k:=hb.words;have x:=ha.sm;have y:=hb.sm;have q:ql (sg s (a*b)=0):=vv (by have:a*b=0:=(by rcases h0 with h|h<;>simp [h]);rw[this];cases s<;>rfl);have r:=vv (k0l hd0 hc0);have p:ql (qh qc 155 #[.pointer (qd ⟨g,0,qa⟩),.bool qe,.slice qa 0 0,.slice (qd ⟨w.heap.size,0,qa⟩) 1 1] (w.alloc (.cells #[.int .u32 1] 54)) (q1X g (sg s (a*b)) (d*c) w)):=by have l:qi w.heap.size w (w.alloc (.cells #[.int .u32 1] 54)):=(qg _ _).alloc lr _;have t:Own (w.alloc (.cells #[.int .u32 1] 54)) w.heap.size 54 [1]:=Own.lit _ (q0y.2 ⟨by omega,q0N⟩) (by simp [q0q]);refine vv ((q9B g qe qa (qd ⟨w.heap.size,0,qa⟩) 0 0 1 1 [] [1] _ (h.below l) (Rd.nil _) (t.rd rfl lr (by omega)) (by decide) (fun a e=>by cases e) (fun a e=>by cases e;rfl) (hst.fs (Fs.of_nil l)) (by omega) (by omega)).mono ?_);rintro e z ⟨u,f,i⟩;refine⟨u,?_,i.after l⟩;rw[q.o];exact f.cross r.o (by simp [sg,val])
 clear ha hb hd0 hc0 hst h;rcases h0 with rfl|⟨ha,rfl⟩
 ·obtain rfl:na=0:=j.symm;clear j k;go_enter func167,ntmps167;go_wp2_with fail;refine p.o.mono ?_;rintro e v ⟨rfl,f,i⟩;have m:=vv f;go_wp2;go_ret;exact⟨rfl,m.o,i⟩
 ·obtain rfl:nb=0:=k.symm;have E:((na:Int)==0)=qe:=by have:=q06 (n:=a);simp;omega
  clear j k ha;go_enter func167,ntmps167;go_wp2_with fail;refine p.o.mono ?_;rintro e v ⟨rfl,f,i⟩;have m:=vv f;go_wp2;go_ret;exact⟨rfl,m.o,i⟩
theorem q37(g:Nat)(s:Bool)(A D B C:Option qn)(na ca nd cd nb cb nc cc a d b c:Nat)(w:qf)(h:RatSh w g)(ha:Rd w A na ca (toL a))(hd:Rd w D nd cd (toL d))(hb:Rd w B nb cb (toL b))(hc:Rd w C nc cc (toL c))(hd0:0<d)(hc0:0<c)
  (had:Nat.gcd a d=1) (hbc:Nat.gcd b c=1) (ha0:0<a) (hb0:0<b) (hst:Std w) (sa:Sz a) (sd:Sz d) (sb:Sz b) (sc:Sz c) :
  qh qc 167 #[.pointer (qd ⟨g,0,qa⟩),.bool s,.slice A na ca,.slice D nd cd,.slice B nb cb,.slice C nc cc] w (q1X g (sg s (a*b)) (d*c) w):=by
 have a6:=ha.words;have a7:=hb.words;have b4:=ha.sz sa;have b5:=hb.sz sb;have b6:=hc.sz sc;have b7:=hd.sz sd;have t0:((na:Int)==0)=qe:=by have:=q06 (n:=a);simp;omega
 have t1:((nb:Int)==0)=qe:=by have:=q06 (n:=b);simp;omega
 have S:=vv (q7d hd0 hc0 had hbc ha0 hb0);have N:=vv (q0e (n:=a) hc0);have F:=vv (q0e (n:=b) hd0);have HM:=vv (k0l hd0 hc0);have T:ql (0<d/Nat.gcd b d*(c/Nat.gcd a c)):=vv (k0l (k1e (k13 hd0 (k0z _ _)) F.o) (k1e (k13 hc0 (k0z _ _)) N.o));have U:=vv hst;have HH:=vv h;obtain⟨v,hv⟩:=h.int;have HV:=vv hv;have O:=vv ha;have P:=vv hb;have Q:=vv hc;have R:=vv hd;clear h ha hb hc hd hd0 hc0 had hbc ha0 hb0 hst hv a6 a7 sa sb sc sd;go_enter func167,ntmps167;go_wp2_with fail;refine(q1I A C na nc ca cc a c w O.o Q.o U.o (by omega) (by omega)).mono ?_;rintro e w1 ⟨G1,g1,k1,rfl,V,b8,W⟩;have p:=vv W;have i:=vv V;clear V W;go_wp2_with fail;refine(q1I B D nb nd cb cd b d _ (P.o.below p.o rfl) (R.o.below p.o rfl) (U.o.fs (Fs.of_nil p.o)) (by omega) (by omega)).mono ?_;rintro e w2 ⟨G2,g2,k2,rfl,X,b9,G⟩;have Y:=vn p G;have i:=vv (i.o.below G rfl);have k:=vv X;clear X G;go_wp2_with fail;refine(by_ A G1 na g1 ca k1 a _ _ (O.o.below Y.o rfl) i.o N.o (by omega)).mono ?_;rintro e w3 ⟨A3,n3,c3,rfl,H,-,q⟩;have Z:=vn Y q;have i:=vv (i.o.below q rfl);have k:=vv (k.o.below q rfl);have c0:=H.le_of O.o (k0e _ _);have r:=vv H;clear H q;go_wp2_with fail;refine(by_ B G2 nb g2 cb k2 b _ _ (P.o.below Z.o rfl) k.o F.o (by omega)).mono ?_;rintro e w4 ⟨A4,n4,c4,rfl,I,-,m⟩;have a8:=vn Z m;have i:=vv (i.o.below m rfl);have k:=vv (k.o.below m rfl);have r:=vv (r.o.below m rfl);have c1:=I.le_of P.o (k0e _ _);have a0:=vv I;clear I m;go_wp2_with fail;refine(mulWords A3 A4 n3 n4 c3 c4 _ _ _ r.o a0.o (by omega)).mono ?_;rintro e w5 j;obtain⟨A5,n5,c5,rfl,a1,a9,t⟩:=j.val2;have a2:=vn a8 t;have i:=vv (i.o.below t rfl);have k:=vv (k.o.below t rfl);have l:=vv a1;clear a1 t j r a0;go_wp2_with fail;refine(by_ D G2 nd g2 cd k2 d _ _ (R.o.below a2.o rfl) k.o F.o (by omega)).mono ?_;rintro e w6 ⟨A6,n6,c6,rfl,J,-,u⟩;have a3:=vn a2 u;have i:=vv (i.o.below u rfl);have l:=vv (l.o.below u rfl);have c2:=J.le_of R.o (k0e _ _);have y:=vv J;clear J u;go_wp2_with fail;refine(by_ C G1 nc g1 cc k1 c _ _ (Q.o.below a3.o rfl) i.o N.o (by omega)).mono ?_;rintro e w7 ⟨A7,n7,c7,rfl,K,-,z⟩;have b0:=vn a3 z;have l:=vv (l.o.below z rfl);have y:=vv (y.o.below z rfl);have c9:=K.le_of Q.o (k0e _ _);have a4:=vv K;clear K z;go_wp2_with fail;refine(mulWords A6 A7 n6 n7 c6 c7 _ _ _ y.o a4.o (by omega)).mono ?_;rintro e w8 j;obtain⟨A8,n8,c8,rfl,a5,b1,L⟩:=j.val2;have E:=vn b0 L;have l:=vv (l.o.below L rfl);have M:=vv (a5.den T.o (fun a e=>(b1 a e).2));clear a5 L j y a4;go_wp2_with fail;refine(set_of g 0 v (sg s (a/Nat.gcd a c*(b/Nat.gcd b d))) _ A5 n5 c5 _ _ (HV.o.below E.o) l.o (fun a e=>(a9 a e).2) (q0z _ _) (q1d _ _)).mono ?_;rintro e w9 j;have j:=j.f (HV.o.below E.o);have HN:=vv ((HH.o.below E.o).num j);have HF:=vv (j.2.2.after E.o);have M:=vv (M.o.fs j.2.2);obtain⟨rfl,-,-⟩:=j;obtain⟨hi,x,hx⟩:=HN.o;have b3:=hi.lt;have d0:=hi.fz 2;have HI:=vv hi;have b2:=vv hx;clear hi;go_wp2;go_ret;refine⟨rfl,RatAt.made HI.o ⟨x,b2.o⟩ M.o HM.o T.o (by rw[q0z];exact S.o.1) ?_,fs3 (HF.o.trans (Fs.set2 HI.o _))⟩;have:=k0v (Nat.cast:Nat->Int) S.o.2;rw[k08,k08 (a*b)] at this;cases s
 ·exact this
 ·show -((a/Nat.gcd a c*(b/Nat.gcd b d):Nat):Int)*_ = -((a*b:Nat):Int)*_;rw[k0P,k0P,this]
theorem q4S(g:Nat)(s:Bool)(A D B C:Option qn)(na ca nd cd nb cb nc cc a d b c:Nat)(w:qf)(h:RatSh w g)(ha:Rd w A na ca (toL a))(hd:Rd w D nd cd (toL d))(hb:Rd w B nb cb (toL b))(hc:Rd w C nc cc (toL c))(hd0:0<d)(hc0:0<c)
  (had:Nat.gcd a d=1) (hbc:Nat.gcd b c=1) (hst:Std w) (sa:Sz a) (sd:Sz d) (sb:Sz b) (sc:Sz c) :
  qh qc 167 #[.pointer (qd ⟨g,0,qa⟩),.bool s,.slice A na ca,.slice D nd cd,.slice B nb cb,.slice C nc cc] w (q1X g (sg s (a*b)) (d*c) w):=by
 rcases k01 a with e|e
 ·exact q1C g s A D B C na ca nd cd nb cb nc cc a d b c w h ha hb hd0 hc0 (.inl e) hst
 rcases k01 b with f|f
 ·exact q1C g s A D B C na ca nd cd nb cb nc cc a d b c w h ha hb hd0 hc0 (.inr ⟨e,f⟩) hst
 exact q37 g s A D B C na ca nd cd nb cb nc cc a d b c w h ha hd hb hc hd0 hc0 had hbc e f hst sa sd sb sc
end B
namespace B
open AB
open Go Go.RowKit
theorem MulR(g gx gy:Nat)(p q:Int)(d e':Nat)(w:qf)(h:RatSh w g)(hx:RatAt w gx p d)(hy:RatAt w gy q e')(hst:Std w)(sp:Sz p.natAbs)(sd:Sz d)(sq:Sz q.natAbs)(se:Sz e'):qh qc 83 #[.pointer (qd ⟨g,0,qa⟩),.pointer (qd ⟨gx,0,qa⟩),.pointer (qd ⟨gy,0,qa⟩)] w (q1X g (p*q) (d*e') w):=by
 have r:=hx.lt;have t:=hy.lt;have u:=vv hx;have x:=vv hy;have HH:=vv h;have W:=vv hst;have HP:=vv sp;have HQ:=vv sq;have HD:=vv sd;have HE:=vv se;obtain⟨A,n,c,I,J,U,L⟩:=hx.num.ex;obtain⟨B,m,M,N,O,y,X⟩:=hy.num.ex;have HA:=vv U;have HB:=vv y;clear h hx hy hst sp sd sq se U y L X;have fin:∀(s:Bool) a z C b D E F,(qb (lp p d<0) != qb (lp q e'<0))=s->qi w.heap.size w a->Rd a z C b (toL (ld p d))->Rd a D E F (toL (ld q e')) ->qh qc 167 #[.pointer (qd ⟨g,0,qa⟩),.bool s,.slice A n c,.slice z C b,.slice B m M,.slice D E F] a (q1X g (p*q) (d*e') w):=by
  intro s a z C b D E F y j ha hb;refine(q4S g s A z B D n c C b m M E F _ _ _ _ a (HH.o.below j) (HA.o.below j rfl) ha (HB.o.below j rfl) hb (q0S u.o.pos) (q0S x.o.pos) (q1F u.o.pos) (q1F x.o.pos) (W.o.fs (Fs.of_nil j)) (HP.o.mono (q1P _ _)) (HD.o.mono (q1Y _ _)) (HQ.o.mono (q1P _ _)) (HE.o.mono (q1Y _ _))).mono ?_;rintro e l ⟨he,P,Q⟩;refine⟨he,P.cross (k0l u.o.pos x.o.pos) ?_,Q.after j⟩;have e0:sg s ((lp p d).natAbs*(lp q e').natAbs)=lp p d*lp q e':=by
   have V:=q4V (lp p d*lp q e');rw[q2u,y,k0B] at V
   conv=>rhs;rw[<- V]
   by_cases L:0<(lp p d).natAbs*(lp q e').natAbs
   ·rw[k03 L,Bool.and_true]
   ·have:(lp p d).natAbs*(lp q e').natAbs=0:=by omega
    rw[this];cases s<;>rfl
  rw[e0];have R:=q0r p d;have b:=q0r q e';simp only[k08]
  calc lp p d*lp q e'*(↑d*↑e')=(lp p d*d)*(lp q e'*e'):=by grind
   _=(p*ld p d)*(q*ld q e'):=by rw[R,b]
   _=_:=by grind
 have Y:=vv fin;clear fin;go_enter func83,ntmps83;go_wp2_with fail;refine q02 (fun l=>l.cell? ⟨gx,0,qa⟩=qd (.bool (qb (lp p d<0)))/\l.cell? ⟨gx,1,qa⟩=qd (.slice A n c)/\l.cell? ⟨gy,0,qa⟩=qd (.bool (qb (lp q e'<0)))/\l.cell? ⟨gy,1,qa⟩=qd (.slice B m M)) 26
  (.still 0 (.still 1 (.still 2 (.still 3 (.still 4 (.still 5 (.still 6 (.still 7 (.still 8 (.still 9 (.still 10 (.still 11 (.still 12 (.still 13 (.still 14 (.still 15 (.still 16 (.still 17 (.still 19 (.still 20 (.still 21 (.still 22 (.still 23 (.still 24 (.one 18 (.one 25 .done)))))))))))))))))))))))))) (by kernel_rfl) (by kernel_rfl) (fun _ _ d _ _ h=>by cases d<;>exact h) ⟨I,J,N,O⟩ (fun hS0=>?_)
 iterate 24
  refine q01 (v:=?_) rfl (by rfl) ?_ ?_;rotate_left
  ·intro w a1;go_simp;with_reducible rfl
  simp only[Act.put,sa,sb,sc]
 refine q03 rfl (by rfl) (fun K hK=>?_);go_simp;refine(below gx _ _ _ u.o.drew).mono ?_;rintro e w1 ⟨A1,n1,R,rfl,S,a2,f⟩;have G:=vv S;have i:ql (qi w.heap.size w w1):=vv ⟨f.os,f.tape,f.output,f.size,f.block⟩;clear S f;go_wp2_with fail;refine hK.out _ _ ⟨(i.o.cell (p:=⟨gx,0,qa⟩) r).trans I,(i.o.cell (p:=⟨gx,1,qa⟩) r).trans J,(i.o.cell (p:=⟨gy,0,qa⟩) t).trans N,(i.o.cell (p:=⟨gy,1,qa⟩) t).trans O⟩ (fun Z=>?_);clear hK;refine q03 rfl (by rfl) (fun K hK=>?_);go_simp;refine(below gy _ _ _ (x.o.below i.o)).mono ?_;rintro e a ⟨A2,n2,b,rfl,T,a3,H⟩;have a0:=vv T;have G:=vv (G.o.below H rfl);have k:=vn i H;clear T H;go_wp2_with fail;refine hK.out _ _ ⟨(k.o.cell (p:=⟨gx,0,qa⟩) r).trans I,(k.o.cell (p:=⟨gx,1,qa⟩) r).trans J,(k.o.cell (p:=⟨gy,0,qa⟩) t).trans N,(k.o.cell (p:=⟨gy,1,qa⟩) t).trans O⟩ (fun Z=>?_);clear hK;refine q07 ?_;go_wp2_with fail;refine(Y.o _ a A1 n1 R A2 n2 b rfl k.o G.o a0.o).mono ?_;rintro e w3 ⟨rfl,P,Q⟩;have HR:=vv P;go_wp2;go_ret;exact⟨rfl,HR.o,Q⟩
end B
namespace B
open AB
open Go Go.RowKit
theorem qcg(g gx gy:Nat)(m n:Int)(P Q:Nat)(w:qf)(h:RatSh w g)(hx:RatAt w gx m P)(hy:RatAt w gy n Q)(hm:Nat.gcd m.natAbs P=1)(hn:Nat.gcd n.natAbs Q=1)(hst:Std w)(sp:Sm m.natAbs)(sd:Sm P)(sq:Sm n.natAbs)(se:Sm Q):qh qc 171 #[.pointer (qd ⟨g,0,qa⟩),.pointer (qd ⟨gx,0,qa⟩),.pointer (qd ⟨gy,0,qa⟩),.bool qk] w (q1X g (m*Q-n*P) (P*Q) w):=by
 have S:=hx.lt;have z:=hy.lt;have HX:=vv hx;have HY:=vv hy;have HH:=vv h;have e5:=vv hst;have HM:=vv hm;have HN:=vv hn;obtain⟨i1,i2⟩:=q1t hx.pos hm;obtain⟨i3,i4⟩:=q1t hy.pos hn;have Z:=vv hx.pos;have d1:=vv hy.pos;have M:=vv (q0e (n:=P) hy.pos);have HL:=vv fun s F=>q4b (m:=m) (n:=-n) (s:=s) hx.pos hy.pos hm (by rw[k1R];exact hn) F
 have e6:=hx.num;have e7:=hy.num;rw[i1] at e6;rw[i3] at e7;obtain⟨A,na,ca,h0,h1,hr,hz⟩:=e6.ex;obtain⟨B,nb,cb,k0,k1,F,l1⟩:=e7.ex;have HA:=vv hr;have HB:=vv F;have o4:=hr.sz sp.sz;have o5:=F.sz sq.sz;have C:=vv (below gx m P w hx);have i5:=vv fun w' (hb:qi w.heap.size w w')=>below gy n Q w' (hy.below hb)
 rw[i2] at C;rw[i4] at i5;have l2:=vv sd.sz;have l3:=vv se.sz;have W:ql (Sz (m*(Q/Nat.gcd P Q:Nat)).natAbs/\Sz (-n*(P/Nat.gcd P Q:Nat)).natAbs/\Sz (m*(Q/Nat.gcd P Q:Nat) + -n*(P/Nat.gcd P Q:Nat)).natAbs):=by
  have O:(m*(Q/Nat.gcd P Q:Nat)).natAbs<=m.natAbs*Q:=by rw[k0B,k05];exact k0g _ (k0e _ _)
  have a2:(-n*(P/Nat.gcd P Q:Nat)).natAbs<=n.natAbs*P:=by rw[k0B,k05,k1R];exact k0g _ (k0e _ _)
  refine vv ⟨(sp.mul se).mono O,(sq.mul sd).mono a2,?_⟩;have a3:=Int.natAbs_add_le (m*(Q/Nat.gcd P Q:Nat)) (-n*(P/Nat.gcd P Q:Nat));refine Sz.mono (b:=m.natAbs*Q+n.natAbs*P) ?_ (by omega);have R:=q0H m.natAbs Q;have b2:=q0H n.natAbs P;have b3:=q3t (m.natAbs*Q) (n.natAbs*P);unfold Sm at sp sd sq se;unfold Sz;omega
 obtain⟨v,hv⟩:=h.int;have HV:=vv hv;clear h hx hy hst sp sd sq se hr F hz l1 hm hn i1 i2 i3 i4 e6 e7 hv;go_enter func171,ntmps171;go_wp2_with fail;refine C.o.mono ?_;rintro e w1 ⟨A1,n1,c1,rfl,e8,i6,i7⟩;have o6:=e8.sz l2.o;have i:=vv e8;have i8:=vv i7;have d2:=vv i6;clear e8 i7 i6;go_wp2_with fail;refine(i5.o _ i8.o).mono ?_;rintro e w2 ⟨A2,n2,c2,rfl,e9,i9,f0⟩;have o7:=e9.sz l3.o;have j:=vv e9;have i:=vv (i.o.below f0 rfl);have j0:=vn i8 f0;have d3:=vv i9;clear e9 f0 i9;go_wp2_with fail;refine(q1I A1 A2 n1 n2 c1 c2 P Q w2 i.o j.o (e5.o.fs (Fs.of_nil j0.o)) (by omega) (by omega)).mono ?_;rintro e k ⟨G,n3,c3,rfl,hG,j1,d4⟩;have o8:=hG.le_of i.o (Nat.gcd_le_left _ Z.o);have d5:ql (∀a,G=qd a->a.off=0):=vv fun a e=>(j1 a e).2
 have l:=vv hG;have i:=vv (i.o.below d4 rfl);have j:=vv (j.o.below d4 rfl);have j2:=vn j0 d4;have l4:=j2.o.size;clear hG d4 j1;obtain⟨o,ho⟩:∃o:Obj,o=.cells #[.bool qe,.slice qa 0 0] 82:=⟨_,rfl⟩;have f1:qi k.heap.size k (k.alloc o):=(qg _ k).alloc lr _;have f2:qi (k.alloc o).heap.size (k.alloc o) ((k.alloc o).alloc o):=(qg _ (k.alloc o)).alloc lr _;have j3:(k.alloc o).heap.size=k.heap.size+1:=by simp
 have j4:IntAt (k.alloc o) k.heap.size 0 0:=by rw[ho];exact IntAt.zero k _
 have j5:IntAt ((k.alloc o).alloc o) (k.heap.size+1) 0 0:=by rw[<- j3,ho];exact IntAt.zero _ _
 obtain⟨wx,b9⟩:=yx ((k.alloc o).alloc o);have a5:qi k.heap.size k wx:=by rw[b9];exact f1.trans (f2.mono f1.size)
 have q:=vv (j4.below f2);have r:=vv j5;rw[<- b9] at q r;have i:=vv (i.o.below a5 rfl);have j:=vv (j.o.below a5 rfl);have l:=vv (l.o.below a5 rfl);have C:=vn j2 a5;have j6:wx.heap.size=k.heap.size+1+1:=by rw[b9];simp
 have l5:=vv b9;have HO:=vv ho;have o9:=vv j6;have Y:=(C.o.cell (p:=⟨gx,0,qa⟩) S).trans h0;have O:=(C.o.cell (p:=⟨gx,1,qa⟩) S).trans h1;have V:=(C.o.cell (p:=⟨gy,0,qa⟩) z).trans k0;have R:=(C.o.cell (p:=⟨gy,1,qa⟩) z).trans k1;have n6:gx<wx.heap.size:=k02 S C.o.size;have f9:gy<wx.heap.size:=k02 z C.o.size;clear f1 f2 j3 j4 j5 a5 b9 ho j6;go_wp2_with fail;rw[<- HO.o,<- l5.o];refine q02 (fun w'=>w'.cell? ⟨gx,0,qa⟩=qd (.bool (qb (m<0)))/\w'.cell? ⟨gx,1,qa⟩=qd (.slice A na ca)) 15
  (.still 0 (.still 1 (.still 2 (.still 3 (.still 4 (.still 5 (.still 6 (.still 7 (.still 8 (.still 9 (.still 10 (.still 11 (.still 12 (.one 13 (.one 14 .done))))))))))))))) (by kernel_rfl) (by kernel_rfl) (fun _ _ d _ _ h=>by cases d<;>exact h) ⟨Y,O⟩ (fun hS0=>?_)
 iterate 13
  refine q01 (v:=?_) rfl (by rfl) ?_ ?_;rotate_left
  ·intro w j7;go_simp;with_reducible rfl
  simp only[Act.put,sa,sb,sc]
 refine q03 rfl (by rfl) (fun K hK=>?_);go_simp;refine(by_ A2 G n2 n3 c2 c3 Q _ _ j.o.drew l.o.drew M.o (by omega)).mono ?_;rintro e w4 ⟨A4,n4,c4,rfl,f3,-,u⟩;have u:qi wx.heap.size wx w4:=⟨u.os,u.tape,u.output,u.size,u.block⟩;have p0:=f3.le_of j.o (k0e _ _);have l6:=vv f3;have i:=vv (i.o.below u rfl);have j:=vv (j.o.below u rfl);have l:=vv (l.o.below u rfl);have q:=vv (q.o.below u);have r:=vv (r.o.below u);have d6:=vn C u;have Y:=(d6.o.cell (p:=⟨gx,0,qa⟩) S).trans h0;have O:=(d6.o.cell (p:=⟨gx,1,qa⟩) S).trans h1;clear f3 u;go_wp2_with fail;refine hK.out _ _ ⟨Y,O⟩ (fun a4=>?_);clear hK;refine q03 rfl (by rfl) (fun K hK=>?_);go_simp;refine(mulWords A A4 na n4 ca c4 _ _ _ (HA.o.below d6.o rfl) l6.o (by omega)).mono ?_;rintro e w5 c;obtain⟨A5,n5,c5,rfl,j8,l7,T⟩:=c.val2;have l8:=vv j8;have i:=vv (i.o.below T rfl);have j:=vv (j.o.below T rfl);have l:=vv (l.o.below T rfl);have q:=vv (q.o.below T);have r:=vv (r.o.below T);have d7:=vn d6 T;have Y:=(d7.o.cell (p:=⟨gx,0,qa⟩) S).trans h0;have O:=(d7.o.cell (p:=⟨gx,1,qa⟩) S).trans h1;clear j8 T c;go_wp2_with fail;refine hK.out _ _ ⟨Y,O⟩ (fun a4=>?_);clear hK;refine q07 ?_;go_wp2_with fail;refine(set_of _ 0 0 (m*(Q/Nat.gcd P Q:Nat)) _ A5 n5 c5 _ _ q.o l8.o (fun a e=>(l7 a e).2) (by rw[k0B,k05]) (by rw[q2u,k05,k00 (p:=((Q/Nat.gcd P Q:Nat):Int)<0) (Int.not_lt.2 (k0d _))];cases qb (m<0)<;>rfl)).mono ?_;rintro e w6 c;have c:=c.f q.o;have q:=vv c.2.1;have r:=vv (r.o.fs1 c.2.2 (by omega));have i:=vv (i.o.fs d2.o c.2.2);have j:=vv (j.o.fs d3.o c.2.2);have l:=vv (l.o.fs d5.o c.2.2);have d8:=vv (c.below d7.o d7.o.size l4);obtain⟨rfl,-,-⟩:=c;have V:=(d8.o.cell (p:=⟨gy,0,qa⟩) z).trans k0;have R:=(d8.o.cell (p:=⟨gy,1,qa⟩) z).trans k1;have f9:gy<w6.heap.size:=k02 z d8.o.size;go_wp2_with fail;refine q02 (fun w'=>w'.cell? ⟨gy,0,qa⟩=qd (.bool (qb (n<0)))/\w'.cell? ⟨gy,1,qa⟩=qd (.slice B nb cb)) 17
  (.still 0 (.still 1 (.still 2 (.still 3 (.still 4 (.still 5 (.still 6 (.still 7 (.still 8 (.still 9 (.still 10 (.still 11 (.still 12 (.still 13 (.still 14 (.one 15 (.one 16 .done))))))))))))))))) (by kernel_rfl) (by kernel_rfl) (fun _ _ d _ _ h=>by cases d<;>exact h) ⟨V,R⟩ (fun hS0=>?_)
 iterate 15
  refine q01 (v:=?_) rfl (by rfl) ?_ ?_;rotate_left
  ·intro w j7;go_simp;with_reducible rfl
  simp only[Act.put,sa,sb,sc]
 refine q03 rfl (by rfl) (fun K hK=>?_);go_simp;refine(by_ A1 G n1 n3 c1 c3 P _ _ i.o.drew l.o.drew M.o (by omega)).mono ?_;rintro e w7 ⟨A7,n7,c7,rfl,f4,-,y⟩;have y:qi w6.heap.size w6 w7:=⟨y.os,y.tape,y.output,y.size,y.block⟩;have p1:=f4.le_of i.o (k0e _ _);have l9:=vv f4;have i:=vv (i.o.below y rfl);have j:=vv (j.o.below y rfl);have l:=vv (l.o.below y rfl);have q:=vv (q.o.below y);have r:=vv (r.o.below y);have d9:=vn d8 y;have V:=(d9.o.cell (p:=⟨gy,0,qa⟩) z).trans k0;have R:=(d9.o.cell (p:=⟨gy,1,qa⟩) z).trans k1;clear f4 y;go_wp2_with fail;refine hK.out _ _ ⟨V,R⟩ (fun a4=>?_);clear hK;refine q03 rfl (by rfl) (fun K hK=>?_);go_simp;refine(mulWords B A7 nb n7 cb c7 _ _ _ (HB.o.below d9.o rfl) l9.o (by omega)).mono ?_;rintro e w8 c;obtain⟨A8,n8,c8,rfl,j9,m0,U⟩:=c.val2;have m1:=vv j9;have i:=vv (i.o.below U rfl);have j:=vv (j.o.below U rfl);have l:=vv (l.o.below U rfl);have q:=vv (q.o.below U);have r:=vv (r.o.below U);have e0:=vn d9 U;have V:=(e0.o.cell (p:=⟨gy,0,qa⟩) z).trans k0;have R:=(e0.o.cell (p:=⟨gy,1,qa⟩) z).trans k1;clear j9 U c;go_wp2_with fail;refine hK.out _ _ ⟨V,R⟩ (fun a4=>?_);clear hK;refine q07 ?_;go_wp2_with fail;refine(set_of _ 0 0 (-n*(P/Nat.gcd P Q:Nat)) _ A8 n8 c8 _ _ r.o m1.o (fun a e=>(m0 a e).2) (by rw[k0B,k05,k1R]) ?_).mono ?_
 ·rw[k0P,q4r,q2u,k0B,k05,k00 (p:=((P/Nat.gcd P Q:Nat):Int)<0) (Int.not_lt.2 (k0d _))];cases qb (n<0)<;>cases qb (0<n.natAbs*(P/Nat.gcd P Q))<;>rfl
 rintro e w9 c;have c:=c.f r.o;have r:=vv c.2.1;have q:=vv (q.o.fs1 c.2.2 (by omega));have i:=vv (i.o.fs d2.o c.2.2);have j:=vv (j.o.fs d3.o c.2.2);have l:=vv (l.o.fs d5.o c.2.2);have k2:=vv (c.below e0.o e0.o.size (by omega));obtain⟨rfl,-,-⟩:=c;clear Y O V R;go_wp2_with fail;refine(Add _ 0 _ 0 _ 0 _ _ _ _ q.o q.o r.o W.o.1 W.o.2.1).mono ?_;rintro e X c;have c:=c.f q.o;have q:=vv c.2.1;have i:=vv (i.o.fs d2.o c.2.2);have j:=vv (j.o.fs d3.o c.2.2);have l:=vv (l.o.fs d5.o c.2.2);have a8:=vv (c.below k2.o k2.o.size (by omega));obtain⟨rfl,-,-⟩:=c;obtain⟨s,F⟩:=yx (m*(Q/Nat.gcd P Q:Nat) + -n*(P/Nat.gcd P Q:Nat));have W:=vv W.o.2.2;have HL:=vv (HL.o s F);rw[<- F] at q W;have HS:=vv F;have D:=q.o.lt;have c0:=q.o;obtain⟨AS,ns,cs,I,J,e2,k3⟩:=c0.ex;have f5:=e2.words;have p2:=e2.sz W.o;have e3:=vv e2;have p3:=vv k3;clear F e2 k3 c0;rcases k01 ns with hz|n9
 ·subst hz;have k4:s=0:=by have:=q06.1 f5;omega
  have HF:ql (m*Q-n*P=0):=by
   refine vv ?_;have e1:=HL.o.2;rw[k4] at e1;have hp:(0:Int)<(P/Nat.gcd P Q*(Q/Nat.gcd (Int.natAbs 0) (Nat.gcd P Q)):Nat):=by have:0<P/Nat.gcd P Q*(Q/Nat.gcd (Int.natAbs 0) (Nat.gcd P Q)):=k0l (k1e (k13 Z.o (k15 _ _)) M.o) (by rw[k2g,k25];exact k1e (k13 d1.o (k0z _ _)) M.o);omega
   simp [sg] at e1;have:=Int.mul_eq_zero.1 e1.symm;rcases this with h|h
   ·rw[k21,<- k0P];exact h
   ·have h':((P/Nat.gcd P Q*(Q/Nat.gcd (Int.natAbs 0) (Nat.gcd P Q)):Nat):Int)=0:=by
     rw[k2g,k25]
     exact_mod_cast h
    omega
  clear k4 f5;have hB:qi X.heap.size X (X.alloc (.cells #[.int .u32 1] 54)):=(qg _ _).alloc lr _;have hO:Own (X.alloc (.cells #[.int .u32 1] 54)) X.heap.size 54 [1]:=Own.lit _ (q0y.2 ⟨by omega,q0N⟩) (by simp [q0q]);have f6:=vn a8 hB;have HO:=vv hO;clear hB hO;go_wp2_with fail;refine(q9B g qe qa (qd ⟨X.heap.size,0,qa⟩) 0 0 1 1 [] [1] _ (HH.o.below f6.o) (Rd.nil _) (HO.o.rd rfl lr (by omega)) (by decide) (fun a e=>by cases e) (fun a e=>by cases e;rfl) (e5.o.fs (Fs.of_nil f6.o)) (by omega) (by omega)).mono ?_;rintro e e4 ⟨rfl,hR,hF⟩;have HR:=vv hR;go_wp2;go_ret;refine⟨rfl,?_,hF.after f6.o⟩;rw[HF.o];exact HR.o.cross (k0l Z.o d1.o) (by simp [sg,val])
 ·have p4:((ns:Int)==0)=qe:=by simp;omega
  clear f5;go_wp2_with fail;refine(q1I AS G ns n3 cs c3 _ _ _ e3.o l.o (e5.o.fs (Fs.of_nil a8.o)) (by omega) (by omega)).mono ?_;rintro e e4 ⟨H,k5,k6,rfl,f7,k7,L⟩;have o0:=f7.le_of l.o (Nat.gcd_le_right _ M.o);have E:=vv f7;have m2:ql (∀a,H=qd a->a.off=0):=vv fun a e=>(k7 a e).2
  have f8:=vv (q0e (n:=s.natAbs) M.o);have e3:=vv (e3.o.below L rfl);have i:=vv (i.o.below L rfl);have j:=vv (j.o.below L rfl);have l:=vv (l.o.below L rfl);have I:=(L.cell (p:=⟨k.heap.size,0,qa⟩) D).trans I;have J:=(L.cell (p:=⟨k.heap.size,1,qa⟩) D).trans J;have D:k.heap.size<e4.heap.size:=k02 D L.size;have g0:=vn a8 L;clear f7 k7 L;go_wp2_with fail;refine q02 (fun w'=>w'.cell? ⟨k.heap.size,0,qa⟩=qd (.bool (qb (s<0)))/\w'.cell? ⟨k.heap.size,1,qa⟩=qd (.slice AS ns cs)) 14
   (.still 0 (.still 1 (.still 2 (.still 3 (.still 4 (.still 5 (.still 6 (.still 7 (.still 8 (.still 9 (.still 10 (.still 11 (.one 12 (.one 13 .done)))))))))))))) (by kernel_rfl) (by kernel_rfl) (fun _ _ d _ _ h=>by cases d<;>exact h) ⟨I,J⟩ (fun hS0=>?_)
  iterate 12
   refine q01 (v:=?_) rfl (by rfl) ?_ ?_;rotate_left
   ·intro w j7;go_simp;with_reducible rfl
   simp only[Act.put,sa,sb,sc]
  refine q03 rfl (by rfl) (fun K hK=>?_);go_simp;refine(by_ AS H ns k5 cs k6 _ _ _ e3.o.drew E.o.drew f8.o (by omega)).mono ?_;rintro e k8 ⟨p5,k9,p6,rfl,c6,-,t⟩;have t:qi e4.heap.size e4 k8:=⟨t.os,t.tape,t.output,t.size,t.block⟩;have a9:=vv c6;have i:=vv (i.o.below t rfl);have j:=vv (j.o.below t rfl);have l:=vv (l.o.below t rfl);have E:=vv (E.o.below t rfl);have I:=(t.cell (p:=⟨k.heap.size,0,qa⟩) D).trans I;have J:=(t.cell (p:=⟨k.heap.size,1,qa⟩) D).trans J;have D:k.heap.size<k8.heap.size:=k02 D t.size;have g1:=vn g0 t;clear c6 t;go_wp2_with fail;refine hK.out _ _ ⟨I,J⟩ (fun a4=>?_);clear hK;refine q03 rfl (by rfl) (fun K hK=>?_);go_simp;refine(copied _ _ _ _ _ a9.o).mono ?_;rintro e p7 ⟨rfl,hO,N⟩;have g2:=vv (hO.rd a9.o.len.symm lr a9.o.sm);have i:=vv (i.o.below N rfl);have j:=vv (j.o.below N rfl);have l:=vv (l.o.below N rfl);have E:=vv (E.o.below N rfl);have I:=(N.cell (p:=⟨k.heap.size,0,qa⟩) D).trans I;have J:=(N.cell (p:=⟨k.heap.size,1,qa⟩) D).trans J;have a6:=vn g1 N;clear hO N;go_wp2_with fail;refine hK.out _ _ ⟨I,J⟩ (fun a4=>?_);clear hK;refine q07 ?_;go_wp2_with fail;refine(set_of g 0 v (sg (qb (s<0)) (s.natAbs/Nat.gcd s.natAbs (Nat.gcd P Q))) _ _ k9 k9 _ _ (HV.o.below a6.o) g2.o (fun a e=>by cases e;rfl) (q0z _ _) (q1d _ _)).mono ?_;rintro e p8 c;have c:=c.f (HV.o.below a6.o);have g3:=vv ((HH.o.below a6.o).num c);have HF:=vv (c.2.2.after a6.o);have i:=vv (i.o.fs d2.o c.2.2);have j:=vv (j.o.fs d3.o c.2.2);have l:=vv (l.o.fs d5.o c.2.2);have E:=vv (E.o.fs m2.o c.2.2);obtain⟨rfl,-,-⟩:=c;clear I J;go_wp2_with fail;refine(by_ A1 G n1 n3 c1 c3 P _ _ i.o l.o M.o (by omega)).mono ?_;rintro e p9 ⟨m3,m4,m5,rfl,b4,-,a7⟩;have o1:=b4.le_of i.o (k0e _ _);have b5:=vv b4;have j:=vv (j.o.below a7 rfl);have E:=vv (E.o.below a7 rfl);have g4:=vv a7;clear b4 a7;go_wp2_with fail;refine(by_ A2 H n2 k5 c2 k6 Q _ _ j.o E.o f8.o (by omega)).mono ?_;rintro e q0 ⟨m6,m7,m8,rfl,b6,-,b7⟩;have o2:=b6.le_of j.o (k0e _ _);have g5:=vv b6;have b5:=vv (b5.o.below b7 rfl);have g6:=vn g4 b7;clear b6 b7;go_wp2_with fail;refine(mulWords m3 m6 m4 m7 m5 m8 _ _ _ b5.o g5.o (by omega)).mono ?_;rintro e m9 c;obtain⟨q1,q2,q3,rfl,c9,g7,d0⟩:=c.val2;have b8:=vn g6 d0;have l0:ql (0<P/Nat.gcd P Q*(Q/Nat.gcd s.natAbs (Nat.gcd P Q))):=vv (k0l (k1e (k13 Z.o (k15 _ _)) M.o) (k1e (k13 d1.o (k2m (k0z _ _) (k0z _ _))) f8.o));have g8:=vv (c9.den l0.o (fun a e=>(g7 a e).2));clear c9 d0 c;obtain⟨hi,x,hx⟩:=g3.o;have g9:=(b8.o.cell (p:=⟨g,2,qa⟩) hi.lt).trans hx;have hi:=hi.below b8.o;have o3:=hi.lt;have q4:=hi.fz 2;have HI:=vv hi;have n0:=vv g9;have i0:ql (Fs [(g,0,2)] w m9):=vv ((HF.o.trans (Fs.of_nil b8.o)).drop (fun p hp _=>by simpa using hp) (fun p hp=>by simpa using hp));clear hi hx;go_wp2;go_ret;refine⟨rfl,RatAt.made HI.o ⟨x,n0.o⟩ g8.o (k0l Z.o d1.o) l0.o (by rw[q0z];exact HL.o.1) ?_,fs3 (i0.o.trans (Fs.set2 HI.o _))⟩;rw[HL.o.2,k0P,<- k21]
theorem SubR(g gx gy:Nat)(p q:Int)(d e':Nat)(w:qf)(h:RatSh w g)(hx:RatAt w gx p d)(hy:RatAt w gy q e')(hst:Std w)(sp:Sm p.natAbs)(sd:Sm d)(sq:Sm q.natAbs)(se:Sm e'):qh qc 163 #[.pointer (qd ⟨g,0,qa⟩),.pointer (qd ⟨gx,0,qa⟩),.pointer (qd ⟨gy,0,qa⟩)] w (q1X g (p*e'-q*d) (d*e') w):=by
 have a:ql ((lp p d*↑(ld q e')-lp q e'*↑(ld p d))*((d*e':Nat):Int)=(p*e'-q*d)*((ld p d*ld q e':Nat):Int)):=by
  have b:=q0r p d;have c:=q0r q e';refine vv ?_;simp only[k08]
  calc (lp p d*↑(ld q e')-lp q e'*↑(ld p d))*(↑d*↑e')=(lp p d*d)*↑(ld q e')*e'-(lp q e'*e')*↑(ld p d)*d:=by grind
   _=(p*ld p d)*↑(ld q e')*e'-(q*ld q e')*↑(ld p d)*d:=by rw[b,c]
   _=_:=by grind
 have f:=vv (k0l hx.pos hy.pos);have i:=vv (qcg g gx gy (lp p d) (lp q e') (ld p d) (ld q e') w h (hx.cross (q0S hx.pos) (q0r p d).symm) (hy.cross (q0S hy.pos) (q0r q e').symm) (q1F hx.pos) (q1F hy.pos) hst (sp.mono (q1P _ _)) (sd.mono (q1Y _ _)) (sq.mono (q1P _ _)) (se.mono (q1Y _ _)));clear h hx hy hst sp sd sq se;go_enter func163,ntmps163;go_wp2_with fail;refine i.o.mono ?_;rintro e m ⟨rfl,j,k⟩;have l:=vv j;go_wp2;go_ret;exact⟨rfl,l.o.cross f.o a.o,k⟩
end B
namespace B
open AB
open Go Go.RowKit
theorem q3p(p q:Int)(d e':Nat)(hd:0<d)(he:0<e')(h:p.sign≠q.sign\/p.sign=0):q1Z (p*e') (q*d)=q1Z p.sign q.sign:=by
 have b:(p*(e':Int)).sign=p.sign:=by rw[Int.sign_mul,k0r (a:=(e':Int)) (by omega),k2Q]
 have c:(q*(d:Int)).sign=q.sign:=by rw[Int.sign_mul,k0r (a:=(d:Int)) (by omega),k2Q]
 rw[<- b,<- c] at h ⊢;have k:∀A:Int,A<0/\A.sign = -1\/A=0/\A.sign=0\/0<A/\A.sign=1:=fun A=>by
  rcases k0K A 0 with a|a|a
  ·exact .inl ⟨a,k0L a⟩
  ·exact .inr (.inl ⟨a,by rw[a];rfl⟩)
  ·exact .inr (.inr ⟨a,k0r a⟩)
 have e:=k (p*(e':Int));have f:=k (q*(d:Int));clear b c k;generalize p*(e':Int)=A at *
 generalize q*(d:Int)=B at *
 unfold q1Z
 (repeat' split)<;>omega
theorem q6O(p:Int):p.sign = -1\/p.sign=0\/p.sign=1:=by
 rcases k0K p 0 with a|a|a
 ·exact .inl (k0L a)
 ·rw[a];exact .inr (.inl rfl)
 ·exact .inr (.inr (k0r a))
theorem q5a(g gx:Nat)(p q:Int)(d e':Nat)(w:qf)(hx:RatAt w g p d)(hy:RatAt w gx q e')(h:p.sign≠q.sign\/p.sign=0):qh qc 116 #[.pointer (qd ⟨g,0,qa⟩),.pointer (qd ⟨gx,0,qa⟩)] w fun e w'=>e=.returned (.int .i64 (q1Z (p*e') (q*d)))/\qi w.heap.size w w':=by
 have a:=vv (RSign g _ _ w hx);have b:=vv (RSign gx _ _ w hy);rw[q3p p q d e' hx.pos hy.pos h];have c:=q6O p;have f:=q6O q;obtain⟨s,i⟩:=yx (p.sign);obtain⟨t,j⟩:=yx (q.sign);rw[<- i] at a h c ⊢;rw[<- j] at b h f ⊢;clear i j hx hy;rcases c with rfl|rfl|rfl<;>rcases f with rfl|rfl|rfl<;>first|(exfalso;revert h;decide)|clear h;all_goals
  go_enter func116,ntmps116
  repeat
   go_wp2_with fail
   first
    | (refine a.o.mono ?_;rintro e w' ⟨rfl,rfl⟩)
    | (refine b.o.mono ?_;rintro e w' ⟨rfl,rfl⟩)
  go_wp2;go_ret;exact⟨rfl,qg _ _⟩
theorem q6Q(s:Bool)(a b d e':Nat):q1Z (sg s a*e') (sg s b*d)=if s then -q0F (a*e') (b*d) else q0F (a*e') (b*d):=by
 cases s
 ·show q1Z ((a:Int)*e') ((b:Int)*d)=q0F (a*e') (b*d);rw[<- k08,<- k08];unfold q1Z q0F
  (repeat' split)<;>omega
 ·show q1Z (-(a:Int)*e') (-(b:Int)*d) = -q0F (a*e') (b*d);rw[k0P,k0P,<- k08,<- k08];unfold q1Z q0F
  (repeat' split)<;>omega
theorem q3a(s:Bool)(a d:Nat):(lp (sg s a) d).natAbs=(lp (a:Int) d).natAbs/\ld (sg s a) d=ld (a:Int) d:=⟨by rw[q3f,q3f,q0z,k05],by unfold ld;rw[q0z,k05]⟩
theorem q39(s:Bool)(ha:0<a):(sg s a).sign=if s then -1 else 1:=by
 cases s
 ·exact k0r (a:=(a:Int)) (by omega)
 ·exact k0L (a:=-(a:Int)) (by omega)
theorem q3V(s:Bool)(ha:0<a):qb (sg s a<0)=s:=by
 cases s
 ·exact k00 (by show ¬(a:Int)<0;omega)
 ·exact k03 (by show -(a:Int)<0;omega)
theorem q3o(g gx:Nat)(s:Bool)(a b d e':Nat)(w:qf)(hx:RatAt w g (sg s a) d)(hy:RatAt w gx (sg s b) e')(ha:0<a)(hb:0<b)(sa:Sz a)(sd:Sz d)(sb:Sz b)(se:Sz e'):qh qc 116 #[.pointer (qd ⟨g,0,qa⟩),.pointer (qd ⟨gx,0,qa⟩)] w fun e w'=>e=.returned (.int .i64 (q1Z (sg s a*e') (sg s b*d)))/\qi w.heap.size w w':=by
 have D:=vv (RSign g _ _ w hx);have M:=vv (RSign gx _ _ w hy);rw[q39 s ha] at D;rw[q39 s hb] at M;have f:=hx.lt;have u:=hy.lt;have N:=vv fun w' (h:RatAt w' g (sg s a) d)=>below g _ _ w' h
 have O:=vv fun w' (h:RatAt w' gx (sg s b) e')=>below gx _ _ w' h
 obtain⟨U,V⟩:=q3a s a d;obtain⟨W,X⟩:=q3a s b e';rw[V] at N;rw[X] at O;have a0:=vv hx;have a1:=vv hy;obtain⟨A,n,c,Y,q,E,hz⟩:=hx.num.ex;obtain⟨B,m,Z,k0,r,F,a2⟩:=hy.num.ex;rw[show qb (lp (sg s a) d<0)=s from(k2w.2 (q2B hx.pos)).trans (q3V s ha)] at Y;rw[U] at E;rw[W] at F;have hn:=E.sz (sa.mono (q1P a d));have hm:=F.sz (sb.mono (q1P b e'));have HA:=vv E;have HB:=vv F;have a3:=vv sd;have a4:=vv se;have HZ:=vv (q6Q s a b d e');have HR:ql (q0F ((lp a d).natAbs*ld b e') ((lp b e').natAbs*ld a d)=q0F (a*e') (b*d)):=by
  refine vv ?_;have e1:=q2l ha hx.pos;have e2:=q2l hb hy.pos;have f1:ld a d*a=d*(lp a d).natAbs:=by have:=e1.2.1;exact_mod_cast this
  have f2:ld b e'*b=e'*(lp b e').natAbs:=by have:=e2.2.1;exact_mod_cast this
  rw[<- q2C (d*e') _ _ (k0l hx.pos hy.pos),<- q2C (ld a d*ld b e') (a*e') (b*d) (k0l (q0S hx.pos) (q0S hy.pos))];congr 1
  ·calc d*e'*((lp a d).natAbs*ld b e')=(d*(lp a d).natAbs)*(e'*ld b e'):=by grind
    _=(ld a d*a)*(e'*ld b e'):=by rw[f1]
    _=_:=by grind
  ·calc d*e'*((lp b e').natAbs*ld a d)=(e'*(lp b e').natAbs)*(d*ld a d):=by grind
    _=(ld b e'*b)*(d*ld a d):=by rw[f2]
    _=_:=by grind
 clear hx hy ha hb E F hz a2 sa sb sd se k0 U V W X;rw[HZ.o];obtain⟨R,G⟩:=yx (q0F (a*e') (b*d));have i:-1<=R/\R<=1:=by rw[G];unfold q0F;(repeat' split)<;>omega
 obtain⟨i,b2⟩:=i;have wR:IntKind.i64.wrap (-R) = -R:=IntWalk.i64_in _ (by omega);rw[<- G] at HR ⊢;clear HZ G;cases s
 all_goals
  simp only[k1o,k2S,k2O] at D M ⊢;go_enter func116,ntmps116;go_wp2_with fail;refine D.o.mono ?_;rintro e w' ⟨rfl,rfl⟩;go_wp2_with fail;refine M.o.mono ?_;rintro e w' ⟨rfl,rfl⟩;go_wp2_with fail;refine D.o.mono ?_;rintro e w' ⟨rfl,rfl⟩;go_wp2_with fail;refine q02 (fun w'=>w'.cell? ⟨g,1,qa⟩=qd (.slice A n c)/\w'.cell? ⟨gx,1,qa⟩=qd (.slice B m Z)) 16
   (.still 0 (.still 1 (.still 2 (.still 3 (.still 4 (.still 5 (.still 8 (.still 9 (.still 10 (.still 11 (.still 12 (.still 13 (.one 6 (.one 7 (.one 14 (.one 15 .done)))))))))))))))) (by kernel_rfl) (by kernel_rfl) (fun _ _ d _ _ h=>by cases d<;>exact h) ⟨q,r⟩ (fun hS0=>?_)
  iterate 12
   refine q01 (v:=?_) rfl (by rfl) ?_ ?_;rotate_left
   ·intro w b3;go_simp;with_reducible rfl
   simp only[Act.put,sa,sb,sc]
  refine q03 rfl (by rfl) (fun K hK=>?_);go_simp;refine(O.o _ a1.o.drew).mono ?_;rintro e w1 ⟨A1,n1,c1,rfl,i,b4,j⟩;have b5:=i.sz (a4.o.mono (q1Y _ _));have a5:=vv i;have x:ql (qi w.heap.size w w1):=vv ⟨j.os,j.tape,j.output,j.size,j.block⟩;clear i j;go_wp2_with fail;refine hK.out _ _ ⟨(x.o.cell (p:=⟨g,1,qa⟩) f).trans q,(x.o.cell (p:=⟨gx,1,qa⟩) u).trans r⟩ (fun H=>?_);clear hK;refine q03 rfl (by rfl) (fun K hK=>?_);go_simp;refine(mulWords A A1 n n1 c c1 _ _ _ (HA.o.below x.o rfl) a5.o (by omega)).mono ?_;rintro e w2 t;obtain⟨A2,n2,c2,rfl,P,b6,Q⟩:=t.val2;have k:=vv P;have y:=vn x Q;clear P Q t;go_wp2_with fail;refine hK.out _ _ ⟨(y.o.cell (p:=⟨g,1,qa⟩) f).trans q,(y.o.cell (p:=⟨gx,1,qa⟩) u).trans r⟩ (fun H=>?_);clear hK;refine q03 rfl (by rfl) (fun K hK=>?_);go_simp;refine(N.o _ (a0.o.below y.o)).mono ?_;rintro e w3 ⟨A3,n3,c3,rfl,I,b7,J⟩;have b8:=I.sz (a3.o.mono (q1Y _ _));have a6:=vv I;have k:=vv (k.o.below J rfl);have z:=vn y J;clear I J;go_wp2_with fail;refine hK.out _ _ ⟨(z.o.cell (p:=⟨g,1,qa⟩) f).trans q,(z.o.cell (p:=⟨gx,1,qa⟩) u).trans r⟩ (fun H=>?_);clear hK;refine q03 rfl (by rfl) (fun K hK=>?_);go_simp;refine(mulWords B A3 m n3 Z c3 _ _ _ (HB.o.below z.o rfl) a6.o (by omega)).mono ?_;rintro e w4 t;obtain⟨A4,n4,c4,rfl,S,b9,L⟩:=t.val2;have a7:=vv S;have k:=vv (k.o.below L rfl);have l:=vn z L;have a8:=(l.o.cell (p:=⟨g,0,qa⟩) f).trans Y;have T:g<w4.heap.size:=k02 f l.o.size;clear S L t;go_wp2_with fail;refine hK.out _ _ ⟨(l.o.cell (p:=⟨g,1,qa⟩) f).trans q,(l.o.cell (p:=⟨gx,1,qa⟩) u).trans r⟩ (fun H=>?_);clear hK;refine q07 ?_;go_wp2_with fail;refine(cmpWords A2 A4 n2 n4 c2 c4 _ _ _ k.o a7.o (by rw[q04]) (by rw[q04])).mono ?_;rintro e w5 ⟨rfl,C⟩;rw[q04,q04,HR.o];have b0:=(C.cell (p:=⟨g,0,qa⟩) T).trans a8;have b1:g<w5.heap.size:=k02 T C.size;have a9:=vn l C;clear C;go_wp2;go_ret;exact⟨rfl,a9.o⟩
theorem CmpS(g gx:Nat)(p q:Int)(d e':Nat)(w:qf)(hx:RatAt w g p d)(hy:RatAt w gx q e')(sa:Sz p.natAbs)(sd:Sz d)(sb:Sz q.natAbs)(se:Sz e'):qh qc 116 #[.pointer (qd ⟨g,0,qa⟩),.pointer (qd ⟨gx,0,qa⟩)] w fun e w'=>e=.returned (.int .i64 (q1Z (p*e') (q*d)))/\qi w.heap.size w w':=by
 by_cases h:p.sign≠q.sign\/p.sign=0
 ·exact q5a g gx p q d e' w hx hy h
 ·rcases k0K p 0 with a|a|a<;>rcases k0K q 0 with b|b|b;all_goals
   simp only[k0L,k0r,a,b,Int.sign_zero,Int.reduceNeg,ne_eq,not_true_eq_false,reduceCtorEq,or_self,not_false_eq_true,or_true,true_or] at h
   try (exact absurd h (by decide))
  ·have c:p=sg qk p.natAbs:=by show p = -(p.natAbs:Int);omega
   have f:q=sg qk q.natAbs:=by show q = -(q.natAbs:Int);omega
   rw[c] at hx;rw[f] at hy;rw[c,f];exact q3o g gx qk _ _ d e' w hx hy (by omega) (by omega) sa sd sb se
  ·have c:p=sg qe p.natAbs:=by show p=(p.natAbs:Int);omega
   have f:q=sg qe q.natAbs:=by show q=(q.natAbs:Int);omega
   rw[c] at hx;rw[f] at hy;rw[c,f];exact q3o g gx qe _ _ d e' w hx hy (by omega) (by omega) sa sd sb se
theorem CmpR(g gx:Nat)(a b d e':Nat)(w:qf)(hx:RatAt w g (a:Int) d)(hy:RatAt w gx (b:Int) e')(sa:Sz a)(sd:Sz d)(sb:Sz b)(se:Sz e'):qh qc 116 #[.pointer (qd ⟨g,0,qa⟩),.pointer (qd ⟨gx,0,qa⟩)] w fun e w'=>e=.returned (.int .i64 (q0F (a*e') (b*d)))/\qi w.heap.size w w':=by
 have c:q1Z ((a:Int)*e') (b*d)=q0F (a*e') (b*d):=by rw[q46 (by have:=k0W (k0d a) (k0d e');omega) (by have:=k0W (k0d b) (k0d d);omega),k0B,k0B];rfl
 rw[<- c];exact CmpS g gx a b d e' w hx hy (by rw[k05];exact sa) sd (by rw[k05];exact sb) se
end B
namespace R5
open Go Go.RowKit
abbrev fm(E F:Int):Value:=.agg #[.int .i64 E,.int .i64 F]
theorem wu_pow(h:k<=63):IntKind.u64.wrap (2^k)=((2^k:Nat):Int):=by
 have b:(2:Nat)^k<=2^63:=k04 (by omega) h;have a:((2^k:Nat):Int)=(2:Int)^k:=by rw[k0D];rfl
 rw[<- a,qo];have:=k0c k;omega
theorem Sign(E F:Nat)(w:qf)(h1:2<=E)(h2:E<=11)(h3:1<=F)(h4:F<=52):qh qc 87 #[fm E F] w fun e w'=>e=.returned (.int .u64 ((2^(E+F):Nat):Int))/\qi w.heap.size w w':=by go_enter func87,ntmps87;go_wp2;go_ret;exact⟨q0U (wu_pow (by omega)),(qg _ _).alloc lr _⟩
theorem RatAt.one2(h:RatAt w g ((1:Int)*2^k) 1):RatAt w g ((2^k:Nat):Int) 1:=by
 have e:(1:Int)*2^k=((2^k:Nat):Int):=by rw[Int.one_mul,k0D];rfl
 rwa [e] at h
theorem q9x(k:Nat):bl (2^k)=k+1:=qbQ (by rw[k0a];have:=k0c k;omega) (by rw[k1d];exact lr) (by omega)
theorem q8C(k:Nat)(w:qf)(hk:k<=4294967295):qh qc 84 #[.int .i64 (k:Int)] w (q4e ((2^k:Nat):Int) 1 w):=by
 have l:ql (∀(w:qf) t,qi w.heap.size w (w.alloc (.cells #[.bool qe,.slice qa 0 0] t))):=vv fun w t=>(qg _ w).alloc lr _
 have x:ql (∀(w:qf) t,qi w.heap.size w (w.alloc (.cells #[.bool qe,.slice qa 0 0,.slice qa 0 0] t))):=vv fun w t=>(qg _ w).alloc lr _
 have m:=vv (RatAt.zero w 87);obtain⟨g,c⟩:=yx (w.alloc (.cells #[.bool qe,.slice qa 0 0,.slice qa 0 0] 87));have h:=x.o w 87;rw[<- c] at h m;have n:=vv h;have i:g.heap.size=w.heap.size+1:=by rw[c];simp
 have H:=vv i;have p:=vv (IntAt.zero g 82);rw[i] at p;have E:=vv c;clear c h i;have I:max (k:Int) (-(k:Int))=(k:Int):=by omega
 go_enter func84,ntmps84;go_wp2_with fail;rw[<- E.o];have b:=vv (n.o.trans ((l.o g 82).mono n.o.size));have j:=vv (m.o.below (l.o g 82));refine(B.NewInt 1 _ (by omega) (by omega)).mono ?_;rintro e K ⟨F,rfl,J,q,d⟩;have y:=vv q;have r:=vv (p.o.below d);have j:=vv (j.o.below d);have s:=b.o.trans (d.mono b.o.size);have b:=vv s;clear q d s;go_wp2_with fail;refine(B.Lsh _ 0 F 0 k 0 1 _ r.o y.o (by exact Sz.small (by decide)) (by omega)).mono ?_;rintro e L a;have a:=a.f r.o;have z:=vv a.2.1;have C:=vv (j.o.fs1 a.2.2 (by omega));have u:=vv (a.below b.o b.o.size (by omega));obtain⟨rfl,-,-⟩:=a;go_wp2_with fail;refine(B.SetInt w.heap.size (w.heap.size+1) _ _ C.o.sh z.o).mono ?_;rintro e M a;have D:=vv (a.below u.o u.o.size lr);obtain⟨rfl,v,-⟩:=a;have G:=vv (RatAt.one2 v);clear v;go_wp2;go_ret;exact⟨_,rfl,lr,G.o,D.o⟩
theorem q63(k:Nat)(w:qf)(hk:k<=4294967295)(h0:0<k):qh qc 84 #[.int .i64 (-(k:Int))] w (q4e 1 (2^k) w):=by
 have n:ql (∀(w:qf) t,qi w.heap.size w (w.alloc (.cells #[.bool qe,.slice qa 0 0] t))):=vv fun w t=>(qg _ w).alloc lr _
 have z:ql (∀(w:qf) t,qi w.heap.size w (w.alloc (.cells #[.bool qe,.slice qa 0 0,.slice qa 0 0] t))):=vv fun w t=>(qg _ w).alloc lr _
 have p:=vv (RatAt.zero w 87);obtain⟨h,d⟩:=yx (w.alloc (.cells #[.bool qe,.slice qa 0 0,.slice qa 0 0] 87));have j:=z.o w 87;rw[<- d] at j p;have q:=vv j;have l:h.heap.size=w.heap.size+1:=by rw[d];simp
 have I:=vv l;have r:=vv (IntAt.zero h 82);rw[l] at r;have G:=vv d;clear d j l;have J:-(-(k:Int))=(k:Int):=by omega
 have K:max (-(k:Int)) (k:Int)=(k:Int):=by omega
 have L:-(k:Int)<0:=by omega
 go_enter func84,ntmps84;go_wp2_with fail;rw[<- G.o];have b:=vv (q.o.trans ((n.o h 82).mono q.o.size));have m:=vv (p.o.below (n.o h 82));refine(B.NewInt 1 _ (by omega) (by omega)).mono ?_;rintro e N ⟨H,rfl,M,s,g⟩;have C:=vv s;have u:=vv (r.o.below g);have m:=vv (m.o.below g);have v:=b.o.trans (g.mono b.o.size);have b:=vv v;clear s g v;go_wp2_with fail;refine(B.Lsh _ 0 H 0 k 0 1 _ u.o C.o (by exact Sz.small (by decide)) (by omega)).mono ?_;rintro e O a;have a:=a.f u.o;have D:=vv a.2.1;have E:=vv (m.o.fs1 a.2.2 (by omega));have x:=vv (a.below b.o b.o.size (by omega));obtain⟨rfl,-,-⟩:=a;go_wp2_with fail;refine(B.SetInt w.heap.size (w.heap.size+1) _ _ E.o.sh D.o).mono ?_;rintro e P a;have y:=vv (a.below x.o x.o.size lr);obtain⟨rfl,c,-⟩:=a;have i:=vv (RatAt.one2 c);clear c;go_wp2_with fail;refine(B.Inv w.heap.size w.heap.size (2^k) 1 _ i.o.sh i.o (k0c k)).mono ?_;rintro e Q a;have F:=vv (a.below y.o y.o.size lr);obtain⟨rfl,c,-⟩:=a;have i:=vv c;clear c;go_wp2;go_ret;exact⟨_,rfl,lr,i.o,F.o⟩
theorem qco(n:Int)(w:qf)(h1:-4294967295<=n)(h2:n<=4294967295):qh qc 84 #[.int .i64 n] w (q4e ((p2 n:Nat):Int) (p2 (-n)) w):=by
 rcases k1l n 0 with h|h
 ·obtain⟨k,rfl⟩:∃k:Nat,n = -(k:Int):=⟨n.natAbs,by omega⟩;rw[q0l (n:=-(k:Int)) (by omega),show -(-(k:Int))=k by omega,q1s];exact q63 k w (by omega) (by omega)
 ·obtain⟨k,rfl⟩:∃k:Nat,n=(k:Int):=⟨n.natAbs,by omega⟩;rw[q0l (n:=-(k:Int)) (by omega),q1s];exact q8C k w (by omega)
theorem Sm.p2{n:Int}(h:n<=4294967295):Sm (p2 n):=by unfold Sm;unfold Go.Proofs.YtabcgemembkkcaaGreatDoor.p2;rw[q9x];omega
theorem q51(hb:0<b):((lp (a:Int) b).natAbs:Int)=lp (a:Int) b:=by have:=q2B (p:=(a:Int)) hb;omega
theorem RatAt.kept(h:RatAt w g (a:Int) b):RatAt w g (((lp (a:Int) b).natAbs:Nat):Int) (ld (a:Int) b):=h.cross (q0S h.pos) (by rw[q51 h.pos];exact(q0r _ _).symm)
theorem q3G(hb:0<b):a*ld (a:Int) b=(lp (a:Int) b).natAbs*b:=by
 have h:=q0r (a:Int) b;rw[<- q51 hb] at h
 exact_mod_cast h.symm
theorem q8P(ha:0<a)(hb:0<b):0<(lp (a:Int) b).natAbs:=(q2l ha hb).2.2
theorem qd1(g a b:Nat)(w:qf)(h:RatAt w g (a:Int) b):qh qc 102 #[.pointer (qd ⟨g,0,qa⟩)] w (q19 ((lp (a:Int) b).natAbs:Nat) w):=by rw[q51 h.pos];exact B.Num g _ _ w h
theorem qdc(g N D:Nat)(w:qf)(hx:RatAt w g (N:Int) D)(hN:∀w',qi w.heap.size w w'->qh qc 102 #[.pointer (qd ⟨g,0,qa⟩)] w' (q19 (N:Int) w'))
  (hD:∀w',qi w.heap.size w w'->qh qc 103 #[.pointer (qd ⟨g,0,qa⟩)] w' (q19 (D:Int) w')) (ha:0<N) (sa:Sm N) (sb:Sm D) :
  qh qc 193 #[.pointer (qd ⟨g,0,qa⟩)] w fun e w'=>e=.returned (.int .i64 (q1p N D))/\qi w.heap.size w w':=by
 have a:=hx.pos;have b:=vv (q7q (e:=(bl N:Int)-bl D) ha a rfl);have H:=vv hx;have I:=vv hN;have J:=vv hD;have P:bl N<=4294967296:=sa;have Q:bl D<=4294967296:=sb;have R:=q3s a;have S:=q3s ha;have x:=vv sa.sz;have y:=vv sb.sz;obtain⟨n,c⟩:=yx ((bl N:Int)-bl D);have K:=vv fun w=>qco n w (by omega) (by omega)
 have h:ql (Sz (p2 n)/\Sz (p2 (-n))):=vv ⟨(Sm.p2 (by omega)).sz,(Sm.p2 (by omega)).sz⟩;rw[<- c] at b;have T:-4294967296<=n:=by omega
 have U:n<=4294967296:=by omega
 have z:=vv c;clear hx sa sb a hN hD ha c;go_enter func193,ntmps193;go_wp2_with fail;refine(I.o _ (qg _ _)).mono ?_;rintro e Y ⟨L,rfl,V,i,j⟩;have C:=vv i;have k:=vv j;clear i j;go_wp2_with fail;refine(B.BitLen L 0 _ _ C.o).mono ?_;rintro e w' ⟨rfl,rfl⟩;go_wp2_with fail;refine(J.o _ k.o).mono ?_;rintro e Z ⟨M,rfl,W,l,m⟩;have E:=vv l;have F:=vn k m;clear l m;go_wp2_with fail;refine(B.BitLen M 0 _ _ E.o).mono ?_;rintro e w' ⟨rfl,rfl⟩;go_wp2_with fail;rw[<- z.o];refine(K.o _).mono ?_;rintro e w3 ⟨O,rfl,X,p,q⟩;have G:=vv p;have r:=vn F q;clear p q;go_wp2_with fail;refine(B.CmpR O g _ N _ D _ G.o (H.o.below r.o) h.o.1 h.o.2 x.o y.o).mono ?_;rintro e w4 ⟨rfl,s⟩;have u:=vn r s;clear s;by_cases hc:N*p2 (-n)<D*p2 n
 ·have v:q0F (p2 n*D) (N*p2 (-n))=1:=q2m (by rw[k0b (p2 n)];exact hc);rw[v];have d:ql (q1p N D=n-1):=vv (by rw[b.o,k0n hc]);clear v hc;go_wp2;go_ret;exact⟨q0U d.o.symm,u.o⟩
 ·obtain⟨t,f⟩:=yx (q0F (p2 n*D) (N*p2 (-n)));have hd:qb (0<t)=qe:=by rw[k17,f,q4E,k0b (p2 n)];exact hc
  rw[<- f];have d:ql (q1p N D=n):=vv (by rw[b.o,k0o hc]);clear f hc;go_wp2;go_ret;exact⟨q0U d.o.symm,u.o⟩
theorem log(g a b:Nat)(w:qf)(hx:RatAt w g (a:Int) b)(ha:0<a)(sa:Sm a)(sb:Sm b):qh qc 193 #[.pointer (qd ⟨g,0,qa⟩)] w fun e w'=>e=.returned (.int .i64 (q1p a b))/\qi w.heap.size w w':=by have c:=hx.pos;have d:q1p a b=q1p (lp (a:Int) b).natAbs (ld (a:Int) b):=q68 ha c (q0S c) (q3G c);rw[d];exact qdc g _ _ w (RatAt.kept hx) (fun w' hw=>qd1 g a b w' (hx.below hw)) (fun w' hw=>B.Denom g _ _ w' (hx.below hw)) (q8P ha c) (sa.mono (q1P _ _)) (sb.mono (q1Y _ _))
abbrev q6r:Obj:=.cells #[.bool qe,.slice qa 0 0,.slice qa 0 0] 87
abbrev qcy:Obj:=.cells #[.bool qe,.slice qa 0 0] 82
theorem q75(w:qf):RatAt (w.alloc q6r) w.heap.size 0 1/\qi w.heap.size w (w.alloc q6r):=⟨RatAt.zero w _,(qg _ w).alloc lr _⟩
theorem qa2(w:qf):IntAt (w.alloc qcy) w.heap.size 0 0/\qi w.heap.size w (w.alloc qcy):=⟨IntAt.zero w _,(qg _ w).alloc lr _⟩
theorem q8l(w:qf):RatAt ((w.alloc q6r).alloc q6r) w.heap.size 0 1/\RatAt ((w.alloc q6r).alloc q6r) (w.heap.size+1) 0 1/\qi w.heap.size w ((w.alloc q6r).alloc q6r):=by
 obtain⟨d,a⟩:=q75 w;obtain⟨b,c⟩:=q75 (w.alloc q6r);have e:(w.alloc q6r).heap.size=w.heap.size+1:=by simp
 rw[e] at b;exact⟨d.below c,b,a.trans (c.mono a.size)⟩
def q2k(neg:Bool)(mode N D:Nat):Bool:=q2U neg mode (qb (N/D%2=1)) (q0F (2*(N%D)) D)
theorem qaQ(g N D:Nat)(neg:Bool)(mode:Nat)(w:qf)(hx:RatAt w g (N:Int) D)(hN:∀w',qi w.heap.size w w'->qh qc 102 #[.pointer (qd ⟨g,0,qa⟩)] w' (q19 (N:Int) w'))
  (hD:∀w',qi w.heap.size w w'->qh qc 103 #[.pointer (qd ⟨g,0,qa⟩)] w' (q19 (D:Int) w')) (sa:Sm N) (sb:Sm D) (hst:Std w) (hm:mode<=4) :
  qh qc 274 #[.pointer (qd ⟨g,0,qa⟩),.bool neg,.int .u8 (mode:Int)] w (q19 ((rnd neg mode N D:Nat):Int) w):=by
 have hd:=hx.pos;have HX:=vv hx;have a8:=vv hN;have a9:=vv hD;have b3:=vv hst;have b4:=vv sa;have b5:=vv sb;have f3:=hx.lt;have d6:=k0j N hd;have b6:=k0e N D;have b7:=k0O N D;have b8:ql (Sm (N/D)):=vv (sa.mono b6);have d7:ql (Sm (N%D)):=vv (sb.mono (by omega));have d8:ql ((N:Int)/(D:Int)=((N/D:Nat):Int)):=vv (by rw[k1L]);have d9:=vv hd;have a1:ql ((N:Int)*((1:Nat):Int)-((N/D:Nat):Int)*(D:Nat)=((N%D:Nat):Int)/\D*1=D):=vv ⟨by
  have:((D*(N/D)+N%D:Nat):Int)=N:=by rw[b7]
  rw[k1g,k08,k2A] at this;rw[Int.natCast_one,k2Q,<- this];omega,k0A _⟩
 have H1:ql (N%D=0->rnd neg mode N D=N/D):=vv fun h=>by unfold rnd;rw[k0n h]
 have S:ql (N%D≠0->q2k neg mode N D=qk->rnd neg mode N D=N/D+1):=vv fun h k=>by unfold rnd;rw[k0o h];exact k0n k
 have Q:ql (N%D≠0->q2k neg mode N D=qe->rnd neg mode N D=N/D):=vv fun h k=>by unfold rnd;rw[k0o h];exact k0o (by unfold q2k at k;rw[k];decide)
 have HM:=vv hm;clear hx hN hD hst sa sb hd d6 b6 b7 hm;go_enter func274,ntmps274;go_wp2_with fail;obtain⟨M,K⟩:=qa2 w;obtain⟨w0,b9⟩:=yx (w.alloc qcy);rw[<- b9] at M K ⊢;have e0:=vv M;have c2:=vv K;have f0:=K.size;clear M K b9;refine(a8.o _ c2.o).mono ?_;rintro e w1 ⟨g1,rfl,f4,c3,a3⟩;have a4:=vv c3;have e1:=vv (e0.o.below a3);have c4:=vn c2 a3;clear c3 a3;go_wp2_with fail;refine(a9.o _ c4.o).mono ?_;rintro e w2 ⟨g2,rfl,f5,c5,U⟩;have e2:=vv c5;have a4:=vv (a4.o.below U);have e3:=vv (e1.o.below U);have c6:=vn c4 U;clear c5 U;go_wp2_with fail;refine(B.Div w.heap.size 0 g1 0 g2 0 _ _ _ _ e3.o a4.o e2.o (by have:=d9.o;omega) b4.o.sz).mono ?_;rintro e L j;have j:q6m w.heap.size 0 ((N:Int)/(D:Int)) w2 e L:=j;have c7:=vv (j.below c6.o c6.o.size lr);obtain⟨rfl,V,-⟩:=j;rw[d8.o] at V;have e4:=vv V;have f1:=c7.o.size;have f2:=V.lt;clear V;go_wp2_with fail;obtain⟨M,K,z3⟩:=q8l L;obtain⟨w4,c8⟩:=yx ((L.alloc q6r).alloc q6r);rw[<- c8] at M K z3 ⊢;have b0:=vv M;have b1:=vv K;have c9:=vv (e4.o.below z3);have d0:=vn c7 z3;clear M K z3 c8;refine(B.SetInt (L.heap.size+1) w.heap.size _ _ b1.o.sh c9.o).mono ?_;rintro e w5 j;have e5:=vv (c9.o.fs1 j.2.2 (by omega));have b2:=vv (b0.o.fs1 j.2.2 (by omega));have W:=vv (j.below d0.o d0.o.size (by omega));obtain⟨rfl,d1,-⟩:=j;have e6:=vv d1;clear d1;go_wp2_with fail;refine(B.SubR L.heap.size g (L.heap.size+1) (N:Int) ((N/D:Nat):Int) D 1 _ b2.o.sh (HX.o.below W.o) e6.o (b3.o.fs (Fs.of_nil W.o)) (by exact b4.o) b5.o (by exact b8.o) (by unfold Sm;decide)).mono ?_;rintro e w6 j;rw[a1.o.1,a1.o.2] at j;have d2:=vv (e5.o.fs1 j.2.2 (by omega));have a5:=vv (j.below W.o W.o.size (by omega));obtain⟨rfl,d3,-⟩:=j;have X:=vv d3;clear d3;go_wp2_with fail;refine(B.RSign L.heap.size _ _ _ X.o).mono ?_;rintro e w' ⟨rfl,rfl⟩;by_cases h0:N%D=0
 ·have d:=vv (H1.o h0);have T:((N%D:Nat):Int).sign=0:=by rw[h0];rfl
  rw[T];clear h0 T;go_wp2;go_ret;exact⟨_,rfl,lr,by rw[d.o];exact d2.o,a5.o⟩
 have T:((N%D:Nat):Int).sign=1:=k0r (by omega);rw[T];have s:=vv h0;clear h0 T;go_wp2_with fail;refine(B.NewRat 1 2 _ (by omega) (by omega) (by omega) (by omega) (b3.o.fs (Fs.of_nil a5.o))).mono ?_;rintro e w7 ⟨g7,rfl,f6,d4,Y⟩;have e7:=vv d4;have X:=vv (X.o.below Y);have e8:=vv (d2.o.below Y);have e9:=vn a5 Y;clear d4 Y;go_wp2_with fail;refine(B.CmpR L.heap.size g7 (N%D) 1 D 2 _ X.o e7.o d7.o.sz b5.o.sz (by unfold Sz;decide) (by unfold Sz;decide)).mono ?_;rintro e w8 ⟨rfl,a6⟩;have t:=vv (e8.o.below a6);have J:=vn e9 a6;clear a6;have b:q0F (N%D*2) (1*D)=q0F (2*(N%D)) D:=by rw[k0b,k0Q]
 rw[b];clear b;have hm:=HM.o;have q:ql (q2k neg mode N D=q2U neg mode (qb (N/D%2=1)) (q0F (2*(N%D)) D)):=vv rfl;have r:=q7M (2*(N%D)) D;have HO:=vv (k0Z (N/D));have a0:=vv (B.Bit0 w.heap.size 0 _ _ t.o);have R:ql (∀G H,qi w8.heap.size w8 G->IntAt G H 0 1->qh qc 160 #[.pointer (qd ⟨w.heap.size,0,qa⟩),.pointer (qd ⟨w.heap.size,0,qa⟩),.pointer (qd ⟨H,0,qa⟩)] G fun e w'=>e=.returned (.pointer (qd ⟨w.heap.size,0,qa⟩))/\IntAt w' w.heap.size 0 ((N/D+1:Nat):Int)/\qi w.heap.size w w'):=by
  refine vv fun G H hb h9=>?_
  refine(B.Add w.heap.size 0 w.heap.size 0 H 0 _ _ _ _ (t.o.below hb) (t.o.below hb) h9 (by exact b8.o.sz) (by unfold Sz;decide)).mono ?_;rintro e w' j;have j:=j.f (t.o.below hb);have d5:=J.o.trans (hb.mono J.o.size);exact⟨j.1,j.2.1,j.below d5 d5.size lr⟩
 rw[k05] at a0;generalize q0F (2*(N%D)) D=c at *
 rcases(by omega:mode=0/\c=1\/mode=0/\c = -1\/mode=0/\c=0\/mode=1/\0<=c\/mode=1/\c<0\/mode=2\/mode=3\/mode=4) with ⟨a,b⟩|⟨a,b⟩|⟨a,b⟩|⟨a,b⟩|⟨a,b⟩|a|a|a
 ·
  have u:((mode:Int)==0)=qk:=by rw[a];rfl
  have v:((mode:Int)==1)=qe:=by rw[a];rfl
  have x:((mode:Int)==2)=qe:=by rw[a];rfl
  have y:((mode:Int)==3)=qe:=by rw[a];rfl
  have z:((mode:Int)==4)=qe:=by rw[a];rfl
  have i:ql (q2k neg mode N D=qk):=vv (by rw[q.o,a,b];rfl);have O:qb (0<c)=qk:=by rw[b];rfl
  clear b;clear a hm r;have d:=vv (S.o s.o i.o);go_wp2_with fail;refine(B.NewInt 1 _ (by omega) (by omega)).mono ?_;rintro e G ⟨H,rfl,Z,l,m⟩;have C:=vv l;have E:=vv m;clear l m;go_wp2_with fail;refine(R.o _ _ E.o C.o).mono ?_;rintro e a2 ⟨rfl,n,p⟩;have I:=vv n;have F:=vv p;clear n p;go_wp2;go_ret;exact⟨_,rfl,lr,by rw[d.o];exact I.o,F.o⟩
 ·
  have u:((mode:Int)==0)=qk:=by rw[a];rfl
  have v:((mode:Int)==1)=qe:=by rw[a];rfl
  have x:((mode:Int)==2)=qe:=by rw[a];rfl
  have y:((mode:Int)==3)=qe:=by rw[a];rfl
  have z:((mode:Int)==4)=qe:=by rw[a];rfl
  have i:ql (q2k neg mode N D=qe):=vv (by rw[q.o,a,b];rfl);have O:qb (0<c)=qe:=by rw[b];rfl
  have c1:(c==0)=qe:=by rw[b];rfl
  clear b;clear a hm r;have d:=vv (Q.o s.o i.o);go_wp2;go_ret;exact⟨_,rfl,lr,by rw[d.o];exact t.o,J.o⟩
 ·rcases HO.o with P|P
  ·
   have u:((mode:Int)==0)=qk:=by rw[a];rfl
   have v:((mode:Int)==1)=qe:=by rw[a];rfl
   have x:((mode:Int)==2)=qe:=by rw[a];rfl
   have y:((mode:Int)==3)=qe:=by rw[a];rfl
   have z:((mode:Int)==4)=qe:=by rw[a];rfl
   have i:ql (q2k neg mode N D=qe):=vv (by rw[q.o,a,b,P];rfl);have O:qb (0<c)=qe:=by rw[b];rfl
   have c1:(c==0)=qk:=by rw[b];rfl
   have a7:=vv P;clear b P;clear a hm r;have d:=vv (Q.o s.o i.o);go_wp2_with fail;refine a0.o.mono ?_;rintro e w' ⟨rfl,rfl⟩;rw[a7.o];go_wp2_with fail;go_wp2;go_ret;exact⟨_,rfl,lr,by rw[d.o];exact t.o,J.o⟩
  ·
   have u:((mode:Int)==0)=qk:=by rw[a];rfl
   have v:((mode:Int)==1)=qe:=by rw[a];rfl
   have x:((mode:Int)==2)=qe:=by rw[a];rfl
   have y:((mode:Int)==3)=qe:=by rw[a];rfl
   have z:((mode:Int)==4)=qe:=by rw[a];rfl
   have i:ql (q2k neg mode N D=qk):=vv (by rw[q.o,a,b,P];rfl);have O:qb (0<c)=qe:=by rw[b];rfl
   have c1:(c==0)=qk:=by rw[b];rfl
   have a7:=vv P;clear b P;clear a hm r;have d:=vv (S.o s.o i.o);go_wp2_with fail;refine a0.o.mono ?_;rintro e w' ⟨rfl,rfl⟩;rw[a7.o];go_wp2_with fail;refine(B.NewInt 1 _ (by omega) (by omega)).mono ?_;rintro e G ⟨H,rfl,Z,l,m⟩;have C:=vv l;have E:=vv m;clear l m;go_wp2_with fail;refine(R.o _ _ E.o C.o).mono ?_;rintro e a2 ⟨rfl,n,p⟩;have I:=vv n;have F:=vv p;clear n p;go_wp2;go_ret;exact⟨_,rfl,lr,by rw[d.o];exact I.o,F.o⟩
 ·
  have u:((mode:Int)==0)=qe:=by rw[a];rfl
  have v:((mode:Int)==1)=qk:=by rw[a];rfl
  have x:((mode:Int)==2)=qe:=by rw[a];rfl
  have y:((mode:Int)==3)=qe:=by rw[a];rfl
  have z:((mode:Int)==4)=qe:=by rw[a];rfl
  have O:qb (0<=c)=qk:=k03 b;have i:ql (q2k neg mode N D=qk):=vv (by rw[q.o,a];exact O);clear b;clear a hm r;have d:=vv (S.o s.o i.o);go_wp2_with fail;refine(B.NewInt 1 _ (by omega) (by omega)).mono ?_;rintro e G ⟨H,rfl,Z,l,m⟩;have C:=vv l;have E:=vv m;clear l m;go_wp2_with fail;refine(R.o _ _ E.o C.o).mono ?_;rintro e a2 ⟨rfl,n,p⟩;have I:=vv n;have F:=vv p;clear n p;go_wp2;go_ret;exact⟨_,rfl,lr,by rw[d.o];exact I.o,F.o⟩
 ·
  have u:((mode:Int)==0)=qe:=by rw[a];rfl
  have v:((mode:Int)==1)=qk:=by rw[a];rfl
  have x:((mode:Int)==2)=qe:=by rw[a];rfl
  have y:((mode:Int)==3)=qe:=by rw[a];rfl
  have z:((mode:Int)==4)=qe:=by rw[a];rfl
  have O:qb (0<=c)=qe:=k00 (by omega);have i:ql (q2k neg mode N D=qe):=vv (by rw[q.o,a];exact O);clear b;clear a hm r;have d:=vv (Q.o s.o i.o);go_wp2;go_ret;exact⟨_,rfl,lr,by rw[d.o];exact t.o,J.o⟩
 ·
  have u:((mode:Int)==0)=qe:=by rw[a];rfl
  have v:((mode:Int)==1)=qe:=by rw[a];rfl
  have x:((mode:Int)==2)=qk:=by rw[a];rfl
  have y:((mode:Int)==3)=qe:=by rw[a];rfl
  have z:((mode:Int)==4)=qe:=by rw[a];rfl
  have i:ql (q2k neg mode N D=qe):=vv (by rw[q.o,a];rfl);clear a hm r;have d:=vv (Q.o s.o i.o);go_wp2;go_ret;exact⟨_,rfl,lr,by rw[d.o];exact t.o,J.o⟩
 ·cases neg
  ·
   have u:((mode:Int)==0)=qe:=by rw[a];rfl
   have v:((mode:Int)==1)=qe:=by rw[a];rfl
   have x:((mode:Int)==2)=qe:=by rw[a];rfl
   have y:((mode:Int)==3)=qk:=by rw[a];rfl
   have z:((mode:Int)==4)=qe:=by rw[a];rfl
   have i:ql (q2k _ mode N D=qk):=vv (by rw[q.o,a];rfl);clear a hm r;have d:=vv (S.o s.o i.o);go_wp2_with fail;refine(B.NewInt 1 _ (by omega) (by omega)).mono ?_;rintro e G ⟨H,rfl,Z,l,m⟩;have C:=vv l;have E:=vv m;clear l m;go_wp2_with fail;refine(R.o _ _ E.o C.o).mono ?_;rintro e a2 ⟨rfl,n,p⟩;have I:=vv n;have F:=vv p;clear n p;go_wp2;go_ret;exact⟨_,rfl,lr,by rw[d.o];exact I.o,F.o⟩
  ·
   have u:((mode:Int)==0)=qe:=by rw[a];rfl
   have v:((mode:Int)==1)=qe:=by rw[a];rfl
   have x:((mode:Int)==2)=qe:=by rw[a];rfl
   have y:((mode:Int)==3)=qk:=by rw[a];rfl
   have z:((mode:Int)==4)=qe:=by rw[a];rfl
   have i:ql (q2k _ mode N D=qe):=vv (by rw[q.o,a];rfl);clear a hm r;have d:=vv (Q.o s.o i.o);go_wp2;go_ret;exact⟨_,rfl,lr,by rw[d.o];exact t.o,J.o⟩
 ·cases neg
  ·
   have u:((mode:Int)==0)=qe:=by rw[a];rfl
   have v:((mode:Int)==1)=qe:=by rw[a];rfl
   have x:((mode:Int)==2)=qe:=by rw[a];rfl
   have y:((mode:Int)==3)=qe:=by rw[a];rfl
   have z:((mode:Int)==4)=qk:=by rw[a];rfl
   have i:ql (q2k _ mode N D=qe):=vv (by rw[q.o,a];rfl);clear a hm r;have d:=vv (Q.o s.o i.o);go_wp2;go_ret;exact⟨_,rfl,lr,by rw[d.o];exact t.o,J.o⟩
  ·
   have u:((mode:Int)==0)=qe:=by rw[a];rfl
   have v:((mode:Int)==1)=qe:=by rw[a];rfl
   have x:((mode:Int)==2)=qe:=by rw[a];rfl
   have y:((mode:Int)==3)=qe:=by rw[a];rfl
   have z:((mode:Int)==4)=qk:=by rw[a];rfl
   have i:ql (q2k _ mode N D=qk):=vv (by rw[q.o,a];rfl);clear a hm r;have d:=vv (S.o s.o i.o);go_wp2_with fail;refine(B.NewInt 1 _ (by omega) (by omega)).mono ?_;rintro e G ⟨H,rfl,Z,l,m⟩;have C:=vv l;have E:=vv m;clear l m;go_wp2_with fail;refine(R.o _ _ E.o C.o).mono ?_;rintro e a2 ⟨rfl,n,p⟩;have I:=vv n;have F:=vv p;clear n p;go_wp2;go_ret;exact⟨_,rfl,lr,by rw[d.o];exact I.o,F.o⟩
theorem q3v(g a b:Nat)(neg:Bool)(mode:Nat)(w:qf)(hx:RatAt w g (a:Int) b)(sa:Sm a)(sb:Sm b)(hst:Std w)(hm:mode<=4):qh qc 274 #[.pointer (qd ⟨g,0,qa⟩),.bool neg,.int .u8 (mode:Int)] w (q19 ((rnd neg mode a b:Nat):Int) w):=by have c:=hx.pos;rw[q6Y c (q0S (p:=(a:Int)) c) (q3G c)];exact qaQ g _ _ neg mode w (RatAt.kept hx) (fun w' hw=>qd1 g a b w' (hx.below hw)) (fun w' hw=>B.Denom g _ _ w' (hx.below hw)) (sa.mono (q1P _ _)) (sb.mono (q1Y _ _)) hst hm
structure FmAt(w:qf)(g:Nat)(E F:Int):Prop where
 c0:w.cell? ⟨g,0,qa⟩=qd (.int .i64 E)
 c1:w.cell? ⟨g,1,qa⟩=qd (.int .i64 F)
 lt:g<w.heap.size
theorem FmAt.made(w:qf)(E F:Int)(t:TypeId):FmAt (w.alloc (.cells #[.int .i64 E,.int .i64 F] t)) w.heap.size E F:=⟨by simp only[World.cell?];rw[qj];rfl,by simp only[World.cell?];rw[qj];rfl,by simp⟩
theorem FmAt.below(h:FmAt w g E F)(hb:qi w.heap.size w w'):FmAt w' g E F:=⟨(hb.cell (p:=⟨g,0,qa⟩) h.lt).trans h.c0,(hb.cell (p:=⟨g,1,qa⟩) h.lt).trans h.c1,k02 h.lt hb.size⟩
theorem FmAt.like(h:FmAt w g E F)(e:w'.heap=w.heap):FmAt w' g E F:=⟨by rw[<- h.c0];simp only[World.cell?,e],by rw[<- h.c1];simp only[World.cell?,e],by rw[e];exact h.lt⟩
theorem bl_p2(n:Int)(h:n<=4000):bl (p2 n)<=4001:=by unfold Go.Proofs.YtabcgemembkkcaaGreatDoor.p2;rw[q9x];omega
def qc5(S:Nat)(o:Nat × Nat)(w:qf)(e:Ending)(w':qf):Prop:=e=.returned (.tuple #[.int .u64 ((S+o.1:Nat):Int),.int .u8 (o.2:Int)])/\qi w.heap.size w w'
theorem q4X{k l:IntKind}{a b c d:Int}(h:a=b)(h':c=d):Ending.returned (.tuple #[.int k a,.int l c])=.returned (.tuple #[.int k b,.int l d]):=by rw[h,h']
def sgb(E F:Nat)(b:Bool):Nat:=if b then 2^(E+F) else 0
abbrev q0I(A:Option qn)(n c:Nat):Value:=.agg #[.slice A n c]
abbrev q0i(neg:Bool)(A:Option qn)(n c:Nat)(B:Option qn)(m d:Nat):Value:=.agg #[.bool neg,.slice A n c,.slice B m d]
abbrev q14(neg:Bool)(A:Option qn)(n c:Nat)(e:Int):Value:=.agg #[.bool neg,.slice A n c,.int .i64 e]
def q2y(n:Nat)(xs:List Nat):Bool:=qb (n<=16384) && (qb (n=0) || decide (nth xs (n-1)≠0))
end R5
namespace AB
open Go Go.RowKit
end AB
namespace B
open AB
open Go Go.RowKit
theorem Exp0(g o gx ox gy oy:Nat)(v x:Int)(w:qf)(h:IntAt w g o v)(hx:IntAt w gx ox x)(hy:IntAt w gy oy 0):qh qc 200 #[.pointer (qd ⟨g,o,qa⟩),.pointer (qd ⟨gx,ox,qa⟩),.pointer (qd ⟨gy,oy,qa⟩),.pointer qa] w (q6m g o 1 w):=by
 have q:=vv h;have E:=vv hx;have F:=vv hy;have I:=hy.lt;have b:ql (∀(w:qf) t,qi w.heap.size w (w.alloc (.cells #[.bool qe,.slice qa 0 0] t))):=vv fun w t=>(qg _ w).alloc lr _
 have G:=vv (IntAt.zero w 82);clear h hx hy;go_enter func200,ntmps200;go_wp2_with fail;refine(NewInt 1 _ (by omega) (by omega)).mono ?_;rintro e d ⟨r,rfl,m,i,j⟩;have s:=vv i;have k:=vv ((b.o w 82).trans (j.mono (Below.size (b.o w 82))));have u:=vv (G.o.below j);have J:=i.lt;have K:w.heap.size<r:=by simp at m;omega
 have y:=k.o.size;clear i j m;go_wp2_with fail;have l:=vv (k.o.trans ((b.o d 82).mono k.o.size));have n:=vv (IntAt.zero d 82);refine(Set _ 0 gx ox 0 _ _ n.o (E.o.below l.o)).mono ?_;rintro e N a;have a:=a.f n.o;have c:=vv (a.below l.o (l.o.size) y);have z:=vv ((s.o.below (b.o d 82)).fs1 a.2.2 (by omega));have p:=vv ((u.o.below (b.o d 82)).fs1 a.2.2 (by omega));obtain⟨rfl,-,-⟩:=a;have C:=vv (F.o.below c.o);go_wp2_with fail;refine(Sign gy oy _ _ C.o).mono ?_;rintro e O ⟨rfl,rfl⟩;rw[Int.sign_zero];obtain⟨P,Q,L⟩:=p.o.nil;have M:=p.o.lt;go_wp2_with fail;refine(Set g o r 0 _ _ _ (q.o.below c.o) z.o).mono ?_;rintro e R a;have H:=vv ((a.f (q.o.below c.o)).after c.o);obtain⟨rfl,D,-⟩:=a;go_wp2;go_ret;exact⟨rfl,D,H.o⟩
end B
namespace R5
open Go Go.RowKit
theorem q1D{A:Option qn}(h:Rd w A n c (toL N))(hn:n<=16384):q2y n (toL N)=qk:=by
 unfold q2y;rw[k03 hn,k2M];rcases k01 n with a|a
 ·rw[a];rfl
 ·have b:0<N:=by
   rcases k01 N with e|e
   ·have:=h.words;rw[e,q0s] at this;omega
   ·exact e
  obtain⟨-,e⟩:=bl_words b;rw[h.words] at e;rw[k00 (p:=n=0) (by omega),Bool.false_or,k03 (by omega)]
structure RatioBox(w:qf)(g:Nat)(neg:Bool)(A:Option qn)(n c:Nat)(B:Option qn)(m d:Nat):Prop where
 c0:w.cell? ⟨g,0,qa⟩=qd (.bool neg)
 c1:w.cell? ⟨g,1,qa⟩=qd (.slice A n c)
 c2:w.cell? ⟨g,2,qa⟩=qd (.slice B m d)
 lt:g<w.heap.size
theorem RatioBox.made(w:qf)(neg:Bool)(A:Option qn)(n c:Nat)(B:Option qn)(m d:Nat)(t:TypeId):RatioBox (w.alloc (.cells #[.bool neg,.slice A n c,.slice B m d] t)) w.heap.size neg A n c B m d:=⟨by simp only[World.cell?];rw[qj];rfl,by simp only[World.cell?];rw[qj];rfl,by simp only[World.cell?];rw[qj];rfl,by simp⟩
theorem RatioBox.below{A:Option qn}{B:Option qn}{m d:Nat}(h:RatioBox w g neg A n c B m d)(hb:qi w.heap.size w w'):RatioBox w' g neg A n c B m d:=⟨(hb.cell (p:=⟨g,0,qa⟩) h.lt).trans h.c0,(hb.cell (p:=⟨g,1,qa⟩) h.lt).trans h.c1,(hb.cell (p:=⟨g,2,qa⟩) h.lt).trans h.c2,k02 h.lt hb.size⟩
theorem q6I(k:Nat):bl (10^k)<=4*k+1:=q0A (by
 have h1:(10:Nat)^k<=16^k:=k1C (by omega) k;have h2:(16:Nat)^k=2^(4*k):=by rw[k1k]
 rw[k0a];have:=k0c (4*k);omega)
def q2K(o:Nat × Nat)(w:qf)(e:Ending)(w':qf):Prop:=e=.returned (.tuple #[.int .u64 (o.1:Int),.int .u8 (o.2:Int),.int .i64 0])/\qi w.heap.size w w'
def q0h(E F:Nat)(below neg:Bool)(mode a b:Nat):Nat × Nat:=
 if a=0 then(sgb E F neg,0) else(sgb E F below+(out E F below mode a b).1,(out E F below mode a b).2)
theorem q4U{E F:Nat}{below:Bool}{mode:Nat}(c n:Int)(h1:2<=E)(h2:E<=11)(h3:1<=F)(h4:F<=52)(hc:1200<=c):q0h E F below neg mode (N*t10 (q3u n (bl N+1+c))) (t10 (-q3u n (bl N+1+c)))=q0h E F below neg mode (N*t10 n) (t10 (-n)):=by
 rcases k01 N with d|d
 ·subst d;simp [q0h]
 ·have k:=q4x (E:=E) (F:=F) (neg:=below) (mode:=mode) (a:=N) (b:=1) c n h1 h2 h3 h4 d (by omega) hc;rw[k0Q,k0Q,show bl 1=1 from rfl] at k;have f:=k0l d (q1w (q3u n (bl N+1+c)));have p2:=k0l d (q1w n);unfold q0h;rw[k0o (by omega),k0o (by omega)];have e:out E F below mode (N*t10 (q3u n (bl N+1+c))) (t10 (-q3u n (bl N+1+c)))=out E F below mode (N*t10 n) (t10 (-n)):=k;rw[e]
def twoOk(neg:Bool)(n:Nat)(xs:List Nat)(e:Int):Bool:=
 q2y n xs && qb (e<=1073741824) && qb (-1073741824<=e) && (if n=0 then qb (e=0) && !neg else qb (nth xs 0%2=1))
structure DyadBox(w:qf)(g:Nat)(neg:Bool)(A:Option qn)(n c:Nat)(e:Int):Prop where
 c0:w.cell? ⟨g,0,qa⟩=qd (.bool neg)
 c1:w.cell? ⟨g,1,qa⟩=qd (.slice A n c)
 c2:w.cell? ⟨g,2,qa⟩=qd (.int .i64 e)
 lt:g<w.heap.size
theorem DyadBox.made(w:qf)(neg:Bool)(A:Option qn)(n c:Nat)(e:Int)(t:TypeId):DyadBox (w.alloc (.cells #[.bool neg,.slice A n c,.int .i64 e] t)) w.heap.size neg A n c e:=⟨by simp only[World.cell?];rw[qj];rfl,by simp only[World.cell?];rw[qj];rfl,by simp only[World.cell?];rw[qj];rfl,by simp⟩
theorem DyadBox.below{A:Option qn}{e:Int}(h:DyadBox w g neg A n c e)(hb:qi w.heap.size w w'):DyadBox w' g neg A n c e:=⟨(hb.cell (p:=⟨g,0,qa⟩) h.lt).trans h.c0,(hb.cell (p:=⟨g,1,qa⟩) h.lt).trans h.c1,(hb.cell (p:=⟨g,2,qa⟩) h.lt).trans h.c2,k02 h.lt hb.size⟩
end R5
namespace A
open AB
open Go Go.RowKit
theorem SetBytes(g o:Nat)(v:Int)(A:Option qn)(m c N:Nat)(w:qf)(h:IntAt w g o v)(hb:Bd w A m c N)(hm:m<=4294967296):qh qc 209 #[.pointer (qd ⟨g,o,qa⟩),.slice A m c] w (q0B g o (N:Int) w):=by
 obtain⟨L,U⟩:=yx ((m+3)/4);have J:L<=35184372088832:=by omega
 have b4:(L:Int)<=35184372088832:=by omega
 have a2:((m:Int)+3)/4=(L:Int):=by omega
 have b5:(m:Int)<=4294967296:=by omega
 have b6:=mk L J;have V:=vv h;have K:=vv hb;have HL:=vv U;have H1:ql (Own (w.alloc (.cells (madeCells #[.int .u32 0] L) 54)) w.heap.size 54 (List.replicate L 0)):=vv (Own.made w L 54);have H3:ql (qi w.heap.size w (w.alloc (.cells (madeCells #[.int .u32 0] L) 54))):=vv ((qg _ w).alloc lr _);clear h hb U;go_enter func209,ntmps209;go_wp2;clear a2;go_loopw [16] (fun t wr=>∃(i:Nat) (W:List Nat),t=.int .i64 i/\i<=m/\Own wr w.heap.size 54 W/\W.length=L/\val W=hi N (m-i)/\qi w.heap.size w wr) (fun t _=>m-(intOf t).toNat)
 case atStart=>exact⟨0,List.replicate L 0,rfl,k0x _,H1.o,k0I,by rw[q0b,Nat.sub_zero,q9p K.o.lt],H3.o⟩
 case round =>
  obtain⟨i,W,rfl,a3,a,u,f,j⟩:=hrel;have a0:=vv a;have M:=vv u;have X:=vv j;by_cases him:i<m
  ·obtain⟨k,z⟩:=yx (m-1-i);have O:val W=hi N (k+1):=by rw[f];congr 1;omega
   have b7:(m:Int)-1-(i:Int)=(k:Int):=by omega
   obtain⟨b,off,e,P,Q⟩:=K.o.cell (by omega);subst e;have R:=(j.cell (p:=⟨b,off+i,qa⟩) P).trans (Q i him);rw[<- z] at R;obtain⟨q,hq⟩:=yx (k/4);have b8:q<L:=by have:=HL.o;omega
   have y:q<W.length:=by omega
   have b9:(k:Int)/4=(q:Int):=by omega
   have b1:(k:Int)<=4294967296:=by omega
   have b2:(q:Int)<(L:Int):=by omega
   obtain⟨r,hr⟩:=yx (k%4);have c0:(k:Int).tmod 4=(r:Int):=by rw[k1X (by omega)];omega
   have c1:IntKind.i64.wrap (q:Int)=(q:Int):=by rw[qm];omega
   have c2:(0:Int)<=(q:Int):=by omega
   obtain⟨Y,l,E,n⟩:=q4F a.2 y (show k=4*q+r by omega) (by omega) O;have S:=a.cell y;have c3:=a.frozen q;have c4:=a.lt;have F:=vv (a.set (x:=nth W q+bt N k*256^r) y l rfl);have a4:=qay N k;obtain⟨C,G⟩:=yx (bt N k);obtain⟨x,hx⟩:=yx (nth W q);rw[<- G,<- hx] at Y l n F;rw[<- G] at E a4 R;rw[<- hx] at S;have c5:IntKind.u32.wrap (C:Int)=(C:Int):=by rw[qp];omega
   obtain⟨D,H⟩:=yx (C*256^r);rw[<- H] at Y l E n F;obtain⟨s,Z⟩:=yx (8*r);have c6:IntKind.i64.wrap (8*(r:Int))=(s:Int):=by rw[qm];omega
   have c7:(0:Int)<=(s:Int):=by omega
   have b3:(s:Int)<=32:=by omega
   have c8:IntKind.u32.wrap ((C:Int)*2^s)=(D:Int):=by
    have e:(C:Int)*2^s=(D:Int):=by
     have e2:(2:Int)^s=((256^r:Nat):Int):=by rw[Z,k0D,Int.pow_mul];rfl
     rw[e2,H,k08]
    rw[e,qp];omega
   have a5:ql (hi N k=hi N (m-(i+1))):=vv (by rw[z];congr 1;omega);have a6:=vv n;clear P Q j a O f u hr hq z G hx H Z l E n;go_wp2;refine q02 (fun w'=>w'.cell? ⟨w.heap.size,q,qa⟩=qd (.int .u32 (x:Int))) 13
    (.still 0 (.still 1 (.still 2 (.still 3 (.still 4 (.still 5 (.still 6 (.still 7 (.still 8 (.still 9 (.still 10 (.still 11 (.still 12 .done))))))))))))) (by kernel_rfl) (by kernel_rfl) (fun _ _ d _ _ h=>by cases d<;>exact h) S (fun hS0=>?_)
   iterate 13
    refine q01 (v:=?_) rfl (by rfl) ?_ ?_;rotate_left
    ·intro w c9;go_simp;with_reducible rfl
    simp only[Act.put,sa,sb,sc]
   refine q07 ?_;go_wp2;go_roundw
   case rel =>exact⟨i+1,W.set q (x+D),by go_num,by omega,F.o,by rw[k07];exact M.o,a6.o.trans a5.o,(X.o.drew).setCell lr _⟩
   case measure=>simp [intOf];omega
  ·obtain rfl:i=m:=by omega
   rw[Nat.sub_self,q7r] at f;have a7:=vv f;have a8:=vv (V.o.below (j.mono lr));have a1:(i:Int)<=(i:Int):=Int.le_refl _;clear a f u j him a3 a1;go_wp2_with fail;refine(trim (qd ⟨w.heap.size,0,qa⟩) L L W wr (a0.o.rd M.o.symm lr J)).mono ?_;rintro e w' ⟨m',rfl,rfl,I⟩;rw[a7.o] at I;have HR:=vv I;have T:=vv (SetWords g o v _ _ _ (toL N) wr a8.o HR.o);rw[q04] at T;clear I;go_wp2_with fail;refine T.o.mono ?_;rintro e w3 ⟨rfl,hI,hF⟩;have a9:=vv hI;have b0:=vv (Fm.trans (Fm.of_below X.o V.o.lt) hF);clear hI hF;go_wp2;go_ret;exact⟨rfl,a9.o,b0.o⟩
end A
end Go.Proofs.YtabcgemembkkcaaGreatDoor
