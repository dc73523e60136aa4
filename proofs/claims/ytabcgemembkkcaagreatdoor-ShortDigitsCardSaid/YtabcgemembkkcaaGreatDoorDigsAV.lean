/- Lemmas. -/
import Derived.Test.YtabcgemembkkcaaGreatDoorDigsAU
import Derived.Test.YtabcgemembkkcaaGreatDoorDigsAL
import Derived.Test.YtabcgemembkkcaaGreatDoorDigsAE
set_option linter.all false
set_option maxHeartbeats 8000000
set_option maxRecDepth 100000
open Go.Proofs.Tryz
open Decidable renaming decide->qa
open Option renaming none->qb,some->qd
open Go.Proofs.Tryz renaming prog->qc
open Bool renaming false->qe,true->qk
open Go renaming World->qf,RowKit.Below.refl->qg,Calls->qh,heap_alloc_new->qj,Addr->qm,IntKind.wrap_i64->qo,IntKind.wrap_u64->qp
open Go.RowKit renaming Below->qi,Hid->ql
open Int renaming sub_eq_add_neg->qn,natAbs_zero->qq,not_lt->qr,sign_zero->qs,sign_mul->qt
namespace Go.Proofs.YtabcgemembkkcaaGreatDoor
variable{fq:FuncId}{a k E g n b c N:Nat}{w w':qf}{F:Int}{neg:Bool}
namespace AB
open Go Go.RowKit
theorem Mul(g o gx ox gy oy:Nat)(v u1 u2:Int)(w:qf)(h:IntAt w g o v)(hx:IntAt w gx ox u1)(hy:IntAt w gy oy u2)(hn:Sz u1.natAbs)(hm:Sz u2.natAbs)(hq:fq=94\/fq=278:=by decide):qh qc fq #[.pointer (qd ⟨g,o,qb⟩),.pointer (qd ⟨gx,ox,qb⟩),.pointer (qd ⟨gy,oy,qb⟩)] w (q0B g o (u1*u2) w):=by
 have l:=vv h;have j:=hx.lt;have k:=hy.lt;obtain⟨A,n,c,q,r,f,y⟩:=hx.ex;obtain⟨B,m,d,s,t,i,hy⟩:=hy.ex;have z:=vv fun fq hq=>mulWords (fq:=fq) (hq:=hq) A B n m c d _ _ _ f.drew i.drew (by have:=f.sz hn;have:=i.sz hm;omega)
 clear f y i hy h hx hn hm;rcases hq with rfl|rfl;go_enter func94,ntmps94;rotate_left;go_enter func278,ntmps278;rotate_left;all_goals
  go_wp2_with fail;refine q02 (fun w'=>w'.cell? ⟨gx,ox,qb⟩=qd (.bool (qa (u1<0)))/\w'.cell? ⟨gx,ox+1,qb⟩=qd (.slice A n c)/\w'.cell? ⟨gy,oy,qb⟩=qd (.bool (qa (u2<0)))/\w'.cell? ⟨gy,oy+1,qb⟩=qd (.slice B m d)) 19
   (.still 0 (.still 1 (.still 2 (.still 3 (.still 4 (.still 5 (.still 6 (.still 7 (.still 8 (.still 9 (.still 10 (.still 11 (.still 12 (.still 13 (.still 14 (.still 15 (.still 16 (.still 17 (.one 18 .done))))))))))))))))))) ⟨q,r,s,t⟩ (fun H=>?_)
  iterate 18
   refine q03 ?_
  refine q01 rfl (by rfl) (fun K hK=>?_);go_simp;refine(z.o _ (by decide)).mono ?_;rintro e J ⟨C,D,E,rfl,u,x,b⟩;go_wp2_with fail;refine hK.out _ _ ⟨(b.cell (p:=⟨gx,ox,qb⟩) j).trans q,(b.cell (p:=⟨gx,ox+1,qb⟩) j).trans r,(b.cell (p:=⟨gy,oy,qb⟩) k).trans s,(b.cell (p:=⟨gy,oy+1,qb⟩) k).trans t⟩ (fun I=>?_);clear hK;refine q08 ?_;go_wp2_with fail;refine(set_of g o v (u1*u2) _ C D E (u1.natAbs*u2.natAbs) _ (l.o.drew.below b) (by rw[q04,q04] at u;exact u) (fun a e=>(x a e).2) (k1c u1 u2) ?_).mono ?_
  ·rw[q4M];rfl
  rintro e L ⟨rfl,F,G⟩;go_wp2;go_ret;exact⟨rfl,F,((Fm.of_below b l.o.lt).trans G).undrew⟩
theorem added_same(g o:Nat)(v u:Int)(b:Bool)(N M:Nat)(A B:Option qm)(n m c d:Nat)(w:qf)(h:IntAt w g o v)(ha:Rd w A n c (toL N))(hb:Rd w B m d (toL M))(hn:Sz N)(hm:Sz M)(hu:u=sg b (N+M))(hq:fq=335\/fq=255:=by decide):qh qc fq #[.pointer (qd ⟨g,o,qb⟩),.slice A n c,.bool b,.slice B m d,.bool b] w (q0B g o u w):=by
 have i:=vv h;have p:=vv fun fq hq=>addWords (fq:=fq) (hq:=hq) A B n m c d _ _ w ha hb (by have:=ha.sz hn;omega) (by have:=hb.sz hm;omega)
 have j:=vv hu;clear ha hb hn hm h hu;have z:(b==b)=qk:=by cases b<;>rfl
 rcases hq with rfl|rfl;go_enter func335,ntmps335;rotate_left;go_enter func255,ntmps255;rotate_left;all_goals
  go_wp2_with fail;refine(p.o _ (by decide)).mono ?_;rintro e C ⟨q,r,s,rfl,f,l,k⟩;rw[q04,q04] at f;have t:=vv f;clear f;go_wp2_with fail;refine(set_of g o v u b q r s (N+M) _ (i.o.below k) t.o (fun a e=>(l a e).2) (by rw[j.o,q0Z]) (by rw[j.o,q26])).mono ?_;rintro e D ⟨rfl,x,y⟩;go_wp2;go_ret;exact⟨rfl,x,(Fm.of_below k i.o.lt).trans y⟩
theorem added_ge(g o:Nat)(v u:Int)(b:Bool)(N M:Nat)(t:Int)(A B:Option qm)(n m c d:Nat)(w:qf)(h:IntAt w g o v)(ha:Rd w A n c (toL N))(hb:Rd w B m d (toL M))(ht:q14 N M=t)(h0:t=0\/t=1)(hle:M<=N)(hu:u=sg b (N-M))(hq:fq=335\/fq=255:=by decide):qh qc fq #[.pointer (qd ⟨g,o,qb⟩),.slice A n c,.bool b,.slice B m d,.bool (!b)] w (q0B g o u w):=by
 have l:=vv h;have y:=vv fun fq hq=>cmpWords (fq:=fq) (hq:=hq) A B n m c d _ _ w ha hb (by rw[q04]) (by rw[q04])
 have p:=vv ha;have q:=vv hb;have r:=vv hu;have s:=vv hle;have z:=vv ht;have I:(b==!b)=qe:=by cases b<;>rfl
 clear ha hb h hu hle ht;rcases h0 with rfl|rfl;all_goals
  rcases hq with rfl|rfl;go_enter func335,ntmps335;rotate_left;go_enter func255,ntmps255;rotate_left;all_goals
   go_wp2_with fail;refine(y.o _ (by decide)).mono ?_;rintro e J ⟨rfl,f⟩;rw[q04,q04,z.o];go_wp2_with fail;refine(subWords A B n m c d _ _ _ (p.o.below f rfl) (q.o.below f rfl) (by rw[q04,q04];exact s.o) (q.o.le_of p.o s.o)).mono ?_;rintro e K ⟨C,D,E,rfl,i,x,j⟩;rw[q04,q04] at i;have F:=vv i;have k:=vv (f.trans (j.mono f.size));clear i j;go_wp2_with fail;refine(set_of g o v u b C D E (N-M) _ (l.o.below k.o) F.o (fun a e=>(x a e).2) (by rw[r.o,q0Z]) (by rw[r.o,q26])).mono ?_;rintro e L ⟨rfl,G,H⟩;go_wp2;go_ret;exact⟨rfl,G,(Fm.of_below k.o l.o.lt).trans H⟩
theorem added_lt(g o:Nat)(v u:Int)(b:Bool)(N M:Nat)(A B:Option qm)(n m c d:Nat)(w:qf)(h:IntAt w g o v)(ha:Rd w A n c (toL N))(hb:Rd w B m d (toL M))(ht:q14 N M = -1)(hle:N<=M)(hu:u=sg (!b) (M-N))(hq:fq=335\/fq=255:=by decide):qh qc fq #[.pointer (qd ⟨g,o,qb⟩),.slice A n c,.bool b,.slice B m d,.bool (!b)] w (q0B g o u w):=by
 have l:=vv h;have x:=vv fun fq hq=>cmpWords (fq:=fq) (hq:=hq) A B n m c d _ _ w ha hb (by rw[q04]) (by rw[q04])
 have p:=vv ha;have q:=vv hb;have r:=vv hu;have s:=vv hle;have y:=vv ht;have H:(b==!b)=qe:=by cases b<;>rfl
 clear ha hb h hu hle ht;rcases hq with rfl|rfl;go_enter func335,ntmps335;rotate_left;go_enter func255,ntmps255;rotate_left;all_goals
  go_wp2_with fail;refine(x.o _ (by decide)).mono ?_;rintro e I ⟨rfl,f⟩;rw[q04,q04,y.o];go_wp2_with fail;refine(subWords B A m n d c _ _ _ (q.o.below f rfl) (p.o.below f rfl) (by rw[q04,q04];exact s.o) (p.o.le_of q.o s.o)).mono ?_;rintro e J ⟨z,C,D,rfl,i,t,j⟩;rw[q04,q04] at i;have E:=vv i;have k:=vv (f.trans (j.mono f.size));clear i j;go_wp2_with fail;refine(set_of g o v u (!b) z C D (M-N) _ (l.o.below k.o) E.o (fun a e=>(t a e).2) (by rw[r.o,q0Z]) (by rw[r.o,q26])).mono ?_;rintro e K ⟨rfl,F,G⟩;go_wp2;go_ret;exact⟨rfl,F,(Fm.of_below k.o l.o.lt).trans G⟩
theorem added(g o:Nat)(v:Int)(a b:Bool)(N M:Nat)(A B:Option qm)(n m c d:Nat)(w:qf)(h:IntAt w g o v)(ha:Rd w A n c (toL N))(hb:Rd w B m d (toL M))(hn:Sz N)(hm:Sz M)(hq:fq=335\/fq=255:=by decide):qh qc fq #[.pointer (qd ⟨g,o,qb⟩),.slice A n c,.bool a,.slice B m d,.bool b] w (q0B g o (sg a N+sg b M) w):=by
 by_cases e:b=a
 ·subst e;exact added_same (hq:=hq) g o v _ b N M A B n m c d w h ha hb hn hm (by cases b<;>simp [sg]<;>omega)
 ·obtain rfl:b=!a:=by cases a<;>cases b<;>simp_all
  rcases k1K N M with k|k|k
  ·exact added_lt (hq:=hq) g o v _ a N M A B n m c d w h ha hb (by unfold q14;simp [k]) (by omega) (by cases a<;>simp [sg]<;>omega)
  ·exact added_ge (hq:=hq) g o v _ a N M 0 A B n m c d w h ha hb (by unfold q14;simp [k]) (.inl rfl) (by omega) (by cases a<;>simp [sg]<;>omega)
  ·exact added_ge (hq:=hq) g o v _ a N M 1 A B n m c d w h ha hb (by unfold q14;simp [k];omega) (.inr rfl) (by omega) (by cases a<;>simp [sg]<;>omega)
theorem Add(g o gx ox gy oy:Nat)(v u1 u2:Int)(w:qf)(h:IntAt w g o v)(hx:IntAt w gx ox u1)(hy:IntAt w gy oy u2)(hn:Sz u1.natAbs)(hm:Sz u2.natAbs)(hq:fq=292\/fq=160:=by decide):qh qc fq #[.pointer (qd ⟨g,o,qb⟩),.pointer (qd ⟨gx,ox,qb⟩),.pointer (qd ⟨gy,oy,qb⟩)] w (q0B g o (u1+u2) w):=by
 obtain⟨A,n,c,i,j,a,k⟩:=hx.ex;obtain⟨B,m,d,l,p,b,hy⟩:=hy.ex;have q:=vv fun fq hq=>added (fq:=fq) (hq:=hq) g o v (qa (u1<0)) (qa (u2<0)) _ _ A B n m c d w.drew h.drew a.drew b.drew hn hm
 clear a k b hy h hx hn hm;rcases hq with rfl|rfl;go_enter func292,ntmps292;rotate_left;go_enter func160,ntmps160;rotate_left;all_goals
  go_wp2_with fail;refine q02 (fun w'=>w'.cell? ⟨gx,ox,qb⟩=qd (.bool (qa (u1<0)))/\w'.cell? ⟨gx,ox+1,qb⟩=qd (.slice A n c)/\w'.cell? ⟨gy,oy,qb⟩=qd (.bool (qa (u2<0)))/\w'.cell? ⟨gy,oy+1,qb⟩=qd (.slice B m d)) 17
   (.still 0 (.still 1 (.still 2 (.still 3 (.still 4 (.still 5 (.still 6 (.still 7 (.still 8 (.still 9 (.still 10 (.still 11 (.still 12 (.still 13 (.still 14 (.still 15 (.still 16 .done))))))))))))))))) ⟨i,j,l,p⟩ (fun s=>?_)
  iterate 17
   refine q03 ?_
  refine q08 ?_;go_wp2_with fail;refine(q.o _ (by decide)).mono ?_;rintro e t ⟨rfl,f,r⟩;rw[q6F,q6F] at f;go_wp2;go_ret;exact⟨rfl,f,r.undrew⟩
theorem Sub(g o gx ox gy oy:Nat)(v u1 u2:Int)(w:qf)(h:IntAt w g o v)(hx:IntAt w gx ox u1)(hy:IntAt w gy oy u2)(hn:Sz u1.natAbs)(hm:Sz u2.natAbs)(hq:fq=319\/fq=356:=by decide):qh qc fq #[.pointer (qd ⟨g,o,qb⟩),.pointer (qd ⟨gx,ox,qb⟩),.pointer (qd ⟨gy,oy,qb⟩)] w (q0B g o (u1-u2) w):=by
 obtain⟨A,n,c,i,j,a,k⟩:=hx.ex;obtain⟨B,m,d,l,p,b,hy⟩:=hy.ex;have q:=vv fun fq hq=>added (fq:=fq) (hq:=hq) g o v (qa (u1<0)) (!qa (u2<0)) _ _ A B n m c d w.drew h.drew a.drew b.drew hn hm
 clear a k b hy h hx hn hm;rcases hq with rfl|rfl;go_enter func319,ntmps319;rotate_left;go_enter func356,ntmps356;rotate_left;all_goals
  go_wp2_with fail;refine q02 (fun w'=>w'.cell? ⟨gx,ox,qb⟩=qd (.bool (qa (u1<0)))/\w'.cell? ⟨gx,ox+1,qb⟩=qd (.slice A n c)/\w'.cell? ⟨gy,oy,qb⟩=qd (.bool (qa (u2<0)))/\w'.cell? ⟨gy,oy+1,qb⟩=qd (.slice B m d)) 18
   (.still 0 (.still 1 (.still 2 (.still 3 (.still 4 (.still 5 (.still 6 (.still 7 (.still 8 (.still 9 (.still 10 (.still 11 (.still 12 (.still 13 (.still 14 (.still 15 (.still 16 (.still 17 .done)))))))))))))))))) ⟨i,j,l,p⟩ (fun s=>?_)
  iterate 18
   refine q03 ?_
  refine q08 ?_;go_wp2_with fail;refine(q.o _ (by decide)).mono ?_;rintro e t ⟨rfl,f,r⟩;rw[q6F,qc4,<- qn] at f;go_wp2;go_ret;exact⟨rfl,f,r.undrew⟩
theorem Lsh(g o gx ox k:Nat)(v u:Int)(w:qf)(h:IntAt w g o v)(hx:IntAt w gx ox u)(hn:Sz u.natAbs)(hk:k<30000000000000)(hq:fq=172\/fq=169:=by decide):qh qc fq #[.pointer (qd ⟨g,o,qb⟩),.pointer (qd ⟨gx,ox,qb⟩),.int .u64 (k:Int)] w (q0B g o (u*2^k) w):=by
 have i:=vv h;have f:=hx.lt;obtain⟨A,n,c,j,l,d,r⟩:=hx.ex;have s:=vv fun fq hq=>up (fq:=fq) (hq:=hq) A n c _ k _ rfl _ d.drew (by have:=d.sz hn;omega)
 have D:IntKind.i64.wrap (k:Int)=(k:Int):=by rw[qo];omega
 clear d r h hx hn;rcases hq with rfl|rfl;go_enter func172,ntmps172;rotate_left;go_enter func169,ntmps169;rotate_left;all_goals
  go_wp2_with fail;refine q02 (fun w'=>w'.cell? ⟨gx,ox,qb⟩=qd (.bool (qa (u<0)))/\w'.cell? ⟨gx,ox+1,qb⟩=qd (.slice A n c)) 12
   (.still 0 (.still 1 (.still 2 (.still 3 (.still 4 (.still 5 (.still 6 (.still 7 (.still 8 (.still 9 (.still 10 (.one 11 .done)))))))))))) ⟨j,l⟩ (fun E=>?_)
  iterate 11
   refine q03 ?_
  refine q01 rfl (by rfl) (fun K hK=>?_);go_simp;refine(s.o _ (by decide)).mono ?_;rintro e G ⟨t,x,y,rfl,m,q,b⟩;go_wp2_with fail;refine hK.out _ _ ⟨(b.cell (p:=⟨gx,ox,qb⟩) f).trans j,(b.cell (p:=⟨gx,ox+1,qb⟩) f).trans l⟩ (fun F=>?_);clear hK;refine q08 ?_;go_wp2_with fail;refine(set_of g o v (u*2^k) _ t x y (u.natAbs*2^k) _ (i.o.drew.below b) (by rw[q04] at m;exact m) (fun a e=>(q a e).2) (by rw[k1c,Int.natAbs_pow];rfl) ?_).mono ?_
  ·exact q92 u k
  rintro e H ⟨rfl,z,C⟩;go_wp2;go_ret;exact⟨rfl,z,((Fm.of_below b i.o.lt).trans C).undrew⟩
theorem Uint64(g o:Nat)(u:Int)(w:qf)(h:IntAt w g o u)(hu:u.natAbs<18446744073709551616)(hq:fq=269\/fq=276:=by decide):qh qc fq #[.pointer (qd ⟨g,o,qb⟩)] w fun e w'=>e=.returned (.int .u64 ((u.natAbs:Nat):Int))/\w=w':=by
 obtain⟨A,n,c,i,j,a,b⟩:=h.ex;have d:=vv fun fq hq=>toUint (fq:=fq) (hq:=hq) A n c _ w a
 have f:=vv (two_words hu);clear a b h;rcases hq with rfl|rfl;go_enter func269,ntmps269;rotate_left;go_enter func276,ntmps276;rotate_left;all_goals
  go_wp2_with fail;refine(d.o _ (by decide)).mono ?_;rintro e k ⟨rfl,rfl⟩;rw[f.o];go_wp2;go_ret;exact⟨rfl,rfl⟩
theorem NewInt(x:Int)(w:qf)(h1:-9223372036854775808<=x)(h2:x<=9223372036854775807)(hq:fq=93\/fq=114:=by decide):qh qc fq #[.int .i64 x] w (q0W x w):=by
 rcases hq with rfl|rfl;go_enter func93,ntmps93;rotate_left;go_enter func114,ntmps114;rotate_left;all_goals
  go_wp2_with fail;refine(SetInt64 _ _ 0 x _ (IntAt.zero w _) h1 h2).mono ?_;rintro e c ⟨rfl,a,b⟩;go_wp2;go_ret;exact⟨_,rfl,lr,a,b.below ((qg _ w).alloc lr _) (by simp) lr⟩
theorem Cmp_ff(g o gx ox N M n c m d:Nat)(A B:Option qm)(w:qf)(h0:w.cell? ⟨g,o,qb⟩=qd (.bool qe))(h1:w.cell? ⟨g,o+1,qb⟩=qd (.slice A n c))(k0:w.cell? ⟨gx,ox,qb⟩=qd (.bool qe))(k1:w.cell? ⟨gx,ox+1,qb⟩=qd (.slice B m d))
  (ha:Rd w A n c (toL N)) (hb:Rd w B m d (toL M)) (hq:fq=204\/fq=113:=by decide) :
  qh qc fq #[.pointer (qd ⟨g,o,qb⟩),.pointer (qd ⟨gx,ox,qb⟩)] w fun e w'=>e=.returned (.int .i64 (q14 N M))/\qi w.heap.size w w':=by
 have f:=vv fun fq hq=>cmpWords (fq:=fq) (hq:=hq) A B n m c d _ _ w.drew.drew (ha.like rfl) (hb.like rfl) (by rw[q04]) (by rw[q04])
 clear ha hb;rcases hq with rfl|rfl;go_enter func204,ntmps204;rotate_left;go_enter func113,ntmps113;rotate_left;all_goals
  go_wp2_with fail;refine q02 (fun w'=>w'.cell? ⟨g,o,qb⟩=qd (.bool qe)/\w'.cell? ⟨gx,ox,qb⟩=qd (.bool qe)) 9
   (.still 0 (.still 1 (.still 2 (.still 3 (.still 4 (.still 5 (.still 6 (.still 7 (.still 8 .done))))))))) ⟨h0,k0⟩ (fun b=>?_)
  iterate 9
   refine q03 ?_
  refine q0T rfl ?_;go_wp2_with fail;refine q02 (fun w'=>w'.cell? ⟨g,o+1,qb⟩=qd (.slice A n c)/\w'.cell? ⟨gx,ox+1,qb⟩=qd (.slice B m d)) 8
   (.still 0 (.still 1 (.still 2 (.still 3 (.still 4 (.still 5 (.still 6 (.still 7 .done)))))))) ⟨h1,k1⟩ (fun b=>?_)
  iterate 8
   refine q03 ?_
  refine q08 ?_;go_wp2_with fail;refine(f.o _ (by decide)).mono ?_;rintro e h ⟨rfl,a⟩;rw[q04,q04];go_wp2;go_ret;exact⟨rfl,⟨a.os,a.tape,a.output,a.size,a.block⟩⟩
theorem Cmp_tt(g o gx ox N M n c m d:Nat)(A B:Option qm)(w:qf)(h0:w.cell? ⟨g,o,qb⟩=qd (.bool qk))(h1:w.cell? ⟨g,o+1,qb⟩=qd (.slice A n c))(k0:w.cell? ⟨gx,ox,qb⟩=qd (.bool qk))(k1:w.cell? ⟨gx,ox+1,qb⟩=qd (.slice B m d))
  (ha:Rd w A n c (toL N)) (hb:Rd w B m d (toL M)) (hq:fq=204\/fq=113:=by decide) :
  qh qc fq #[.pointer (qd ⟨g,o,qb⟩),.pointer (qd ⟨gx,ox,qb⟩)] w fun e w'=>e=.returned (.int .i64 (-q14 N M))/\qi w.heap.size w w':=by
 have f:=vv fun fq hq=>cmpWords (fq:=fq) (hq:=hq) A B n m c d _ _ w.drew.drew (ha.like rfl) (hb.like rfl) (by rw[q04]) (by rw[q04])
 have h:IntKind.i64.wrap (-q14 N M) = -q14 N M:=by have:=q8n N M;rw[qo];omega
 clear ha hb;rcases hq with rfl|rfl;go_enter func204,ntmps204;rotate_left;go_enter func113,ntmps113;rotate_left;all_goals
  go_wp2_with fail;refine q02 (fun w'=>w'.cell? ⟨g,o,qb⟩=qd (.bool qk)/\w'.cell? ⟨gx,ox,qb⟩=qd (.bool qk)) 9
   (.still 0 (.still 1 (.still 2 (.still 3 (.still 4 (.still 5 (.still 6 (.still 7 (.still 8 .done))))))))) ⟨h0,k0⟩ (fun b=>?_)
  iterate 9
   refine q03 ?_
  refine q0T rfl ?_;go_wp2_with fail;refine q02 (fun w'=>w'.cell? ⟨g,o+1,qb⟩=qd (.slice A n c)/\w'.cell? ⟨gx,ox+1,qb⟩=qd (.slice B m d)) 8
   (.still 0 (.still 1 (.still 2 (.still 3 (.still 4 (.still 5 (.still 6 (.still 7 .done)))))))) ⟨h1,k1⟩ (fun b=>?_)
  iterate 8
   refine q03 ?_
  refine q08 ?_;go_wp2_with fail;refine(f.o _ (by decide)).mono ?_;rintro e i ⟨rfl,a⟩;rw[q04,q04];go_wp2;go_ret;exact⟨rfl,⟨a.os,a.tape,a.output,a.size,a.block⟩⟩
theorem Cmp_ne(g o gx ox:Nat)(a:Bool)(w:qf)(h0:w.cell? ⟨g,o,qb⟩=qd (.bool a))(k0:w.cell? ⟨gx,ox,qb⟩=qd (.bool !a))(hq:fq=204\/fq=113:=by decide):qh qc fq #[.pointer (qd ⟨g,o,qb⟩),.pointer (qd ⟨gx,ox,qb⟩)] w fun e w'=>e=.returned (.int .i64 (if a then -1 else 1))/\qi w.heap.size w w':=by
 cases a
 ·rcases hq with rfl|rfl;go_enter func204,ntmps204;rotate_left;go_enter func113,ntmps113;rotate_left;all_goals
   go_wp2_with fail;refine q02 (fun w'=>w'.cell? ⟨g,o,qb⟩=qd (.bool qe)/\w'.cell? ⟨gx,ox,qb⟩=qd (.bool qk)) 9
    (.still 0 (.still 1 (.still 2 (.still 3 (.still 4 (.still 5 (.still 6 (.still 7 (.still 8 .done))))))))) ⟨h0,k0⟩ (fun b=>?_)
   iterate 9
    refine q03 ?_
   refine q0T rfl ?_;go_wp2;go_ret;exact⟨rfl,q05 (qg _ _)⟩
 ·rcases hq with rfl|rfl;go_enter func204,ntmps204;rotate_left;go_enter func113,ntmps113;rotate_left;all_goals
   go_wp2_with fail;refine q02 (fun w'=>w'.cell? ⟨g,o,qb⟩=qd (.bool qk)/\w'.cell? ⟨gx,ox,qb⟩=qd (.bool qe)) 9
    (.still 0 (.still 1 (.still 2 (.still 3 (.still 4 (.still 5 (.still 6 (.still 7 (.still 8 .done))))))))) ⟨h0,k0⟩ (fun b=>?_)
   iterate 9
    refine q03 ?_
   refine q0T rfl ?_;go_wp2;go_ret;exact⟨rfl,q05 (qg _ _)⟩
theorem Cmp(g o gx ox:Nat)(u1 u2:Int)(w:qf)(h:IntAt w g o u1)(hx:IntAt w gx ox u2)(hq:fq=204\/fq=113:=by decide):qh qc fq #[.pointer (qd ⟨g,o,qb⟩),.pointer (qd ⟨gx,ox,qb⟩)] w fun e w'=>e=.returned (.int .i64 (q2P u1 u2))/\qi w.heap.size w w':=by
 obtain⟨A,n,c,a,f,i,l⟩:=h.ex;obtain⟨B,m,d,b,j,k,p⟩:=hx.ex;by_cases e1:u1<0<;>by_cases e2:u2<0
 ·rw[k04 e1] at a;rw[k04 e2] at b;rw[qbi e1 e2];exact Cmp_tt (hq:=hq) g o gx ox _ _ n c m d A B w a f b j i k
 ·rw[k04 e1] at a;rw[k02 e2] at b;rw[q4r (by omega)];exact Cmp_ne (hq:=hq) g o gx ox qk w a b
 ·rw[k02 e1] at a;rw[k04 e2] at b;rw[q4s (by omega)];exact Cmp_ne (hq:=hq) g o gx ox qe w a b
 ·rw[k02 e1] at a;rw[k02 e2] at b;rw[q5G e1 e2];exact Cmp_ff (hq:=hq) g o gx ox _ _ n c m d A B w a f b j i k
theorem Bit0(g o:Nat)(u:Int)(w:qf)(h:IntAt w g o u)(hq:fq=320\/fq=325:=by decide):qh qc fq #[.pointer (qd ⟨g,o,qb⟩),.int .i64 0] w fun e w'=>e=.returned (.int .u64 ((u.natAbs%2:Nat):Int))/\w=w':=by
 obtain⟨A,n,c,k,t,a,l⟩:=h.ex;have s:=a.sm;have d:=a.words;clear l h k;rcases k01 n with rfl|f
 ·have m:=q06.1 d;rw[m];clear d a;rcases hq with rfl|rfl;go_enter func320,ntmps320;rotate_left;go_enter func325,ntmps325;rotate_left;all_goals
   go_wp2;go_ret;exact⟨rfl,rfl⟩
 ·obtain⟨b,off,rfl,v,i⟩:=a.cell f;have j:=i 0 f;rw[k1u] at j;have p:=a.nth_lt 0;have q:=vv (q8x (nth (toL u.natAbs) 0) p);have r:=vv (q2V u.natAbs);clear i d a;rcases hq with rfl|rfl;go_enter func320,ntmps320;rotate_left;go_enter func325,ntmps325;rotate_left;all_goals
   go_wp2;go_ret;refine⟨q0X ?_,rfl⟩;rw[q.o,r.o,qp];omega
def q6u(g o gr or:Nat)(q r:Int)(w:qf)(e:Ending)(w':qf):Prop:=
 e=.returned (.tuple #[.pointer (qd ⟨g,o,qb⟩),.pointer (qd ⟨gr,or,qb⟩)])/\IntAt w' g o q/\IntAt w' gr or r/\Fs [(gr,or,2),(g,o,2)] w w'
theorem QuoRem(g o gx ox gy oy gr or:Nat)(v u1 u2 ur:Int)(w:qf)(h:IntAt w g o v)(hx:IntAt w gx ox u1)(hy:IntAt w gy oy u2)(hr:IntAt w gr or ur)(hne:g≠gr)(h0:u2≠0)(hn:Sz u1.natAbs)(hq:fq=318\/fq=253:=by decide):qh qc fq #[.pointer (qd ⟨g,o,qb⟩),.pointer (qd ⟨gx,ox,qb⟩),.pointer (qd ⟨gy,oy,qb⟩),.pointer (qd ⟨gr,or,qb⟩)] w
   (q6u g o gr or (sg (qa (u1<0) != qa (u2<0)) (u1.natAbs/u2.natAbs)) (sg (qa (u1<0)) (u1.natAbs%u2.natAbs)) w):=by
 have x:=vv h;have y:=vv hr;have E:=hx.lt;have F:=hy.lt;obtain⟨A,n,c,h0,z,k,N⟩:=hx.ex;obtain⟨B,m,d,O,C,D,hy⟩:=hy.ex;have P:=vv fun fq hq=>divWords (fq:=fq) (hq:=hq) A B n m c d _ _ w.drew.drew (k.like rfl) (D.like rfl) (by omega) (by have:=k.sz hn;omega)
 clear k N D hy h hx hn hr;rcases hq with rfl|rfl;go_enter func318,ntmps318;rotate_left;go_enter func253,ntmps253;rotate_left;all_goals
  go_wp2_with fail;refine q02 (fun w'=>w'.cell? ⟨gx,ox,qb⟩=qd (.bool (qa (u1<0)))/\w'.cell? ⟨gy,oy,qb⟩=qd (.bool (qa (u2<0)))) 9
   (.still 0 (.still 1 (.still 2 (.still 3 (.still 4 (.still 5 (.still 6 (.still 7 (.still 8 .done))))))))) ⟨h0,O⟩ (fun G=>?_)
  iterate 9
   refine q03 ?_
  refine q08 ?_;go_wp2_with fail;refine q02 (fun w'=>w'.cell? ⟨gx,ox+1,qb⟩=qd (.slice A n c)/\w'.cell? ⟨gy,oy+1,qb⟩=qd (.slice B m d)) 14
   (.still 0 (.still 1 (.still 2 (.still 3 (.still 4 (.still 5 (.still 6 (.still 7 (.one 8 (.still 9 (.still 10 (.still 11 (.still 12 (.still 13 .done)))))))))))))) ⟨z,C⟩ (fun G=>?_)
  iterate 8
   refine q03 ?_
  refine q01 rfl (by rfl) (fun K hK=>?_);go_simp;refine(P.o _ (by decide)).mono ?_;rintro e Q ⟨R,S,c1,T,U,c2,rfl,l,q,r,H,f⟩;have b:ql (qi w.heap.size w Q):=vv ⟨f.os,f.tape,f.output,f.size,f.block⟩;have I:=vv l;have J:=vv q;clear l q f;go_wp2_with fail;refine hK.out _ _ ⟨(b.o.cell (p:=⟨gx,ox+1,qb⟩) E).trans z,(b.o.cell (p:=⟨gy,oy+1,qb⟩) F).trans C⟩ (fun V=>?_);clear hK
  iterate 5
   refine q03 ?_
  refine q0T rfl ?_;go_wp2_with fail;refine(set_of gr or ur (sg (qa (u1<0)) (u1.natAbs%u2.natAbs)) _ T U c2 _ _ (y.o.below b.o) J.o (fun a e=>(H a e).2) (q0Z _ _) (q26 _ _)).mono ?_;rintro e X i;have j:=vv (i.fs (y.o.below b.o));obtain⟨rfl,s,Y⟩:=i;have L:=vv s;clear s;go_wp2_with fail;refine(set_of g o v (sg (qa (u1<0) != qa (u2<0)) (u1.natAbs/u2.natAbs)) _ R S c1 _ _ ((x.o.below b.o).fs1 j.o (Ne.symm hne)) (I.o.fs (fun a e=>(r a e).2) j.o) (fun a e=>(r a e).2) (q0Z _ _) (q26 _ _)).mono ?_;rintro e Z i;have t:=vv (i.fs ((x.o.below b.o).fs1 j.o (Ne.symm hne)));obtain⟨rfl,u,W⟩:=i;have M:=vv u;clear u;go_wp2;go_ret2;exact⟨rfl,M.o,L.o.fs1 t.o hne,((Fs.of_below [] b.o (fun _ hp=>by cases hp)).trans j.o).trans t.o⟩
theorem DivMod_up(g o gx ox gy oy gr or:Nat)(v u1 u2 ur:Int)(w:qf)(h:IntAt w g o v)(hx:IntAt w gx ox u1)(hy:IntAt w gy oy u2)(hr:IntAt w gr or ur)(hne:g≠gr)(h0:u2≠0)(hn:Sz u1.natAbs)
  (hlow:¬sg (qa (u1<0)) (u1.natAbs%u2.natAbs)<0) (hq:fq=260\/fq=326:=by decide) :
  qh qc fq #[.pointer (qd ⟨g,o,qb⟩),.pointer (qd ⟨gx,ox,qb⟩),.pointer (qd ⟨gy,oy,qb⟩),.pointer (qd ⟨gr,or,qb⟩)] w (q6u g o gr or (u1/u2) (u1%u2) w):=by
 obtain⟨f,a⟩:=qcH h0 hlow;have t:ql (qa (u1%u2<0)=qe):=vv (k02 (by rw[<- a];exact hlow));obtain⟨B,m,d,C,D,i,q⟩:=hy.ex;have u:=vv fun fq hq=>copied (fq:=fq) (hq:=hq) B m d _ w i
 have j:=vv fun fq hq w' (hw:qi w.heap.size w w')=>QuoRem (fq:=fq) (hq:=hq) g o gx ox gy oy gr or v u1 u2 ur w' (h.below hw) (hx.below hw) (hy.below hw) (hr.below hw) hne h0 hn
 rw[f,a] at j;clear i q h hx hy hr hlow hn f a;rcases hq with rfl|rfl;go_enter func260,ntmps260;rotate_left;go_enter func326,ntmps326;rotate_left;all_goals
  go_wp2_with fail;refine(u.o _ (by decide)).mono ?_;rintro e E ⟨rfl,x,k⟩;have l:=vv k;clear k x;go_wp2_with fail;refine((j.o _ (by decide)) _ l.o).mono ?_;rintro e F ⟨rfl,hq,b,p⟩;have y:=vv p;have r:=vv hq;have s:=vv b;obtain⟨A,n,c,z,G,_,_⟩:=b.ex;rw[t.o] at z;clear p hq b;go_wp2;go_ret2;exact⟨rfl,r.o,s.o,(Fs.of_below [] l.o (fun _ hp=>by cases hp)).trans y.o⟩
theorem DivMod_low(g o gx ox gy oy gr or:Nat)(v u1 u2 ur:Int)(w:qf)(h:IntAt w g o v)(hx:IntAt w gx ox u1)(hy:IntAt w gy oy u2)(hr:IntAt w gr or ur)(hne:g≠gr)(h0:u2≠0)(hn:Sz u1.natAbs)
  (hlow:sg (qa (u1<0)) (u1.natAbs%u2.natAbs)<0) (hq:fq=260\/fq=326:=by decide) :
  qh qc fq #[.pointer (qd ⟨g,o,qb⟩),.pointer (qd ⟨gx,ox,qb⟩),.pointer (qd ⟨gy,oy,qb⟩),.pointer (qd ⟨gr,or,qb⟩)] w (q6u g o gr or (u1/u2) (u1%u2) w):=by
 obtain⟨E1,E2⟩:=qbe h0 hlow;have O:Sz (sg (qa (u1<0) != qa (u2<0)) (u1.natAbs/u2.natAbs)).natAbs:=by rw[q0Z];exact hn.mono (k0q _ _)
 have P:(sg (qa (u1<0)) (u1.natAbs%u2.natAbs)).natAbs=u1.natAbs%u2.natAbs:=q0Z _ _;have S:u1.natAbs%u2.natAbs<=u2.natAbs:=k1l (k0i _ (by omega));obtain⟨Q,hQ⟩:=yx (sg (qa (u1<0) != qa (u2<0)) (u1.natAbs/u2.natAbs));obtain⟨R,hR⟩:=yx (sg (qa (u1<0)) (u1.natAbs%u2.natAbs));obtain⟨B,m,d,k0,k1,L,a7⟩:=hy.ex;have a4:=L.len;have a0:=L.sm;have HC:=vv fun fq hq=>copied (fq:=fq) (hq:=hq) B m d _ w L
 have M:=vv fun fq hq w' (hw:qi w.heap.size w w')=>QuoRem (fq:=fq) (hq:=hq) g o gx ox gy oy gr or v u1 u2 ur w' (h.below hw) (hx.below hw) (hy.below hw) (hr.below hw) hne h0 hn
 rw[<- hQ] at E1 O M;rw[<- hR] at hlow P M;rw[<- P] at E2 S;have HD:ql (qa (R<0)=qk):=vv (k04 hlow);have J:=vv E1;have K:=vv E2;have N:=vv S;have a1:=vv a4;have a5:=vv a0;have a6:=vv O;clear L a7 h hx hy hr hlow hn O P hQ hR a4 a0 E1 E2 S;by_cases hu:u2<0
 ·rw[k04 hu] at k0;rw[k0p hu] at J;rcases hq with rfl|rfl;go_enter func260,ntmps260;rotate_left;go_enter func326,ntmps326;rotate_left;all_goals
   go_wp2_with fail;refine(HC.o _ (by decide)).mono ?_;rintro e w1 ⟨rfl,G,H⟩;have HO:=vv (G.rd a1.o.symm lr a5.o);have I:=vv H;clear H G;go_wp2_with fail;refine((M.o _ (by decide)) _ I.o).mono ?_;rintro e w2 ⟨rfl,hq,k,t⟩;have HF:=vv t;have T:=vv (HO.o.fs (fun a e=>by cases e;rfl) t);have l:=vv hq;have U:=vv k;obtain⟨A,n,c,m0,m1,i,p⟩:=k.ex;rw[HD.o] at m0;have a2:=hq.lt;have a3:=k.lt;clear t hq k i p;go_wp2_with fail;refine(NewInt 1 _ (by omega) (by omega)).mono ?_;rintro e w3 ⟨g1,rfl,a8,u,x⟩;have V:=vv u;have b:=vv x;clear u x;go_wp2_with fail;refine(Add g o g o g1 0 _ _ _ _ (l.o.below b.o) (l.o.below b.o) V.o a6.o (Sz.small (by decide))).mono ?_;rintro e w4 f;have q:=vv (f.fs (l.o.below b.o));obtain⟨rfl,y,_⟩:=f;have W:=vv y;have r:=vv ((U.o.below b.o).fs1 q.o hne);have z:=vv ((T.o.below b.o rfl).fs (fun a e=>by cases e;rfl) q.o);obtain⟨A4,n4,c4,p0,p1,i,p⟩:=r.o.ex;have C:=vv i;clear y i p;go_wp2_with fail;refine(subWords _ A4 m n4 m c4 _ _ _ z.o C.o (by rw[q04,q04];exact N.o) (C.o.le_of z.o N.o)).mono ?_;rintro e w5 ⟨A5,m5,c5,rfl,s,X,D⟩;rw[q04,q04] at s;have Y:=vv s;have j:=vv D;clear s D;go_wp2_with fail;refine(set_of gr or R (u1%u2) _ A5 m5 c5 _ _ (r.o.below j.o) Y.o (fun a e=>(X a e).2) (by rw[<- K.o];rfl) (q2U (by rw[<- K.o];omega))).mono ?_;rintro e w6 f;have E:=vv (f.fs (r.o.below j.o));obtain⟨rfl,F,_⟩:=f;have Z:=vv F;clear F;go_wp2;go_ret2;refine⟨rfl,?_,Z.o,?_⟩
   ·rw[<- J.o];exact(W.o.below j.o).fs1 E.o (Ne.symm hne)
   ·exact q85 ((Fs.of_nil I.o).trans (HF.o.trans ((Fs.of_nil b.o).trans (q.o.trans ((Fs.of_nil j.o).trans E.o)))))
 ·rw[k02 hu] at k0;rw[k0r hu] at J;rcases hq with rfl|rfl;go_enter func260,ntmps260;rotate_left;go_enter func326,ntmps326;rotate_left;all_goals
   go_wp2_with fail;refine(HC.o _ (by decide)).mono ?_;rintro e w1 ⟨rfl,G,H⟩;have HO:=vv (G.rd a1.o.symm lr a5.o);have I:=vv H;clear H G;go_wp2_with fail;refine((M.o _ (by decide)) _ I.o).mono ?_;rintro e w2 ⟨rfl,hq,k,t⟩;have HF:=vv t;have T:=vv (HO.o.fs (fun a e=>by cases e;rfl) t);have l:=vv hq;have U:=vv k;obtain⟨A,n,c,m0,m1,i,p⟩:=k.ex;rw[HD.o] at m0;have a2:=hq.lt;have a3:=k.lt;clear t hq k i p;go_wp2_with fail;refine(NewInt 1 _ (by omega) (by omega)).mono ?_;rintro e w3 ⟨g1,rfl,a8,u,x⟩;have V:=vv u;have b:=vv x;clear u x;go_wp2_with fail;refine(Sub g o g o g1 0 _ _ _ _ (l.o.below b.o) (l.o.below b.o) V.o a6.o (Sz.small (by decide))).mono ?_;rintro e w4 f;have q:=vv (f.fs (l.o.below b.o));obtain⟨rfl,y,_⟩:=f;have W:=vv y;have r:=vv ((U.o.below b.o).fs1 q.o hne);have z:=vv ((T.o.below b.o rfl).fs (fun a e=>by cases e;rfl) q.o);obtain⟨A4,n4,c4,p0,p1,i,p⟩:=r.o.ex;have C:=vv i;clear y i p;go_wp2_with fail;refine(subWords _ A4 m n4 m c4 _ _ _ z.o C.o (by rw[q04,q04];exact N.o) (C.o.le_of z.o N.o)).mono ?_;rintro e w5 ⟨A5,m5,c5,rfl,s,X,D⟩;rw[q04,q04] at s;have Y:=vv s;have j:=vv D;clear s D;go_wp2_with fail;refine(set_of gr or R (u1%u2) _ A5 m5 c5 _ _ (r.o.below j.o) Y.o (fun a e=>(X a e).2) (by rw[<- K.o];rfl) (q2U (by rw[<- K.o];omega))).mono ?_;rintro e w6 f;have E:=vv (f.fs (r.o.below j.o));obtain⟨rfl,F,_⟩:=f;have Z:=vv F;clear F;go_wp2;go_ret2;refine⟨rfl,?_,Z.o,?_⟩
   ·rw[<- J.o,<- qn];exact(W.o.below j.o).fs1 E.o (Ne.symm hne)
   ·exact q85 ((Fs.of_nil I.o).trans (HF.o.trans ((Fs.of_nil b.o).trans (q.o.trans ((Fs.of_nil j.o).trans E.o)))))
theorem DivMod(g o gx ox gy oy gr or:Nat)(v u1 u2 ur:Int)(w:qf)(h:IntAt w g o v)(hx:IntAt w gx ox u1)(hy:IntAt w gy oy u2)(hr:IntAt w gr or ur)(hne:g≠gr)(h0:u2≠0)(hn:Sz u1.natAbs)(hq:fq=260\/fq=326:=by decide):qh qc fq #[.pointer (qd ⟨g,o,qb⟩),.pointer (qd ⟨gx,ox,qb⟩),.pointer (qd ⟨gy,oy,qb⟩),.pointer (qd ⟨gr,or,qb⟩)] w (q6u g o gr or (u1/u2) (u1%u2) w):=by
 by_cases hlow:sg (qa (u1<0)) (u1.natAbs%u2.natAbs)<0
 ·exact DivMod_low (hq:=hq) g o gx ox gy oy gr or v u1 u2 ur w h hx hy hr hne h0 hn hlow
 ·exact DivMod_up (hq:=hq) g o gx ox gy oy gr or v u1 u2 ur w h hx hy hr hne h0 hn hlow
theorem Div(g o gx ox gy oy:Nat)(v u1 u2:Int)(w:qf)(h:IntAt w g o v)(hx:IntAt w gx ox u1)(hy:IntAt w gy oy u2)(h0:u2≠0)(hn:Sz u1.natAbs)(hq:fq=231\/fq=323:=by decide):qh qc fq #[.pointer (qd ⟨g,o,qb⟩),.pointer (qd ⟨gx,ox,qb⟩),.pointer (qd ⟨gy,oy,qb⟩)] w fun e w'=>e=.returned (.pointer (qd ⟨g,o,qb⟩))/\IntAt w' g o (u1/u2)/\Fs [(g,o,2)] w w':=by
 have n:=h.lt;have d:=vv h;have f:=vv hx;have i:=vv hy;have j:=vv h.head;clear h hx hy;rcases hq with rfl|rfl;go_enter func231,ntmps231;rotate_left;go_enter func323,ntmps323;rotate_left;all_goals
  go_wp2_with fail;have a:ql (∀t,qi w.heap.size w (w.alloc (.cells #[.bool qe,.slice qb 0 0] t))):=vv fun t=>(qg _ w).alloc lr _
  refine(DivMod g o gx ox gy oy _ 0 _ _ _ _ _ (d.o.below (a.o _)) (f.o.below (a.o _)) (i.o.below (a.o _)) (IntAt.zero w _) (by omega) h0 hn).mono ?_;rintro e q ⟨rfl,hq,k,b⟩;have l:=vv hq;have m:=vv b;clear hq k b;go_wp2;go_ret;exact⟨rfl,l.o,((Fs.of_nil (a.o _)).trans m.o).weak (fun p hp c=>by
   simp only[k25,k0R,k0X,k2c] at hp ⊢;rcases hp with rfl|rfl
   ·exact absurd c (k2A _)
   ·rfl) (fun p hp _=>by rw[k09.1 hp];exact j.o)⟩
theorem Exp(g o gx ox gy oy:Nat)(v:Int)(x y:Nat)(w:qf)(h:IntAt w g o v)(hx:IntAt w gx ox (x:Int))(hy:IntAt w gy oy (y:Int))(hx0:0<x)(hy0:0<y)(hs:Sz (x^y))(hsy:Sz y)(hq:fq=92\/fq=200:=by decide):qh qc fq #[.pointer (qd ⟨g,o,qb⟩),.pointer (qd ⟨gx,ox,qb⟩),.pointer (qd ⟨gy,oy,qb⟩),.pointer qb] w (q75 g o ((x^y:Nat):Int) w):=by
 have U:=vv h;have HX:=vv hx;have HY:=vv hy;have b6:=hy.lt;have E:ql (∀q,q<=y->Sz (x^q)):=vv fun q hq=>hs.mono (k00 hx0 hq)
 have a3:ql ((y:Int).sign=1):=vv (k0M (by omega));have a4:=vv hsy;have a5:=vv hy0;have s:ql (∀(w:qf) t,qi w.heap.size w (w.alloc (.cells #[.bool qe,.slice qb 0 0] t))):=vv fun w t=>(qg _ w).alloc lr _
 have HZ:=vv fun t=>IntAt.zero w t
 clear h hx hy hs hsy hx0 hy0;rcases hq with rfl|rfl;go_enter func92,ntmps92;rotate_left;go_enter func200,ntmps200;rotate_left;all_goals
  go_wp2_with fail;refine(NewInt 1 _ (by omega) (by omega)).mono ?_;rintro e r ⟨k,rfl,P,H,I⟩;have a6:=vv H;have J:=vv ((s.o w _).trans (I.mono (Below.size (s.o w _))));have a7:=vv ((HZ.o _).below I);have b7:=H.lt;have b8:w.heap.size<k:=by simp at P;omega
  have a0:=J.o.size;clear H I P;go_wp2_with fail;have K:=vv fun t=>J.o.trans ((s.o r t).mono J.o.size)
  have Q:=vv fun t=>IntAt.zero r t
  refine(Set _ 0 gx ox 0 _ _ (Q.o _) (HX.o.below (K.o _))).mono ?_;rintro e V c;have c:=c.f (Q.o _);have L:=vv (c.below (K.o _) ((K.o _).size) a0);have a8:=vv ((a6.o.below (s.o r _)).fs1 c.2.2 (by omega));have a9:=vv ((a7.o.below (s.o r _)).fs1 c.2.2 (by omega));have b0:=vv c.2.1;obtain⟨rfl,-,-⟩:=c;have M:=vv (HY.o.below L.o);go_wp2_with fail;refine(Sign gy oy _ _ M.o).mono ?_;rintro e W ⟨rfl,rfl⟩;rw[a3.o];obtain⟨B,m,d,k0,k1,F,G⟩:=M.o.ex;have O:=vv F;have X:=F.words;have HM:=vv X;have c0:=F.sz a4.o;have a2:=M.o.lt;clear F G k0 X;go_wp2_with fail;refine(copied _ _ _ _ _ O.o).mono ?_;rintro e W ⟨rfl,Y,u⟩;have b1:ql (ExpInv w w.heap.size k r.heap.size (qd ⟨V.heap.size,0,qb⟩) m x y 0 W):=vv
   ⟨a9.o.below u,by simpa using a8.o.below u,b0.o.below u,Y.rd O.o.len.symm lr O.o.sm,fun a e=>by cases e;rfl,L.o.trans (u.mono L.o.size)⟩
  clear Y u;go_wp2;go_loopw [13] (fun i wr=>∃(z:Int) (j:Nat),i=.int .i64 z/\z+1=j/\j<=32*m/\ExpInv w w.heap.size k r.heap.size (qd ⟨V.heap.size,0,qb⟩) m x y (y/2^j) wr) (fun i _=>(intOf i+1).toNat)
  case atStart =>refine⟨_,32*m,rfl,by omega,lr,?_⟩;have R:=q0p y;have b2:words y=m:=HM.o;rw[b2,q1u] at R;rw[k0K R];exact b1.o
  case round =>
   obtain⟨z,j,rfl,G,hj,Z⟩:=hrel;have l:=vv Z;clear Z;rcases k01 j with rfl|b9
   ·obtain rfl:z = -1:=by omega
    clear G;go_wp2_with fail;have S:=l.o.o;rw[k0B,k1b] at S;refine(Set g o k 0 _ _ _ (U.o.below l.o.bel) S).mono ?_;rintro e w5 c;have hF:=vv ((c.f (U.o.below l.o.bel)).after l.o.bel);obtain⟨rfl,b3,-⟩:=c;go_wp2;go_ret;exact⟨rfl,b3,hF.o⟩
   ·obtain⟨i,rfl⟩:∃i,j=i+1:=⟨j-1,by omega⟩;obtain rfl:z=(i:Int):=by omega
    clear G;have i1:(0:Int)<=(i:Int):=by omega
    have i2:(i:Int)<32*(m:Int):=by omega
    go_wp2_with fail;refine(Mul k 0 k 0 k 0 _ _ _ _ l.o.o l.o.o l.o.o (by simpa using E.o _ (k0q _ _)) (by simpa using E.o _ (k0q _ _))).mono ?_;rintro e w4 c;have n:=vv (l.o.step c (q':=2*(y/2^(i+1))) (by rw[<- k0f,<- k0e];congr 2;omega) (by omega) (by omega) (by omega));obtain⟨rfl,-,-⟩:=c;obtain⟨b,off,b4,c1,hc⟩:=n.o.words.cell (by omega);cases b4;have T:=hc (i/32) (by omega);rw[k10] at T;clear hc;have C:=q41 (nth (toL y) (i/32)) (i%32) (n.o.words.nth_lt _);rw[q4l] at C;have HQ:=vv (q4U y i);by_cases hb:y/2^i%2=1
    ·rw[k04 hb] at C;have D:ql (y/2^i=2*(y/2^(i+1))+1):=vv (by have:=HQ.o;omega);clear hb;go_wp2_with fail;refine(Mul k 0 k 0 r.heap.size 0 _ _ _ _ n.o.o n.o.o n.o.base (by simpa using E.o _ (by have:=k0q y (2^i);have:=D.o;omega)) (by simpa using E.o 1 a5.o)).mono ?_;rintro e w5 c;have p:=vv (n.o.step c (q':=y/2^i) (by rw[D.o,k0e x _ 1,k1A,k0f]) (by omega) (by omega) (by omega));obtain⟨rfl,-,-⟩:=c;obtain⟨A5,c5,b5⟩:=p.o.by_.nil;have a1:=p.o.by_.lt;clear T C;go_wp2;go_roundw
     case rel=>exact⟨_,i,rfl,by omega,by omega,p.o⟩
     case measure=>simp [intOf]
    ·rw[k02 hb] at C;have D:ql (y/2^i=2*(y/2^(i+1))):=vv (by have:=HQ.o;omega);clear hb;have N:=n.o;rw[<- D.o] at N;have p:=vv N;obtain⟨A5,c5,b5⟩:=p.o.by_.nil;have a1:=p.o.by_.lt;clear N;go_wp2;go_roundw
     case rel=>exact⟨_,i,rfl,by omega,by omega,p.o⟩
     case measure=>simp [intOf]
def q8H(d:Nat)(w:qf)(e:Ending)(w':qf):Prop:=∃A n c,e=.returned (.slice A n c)/\Rd w' A n c (toL d)/\(∀a,A=qd a->a.off=0)/\qi w.heap.size w w'
theorem below(g:Nat)(p:Int)(d:Nat)(w:qf)(h:RatAt w g p d)(hq:fq=279\/fq=168:=by decide):qh qc fq #[.pointer (qd ⟨g,0,qb⟩)] w (q8H (ld p d) w):=by
 have m:=h.lt;have i:=q1q (p:=p) h.pos;obtain⟨A,n,c,e,⟨b,j⟩⟩:=h.den;clear h;rcases b with ⟨rfl,b⟩|⟨r,f⟩
 ·rw[b];clear b i;rcases hq with rfl|rfl;go_enter func279,ntmps279;rotate_left;go_enter func168,ntmps168;rotate_left;all_goals
   go_wp2;go_ret;have k:Own (w.alloc (.cells #[.int .u32 1] 54)) w.heap.size 54 [1]:=Own.lit _ (q0y.2 ⟨by omega,q0L⟩) (by simp [q0k]);exact⟨_,1,1,rfl,k.rd rfl lr (by omega),fun a e=>by cases e;rfl,(qg _ _).alloc lr _⟩
 ·have q:=f.sm;have s:((n:Int)==0)=qe:=by simp;omega
  have l:=vv f;clear f i;rcases hq with rfl|rfl;go_enter func279,ntmps279;rotate_left;go_enter func168,ntmps168;rotate_left;all_goals
   go_wp2;go_ret;exact⟨_,n,c,rfl,l.o,j,qg _ _⟩
theorem SetInt(g gx:Nat)(u:Int)(w:qf)(h:RatSh w g)(hx:IntAt w gx 0 u)(hq:fq=228\/fq=41:=by decide):qh qc fq #[.pointer (qd ⟨g,0,qb⟩),.pointer (qd ⟨gx,0,qb⟩)] w (q2I g u 1 w):=by
 have i:=vv h;obtain⟨v,b⟩:=h.int;have j:=vv b;have n:=b.lt;have k:=vv fun fq hq=>Set (fq:=fq) (hq:=hq) g 0 gx 0 v u w b hx
 clear b h hx;rcases hq with rfl|rfl;go_enter func228,ntmps228;rotate_left;go_enter func41,ntmps41;rotate_left;all_goals
  go_wp2_with fail;refine(k.o _ (by decide)).mono ?_;rintro e r a;have a:=a.f j.o;have l:=i.o.num a;obtain⟨hi,x,hx⟩:=l;have p:=hi.lt;have q:=hi.fz 2;have m:=vv a.2.2;have c:=vv hi;obtain⟨rfl,-,-⟩:=a;have d:=vv hx;clear hi;go_wp2;go_ret;refine⟨rfl,RatAt.made c.o ⟨x,d.o⟩ (q1I.nil _) (by omega) (by omega) (k2z _) rfl,fs3 ?_⟩;exact m.o.trans (Fs.set2 c.o _)
theorem Num(g:Nat)(p:Int)(d:Nat)(w:qf)(h:RatAt w g p d)(hq:fq=211\/fq=102:=by decide):qh qc fq #[.pointer (qd ⟨g,0,qb⟩)] w (q0W (lp p d) w):=by
 have i:=h.lt;have a:ql (∀t,qi w.heap.size w (w.alloc (.cells #[.bool qe,.slice qb 0 0] t))):=vv fun t=>(qg _ w).alloc lr _
 have b:=vv h.num;clear h;rcases hq with rfl|rfl;go_enter func211,ntmps211;rotate_left;go_enter func102,ntmps102;rotate_left;all_goals
  go_wp2_with fail;refine(Set _ 0 g 0 0 _ _ (IntAt.zero w _) (b.o.below (a.o _))).mono ?_;rintro e j ⟨rfl,c,f⟩;go_wp2;go_ret;exact⟨_,rfl,lr,c,f.below (a.o _) (by simp) lr⟩
theorem Denom(g:Nat)(p:Int)(d:Nat)(w:qf)(h:RatAt w g p d)(hq:fq=203\/fq=103:=by decide):qh qc fq #[.pointer (qd ⟨g,0,qb⟩)] w (q0W (ld p d:Nat) w):=by
 have z:=h.lt;have i:ql (∀t,qi w.heap.size w (w.alloc (.cells #[.bool qe,.slice qb 0 0] t))):=vv fun t=>(qg _ w).alloc lr _
 have s:=vv h;clear h;rcases hq with rfl|rfl;go_enter func203,ntmps203;rotate_left;go_enter func103,ntmps103;rotate_left;all_goals
  go_wp2_with fail;refine(below g p d _ (s.o.below (i.o _))).mono ?_;rintro e C ⟨A,n,c,rfl,l,D,b⟩;have u:=vv ((IntAt.zero w _).below b);have j:=vv l;have q:=vv ((i.o _).trans (b.mono (i.o _).size));clear l b;go_wp2_with fail;refine(copied _ _ _ _ _ j.o).mono ?_;rintro e E ⟨rfl,m,f⟩;have v:=vv m;have r:=vv (u.o.below f);have k:=vn q f;clear m f;go_wp2_with fail;refine(set_of _ 0 0 (ld p d:Nat) _ _ n n (ld p d) _ r.o (v.o.rd j.o.len.symm lr j.o.sm) (fun a e=>by cases e;rfl) rfl (q2U (by omega))).mono ?_;rintro e F ⟨rfl,x,y⟩;go_wp2;go_ret;exact⟨_,rfl,lr,x,y.below k.o k.o.size lr⟩
theorem RSign(g:Nat)(p:Int)(d:Nat)(w:qf)(h:RatAt w g p d)(hq:fq=212\/fq=79:=by decide):qh qc fq #[.pointer (qd ⟨g,0,qb⟩)] w fun e w'=>e=.returned (.int .i64 p.sign)/\w=w':=by
 have c:=h.lt;have a:=vv fun fq hq=>Sign (fq:=fq) (hq:=hq) g 0 _ w h.num
 have b:=vv (qaW (p:=p) h.pos);clear h;rcases hq with rfl|rfl;go_enter func212,ntmps212;rotate_left;go_enter func79,ntmps79;rotate_left;all_goals
  go_wp2_with fail;refine(a.o _ (by decide)).mono ?_;rintro e f ⟨rfl,rfl⟩;rw[b.o];go_wp2;go_ret;exact⟨rfl,rfl⟩
theorem Rset_zero(g:Nat)(b:Bool)(A B:Option qm)(n c m d:Nat)(xs ys:List Nat)(w:qf)(h:RatSh w g)(ha:Rd w A n c xs)(hb:Rd w B m d ys)(hD:0<val ys)(h0:val xs=0)(hq:fq=214\/fq=155:=by decide):qh qc fq #[.pointer (qd ⟨g,0,qb⟩),.bool b,.slice A n c,.slice B m d] w (q2I g (sg b (val xs)) (val ys) w):=by
 have s:=vv h;obtain⟨v,k⟩:=h.int;have l:=vv k;have D:=k.lt;have t:=vv fun fq hq=>trim (fq:=fq) (hq:=hq) A n c xs w ha
 have u:=vv fun fq hq=>trim (fq:=fq) (hq:=hq) B m d ys w hb
 have y:=vv hD;have p:=vv h0;clear k h ha hb hD h0;rcases hq with rfl|rfl;go_enter func214,ntmps214;rotate_left;go_enter func155,ntmps155;rotate_left;all_goals
  go_wp2_with fail;refine(t.o _ (by decide)).mono ?_;rintro e z ⟨n1,rfl,rfl,j⟩;obtain rfl:n1=0:=by rw[<- j.words];exact q06.2 p.o
  clear j;go_wp2_with fail;refine(u.o _ (by decide)).mono ?_;rintro e z ⟨G,rfl,rfl,j⟩;clear j;go_wp2_with fail;refine(set_of g 0 v 0 _ qb 0 0 0 _ l.o (Rd.nil _) (fun a e=>by cases e) rfl rfl).mono ?_;rintro e H i;have i:=i.f l.o;obtain⟨hi,x,hx⟩:=s.o.num i;have E:=hi.lt;have F:=hi.fz 2;have C:=vv i.2.2;have q:=vv hi;obtain⟨rfl,-,-⟩:=i;have r:=vv hx;clear hi;go_wp2;go_ret;refine⟨rfl,RatAt.made q.o ⟨x,r.o⟩ (q1I.nil _) y.o (by omega) (k2z _) ?_,fs3 ?_⟩
  ·rw[p.o];cases b<;>simp [sg]
  ·exact C.o.trans (Fs.set2 q.o _)
theorem Rset_pos(g:Nat)(b:Bool)(A B:Option qm)(n c m d:Nat)(xs ys:List Nat)(w:qf)(h:RatSh w g)(ha:Rd w A n c xs)(hb:Rd w B m d ys)(hD:0<val ys)(h0:0<val xs)(hza:∀a,A=qd a->a.off=0)(hzb:∀a,B=qd a->a.off=0)
  (hst:Std w) (hn:n<549755813888) (hm:m<549755813888) (hq:fq=214\/fq=155:=by decide) :
  qh qc fq #[.pointer (qd ⟨g,0,qb⟩),.bool b,.slice A n c,.slice B m d] w (q2I g (sg b (val xs)) (val ys) w):=by
 have HH:=vv h;obtain⟨v,y⟩:=h.int;have P:=vv y;have b8:=y.lt;have HA:=vv fun fq hq=>trim (fq:=fq) (hq:=hq) A n c xs w ha
 have HB:=vv fun fq hq=>trim (fq:=fq) (hq:=hq) B m d ys w hb
 have HD:=vv hD;have H0:=vv h0;have V:=vv hst;have W:=vv ha.lim;have X:=vv hb.lim;have Y:=vv ha.len;have Z:=vv hb.len;have z:=vv (q0F (n:=val xs) hD);have D:=vv (qc5 (b:=b) (N:=val xs) hD);have E:ql (0<val ys/Nat.gcd (val xs) (val ys)):=vv (k2d (k2l hD (k17 _ _)) z.o);clear y h ha hb hD h0 hst;rcases hq with rfl|rfl;go_enter func214,ntmps214;rotate_left;go_enter func155,ntmps155;rotate_left;all_goals
  go_wp2_with fail;refine(HA.o _ (by decide)).mono ?_;rintro e w' ⟨n1,rfl,rfl,i⟩;have b9:n1<=n:=i.trim_le W.o (by rw[Y.o];exact lr);have c0:0<n1:=by
   rcases k01 n1 with e|e
   ·have:=i.words;rw[e] at this;have:=q06.1 this;have:=H0.o;omega
   ·exact e
  have c3:=i.sm;have Q:=vv i;clear i;go_wp2_with fail;refine(HB.o _ (by decide)).mono ?_;rintro e w' ⟨C,rfl,rfl,i⟩;have c5:C<=m:=i.trim_le X.o (by rw[Z.o];exact lr);have F:=vv i;clear i;have c6:((n1:Int)==0)=qe:=by simp;omega
  go_wp2_with fail;refine(common A B n1 C c d _ _ _ Q.o F.o V.o (by omega) (by omega)).mono ?_;rintro e w1 ⟨R,S,c1,rfl,T,a3,u⟩;have G:=vv T;have H:=vv u;have a4:=vv (Q.o.below u rfl);have a1:=vv (F.o.below u rfl);clear T;go_wp2_with fail;refine q02 (fun _=>True) 7
   (.still 0 (.still 1 (.still 2 (.still 3 (.still 4 (.still 5 (.one 6 .done))))))) trivial (fun a5=>?_)
  clear a5
  iterate 6
   refine q03 ?_
  refine q01 rfl (by rfl) (fun K hK=>?_);go_simp;refine(by_ A R n1 S c c1 _ _ _ a4.o.drew G.o.drew z.o (by omega)).mono ?_;rintro e w2 ⟨U,k2,c2,rfl,l,I,q⟩;have r:ql (qi w.heap.size w w2):=vv ((q05 H.o).trans (q.mono (by simpa using H.o.size)));have J:∀a,U=qd a->a.off=0:=fun a e=>by
   rcases I with j|j
   ·exact(j a e).2
   ·exact hza a (j ▸ e)
  have HQ:=vv l;have a6:=vv J;have a7:=vv (G.o.drew.below q rfl);have a0:=vv (a1.o.drew.below q rfl);clear l J I q;go_wp2_with fail;refine hK.out _ _ trivial (fun a2=>?_);clear hK;refine q08 ?_;go_wp2_with fail;refine(set_of g 0 v (sg b (val xs/Nat.gcd (val xs) (val ys))) _ U k2 c2 _ _ (P.o.below r.o) HQ.o a6.o (q0Z _ _) (q26 _ _)).mono ?_;rintro e w3 k;have k:=k.f (P.o.below r.o);have a8:=vv k.2.2;have a9:=vv ((HH.o.below r.o).num k);have b0:=vv (a7.o.fs (fun a e=>(a3 a e).2) k.2.2);have b1:=vv (a0.o.fs hzb k.2.2);obtain⟨rfl,-,-⟩:=k;go_wp2_with fail;refine(by_ B R C S d c1 _ _ _ b1.o b0.o z.o (by omega)).mono ?_;rintro e w4 ⟨A4,k4,c4,rfl,l,L,s⟩;have M:∀a,A4=qd a->a.off=0:=fun a e=>by
   rcases L with j|j
   ·exact(j a e).2
   ·exact hzb a (j ▸ e)
  have b2:=vv l;have b3:=vv M;obtain⟨hi,x,hx⟩:=a9.o;have t:=hi.below s;have b4:=(s.cell (p:=⟨g,2,qb⟩) hi.lt).trans hx;have b7:=t.lt;have c7:=t.fz 2;have O:=vv t;have b5:=vv b4;have b6:ql (Fs [(g,0,2)] w w4):=vv (((a8.o.after r.o).trans (Fs.of_nil s)).drop (fun p hp _=>by simpa using hp) (fun p hp=>by simpa using hp));clear l M L s hi t hx;go_wp2;go_ret;refine⟨rfl,RatAt.made O.o ⟨x,b5.o⟩ (b2.o.den E.o b3.o) HD.o E.o D.o.1 D.o.2,fs3 ?_⟩;exact b6.o.trans (Fs.set2 O.o _)
theorem Rset(g:Nat)(b:Bool)(A B:Option qm)(n c m d:Nat)(xs ys:List Nat)(w:qf)(h:RatSh w g)(ha:Rd w A n c xs)(hb:Rd w B m d ys)(hD:0<val ys)(hza:∀a,A=qd a->a.off=0)(hzb:∀a,B=qd a->a.off=0)
  (hst:Std w) (hn:n<549755813888) (hm:m<549755813888) (hq:fq=214\/fq=155:=by decide) :
  qh qc fq #[.pointer (qd ⟨g,0,qb⟩),.bool b,.slice A n c,.slice B m d] w (q2I g (sg b (val xs)) (val ys) w):=by
 rcases k01 (val xs) with e|e
 ·exact Rset_zero (hq:=hq) g b A B n c m d xs ys w h ha hb hD e
 ·exact Rset_pos (hq:=hq) g b A B n c m d xs ys w h ha hb hD e hza hzb hst hn hm
theorem SetFrac(g gx gy:Nat)(u:Int)(D:Nat)(w:qf)(h:RatSh w g)(hx:IntAt w gx 0 u)(hy:IntAt w gy 0 (D:Int))(hD:0<D)(hst:Std w)(hn:Sz u.natAbs)(hm:Sz D)(hq:fq=122\/fq=78:=by decide):qh qc fq #[.pointer (qd ⟨g,0,qb⟩),.pointer (qd ⟨gx,0,qb⟩),.pointer (qd ⟨gy,0,qb⟩)] w (q2I g u D w):=by
 have r:=hx.lt;have s:=hy.lt;obtain⟨A,n,c,E,F,G,Z⟩:=hx.ex;obtain⟨B,m,d,x,H,O,hy⟩:=hy.ex;rw[k02 (by omega)] at x;have z:Rd w B m d (toL D):=O;have I:=vv G;have J:=vv z;have HH:=vv h;have Q:=vv hst;have HD:=vv hD;have HN:=vv (G.sz hn);have HM:=vv (z.sz hm);clear G Z O z hy h hx hn hm hst hD;have fin:∀fq,(fq=214\/fq=155)->∀i b k l,qi w.heap.size w i->qi i.heap.size i b->Rd b k n n (toL u.natAbs)->Rd b l m m (toL D)->(∀a,k=qd a->a.off=0)->(∀a,l=qd a->a.off=0)->qh qc fq #[.pointer (qd ⟨g,0,qb⟩),.bool (qa (u<0)),.slice k n n,.slice l m m] b (q2I g u D w):=by intro fq hq;intro i b k l M R ha hb S T;have C:=M.trans (R.mono M.size);refine(Rset (hq:=hq) g _ k l n n m m _ _ b (HH.o.below C) ha hb (by rw[q04];exact HD.o) S T (Q.o.fs (Fs.of_nil C)) (by have:=HN.o;omega) (by have:=HM.o;omega)).mono ?_;rintro e q ⟨he,y,L⟩;rw[q04,q04,q6F] at y;exact⟨he,y,L.after C⟩
 have U:=vv fin;clear fin;rcases hq with rfl|rfl;go_enter func122,ntmps122;rotate_left;go_enter func78,ntmps78;rotate_left;all_goals
  go_wp2_with fail;refine q02 (fun q=>q.cell? ⟨gx,0,qb⟩=qd (.bool (qa (u<0)))/\q.cell? ⟨gx,1,qb⟩=qd (.slice A n c)/\q.cell? ⟨gy,0,qb⟩=qd (.bool qe)/\q.cell? ⟨gy,1,qb⟩=qd (.slice B m d)) 20
   (.still 0 (.still 1 (.still 2 (.still 3 (.still 4 (.still 5 (.still 6 (.still 7 (.still 8 (.still 9 (.still 10 (.still 11 (.still 12 (.still 13 (.still 15 (.still 16 (.still 17 (.still 18 (.one 14 (.one 19 .done)))))))))))))))))))) ⟨E,F,x,H⟩ (fun a0=>?_)
  iterate 18
   refine q03 ?_
  refine q01 rfl (by rfl) (fun K hK=>?_);go_simp;refine(copied _ _ _ _ _ I.o.drew).mono ?_;rintro e i ⟨rfl,P,j⟩;have HO:=vv (P.rd I.o.len.symm lr I.o.sm);have f:ql (qi w.heap.size w i):=vv ⟨j.os,j.tape,j.output,j.size,j.block⟩;clear P j;go_wp2_with fail;refine hK.out _ _ ⟨(f.o.cell (p:=⟨gx,0,qb⟩) r).trans E,(f.o.cell (p:=⟨gx,1,qb⟩) r).trans F,(f.o.cell (p:=⟨gy,0,qb⟩) s).trans x,(f.o.cell (p:=⟨gy,1,qb⟩) s).trans H⟩ (fun V=>?_);clear hK;refine q01 rfl (by rfl) (fun K hK=>?_);go_simp;refine(copied _ _ _ _ _ (J.o.below f.o rfl)).mono ?_;rintro e b ⟨rfl,N,t⟩;have W:=vv (N.rd J.o.len.symm lr J.o.sm);have X:=vv (HO.o.below t rfl);have Y:=vv t;have v:=vn f t;clear N t;go_wp2_with fail;refine hK.out _ _ ⟨(v.o.cell (p:=⟨gx,0,qb⟩) r).trans E,(v.o.cell (p:=⟨gx,1,qb⟩) r).trans F,(v.o.cell (p:=⟨gy,0,qb⟩) s).trans x,(v.o.cell (p:=⟨gy,1,qb⟩) s).trans H⟩ (fun V=>?_);clear hK;refine q08 ?_;go_wp2_with fail;refine((U.o _ (by decide)) i b _ _ f.o Y.o X.o W.o (fun a e=>by cases e;rfl) (fun a e=>by cases e;rfl)).mono ?_;rintro e w3 ⟨rfl,y,L⟩;have HR:=vv y;go_wp2;go_ret;exact⟨rfl,HR.o,L⟩
theorem SetInt64R(g:Nat)(x:Int)(w:qf)(h:RatSh w g)(h1:-9223372036854775808<=x)(h2:x<=9223372036854775807)(hq:fq=220\/fq=275:=by decide):qh qc fq #[.pointer (qd ⟨g,0,qb⟩),.int .i64 x] w (q2I g x 1 w):=by
 have d:=vv h;have f:=vv fun fq hq w=>NewInt (fq:=fq) (hq:=hq) x w h1 h2
 clear h h1 h2;rcases hq with rfl|rfl;go_enter func220,ntmps220;rotate_left;go_enter func275,ntmps275;rotate_left;all_goals
  go_wp2_with fail;refine((f.o _ (by decide)) _).mono ?_;rintro e p ⟨i,rfl,n,a,b⟩;have j:=vv a;have c:=vv b;clear a b;go_wp2_with fail;refine(SetInt g i x _ (d.o.below c.o) j.o).mono ?_;rintro e q ⟨rfl,k,l⟩;have m:=vv k;go_wp2;go_ret;exact⟨rfl,m.o,l.after c.o⟩
theorem Inv(g gx:Nat)(N d:Nat)(w:qf)(h:RatSh w g)(hx:RatAt w gx (N:Int) d)(hN:0<N)(hq:fq=229\/fq=170:=by decide):qh qc fq #[.pointer (qd ⟨g,0,qb⟩),.pointer (qd ⟨gx,0,qb⟩)] w (q2I g (d:Int) N w):=by
 have Q:=vv h;have k:=vv (q4p hN hx.pos);have R:=vv hN;have H:=q2D (p:=(N:Int)) hx.pos;have t:=hx.lt;obtain⟨v,q⟩:=h.int;have W:=q.lt;have C:=vv q;obtain⟨A,n,c,S,c1,D,hz⟩:=hx.num.ex;rw[k02 (by omega)] at S;have r:=vv D;have I:=vv fun fq hq=>below (fq:=fq) (hq:=hq) gx _ _ w hx
 clear h hx q D H hN;rcases hq with rfl|rfl;go_enter func229,ntmps229;rotate_left;go_enter func170,ntmps170;rotate_left;all_goals
  go_wp2_with fail;refine(I.o _ (by decide)).mono ?_;rintro e w1 ⟨B,m,d1,rfl,E,X,u⟩;have s:=vv E;have J:=vv u;clear E u;go_wp2_with fail;refine(copied _ _ _ _ _ s.o).mono ?_;rintro e T ⟨rfl,F,y⟩;have U:=vv (F.rd s.o.len.symm lr s.o.sm);have i:=vn J y;have Y:=(i.o.cell (p:=⟨gx,1,qb⟩) t).trans c1;have Z:gx<T.heap.size:=k03 t i.o.size;clear F y;go_wp2_with fail;refine(copied _ _ _ _ _ (r.o.below i.o rfl)).mono ?_;rintro e w3 ⟨rfl,z,l⟩;have K:=vv ((z.rd r.o.len.symm lr r.o.sm).den k.o.2.2 (fun a e=>by cases e;rfl));have L:=vv (U.o.below l rfl);have j:=vn i l;clear z l;go_wp2_with fail;refine(set_of g 0 v (ld N d:Nat) _ _ m m (ld N d) _ (C.o.below j.o) L.o (fun a e=>by cases e;rfl) rfl (q2U (by omega))).mono ?_;rintro e w4 b;have b:=b.f (C.o.below j.o);have M:=vv ((Q.o.below j.o).num b);have V:=vv (b.2.2.after j.o);have O:=vv (K.o.fs b.2.2);obtain⟨rfl,-,-⟩:=b;obtain⟨hi,x,hx⟩:=M.o;have a0:=hi.lt;have a1:=hi.fz 2;have G:=vv hi;have P:=vv hx;clear hi;go_wp2;go_ret;exact⟨rfl,RatAt.made G.o ⟨x,P.o⟩ O.o R.o k.o.2.2 k.o.1 k.o.2.1,fs3 (V.o.trans (Fs.set2 G.o _))⟩
theorem times_zero(g:Nat)(s:Bool)(A D B C:Option qm)(na ca nd cd nb cb nc cc a d b c:Nat)(w:qf)(h:RatSh w g)(ha:Rd w A na ca (toL a))(hb:Rd w B nb cb (toL b))(hd0:0<d)(hc0:0<c)
  (h0:a=0\/0<a/\b=0) (hst:Std w) (hq:fq=298\/fq=167:=by decide) :
  qh qc fq #[.pointer (qd ⟨g,0,qb⟩),.bool s,.slice A na ca,.slice D nd cd,.slice B nb cb,.slice C nc cc] w (q2I g (sg s (a*b)) (d*c) w):=by
 have j:=ha.words;have k:=hb.words;have y:=ha.sm;have z:=hb.sm;have r:ql (sg s (a*b)=0):=vv (by have:a*b=0:=(by rcases h0 with h|h<;>simp [h]);rw[this];cases s<;>rfl);have t:=vv (k0N hd0 hc0);have p:∀fq,(fq=214\/fq=155)->qh qc fq #[.pointer (qd ⟨g,0,qb⟩),.bool qe,.slice qb 0 0,.slice (qd ⟨w.heap.size,0,qb⟩) 1 1] (w.alloc (.cells #[.int .u32 1] 54)) (q2I g (sg s (a*b)) (d*c) w):=by intro fq hq;have l:qi w.heap.size w (w.alloc (.cells #[.int .u32 1] 54)):=(qg _ _).alloc lr _;have u:Own (w.alloc (.cells #[.int .u32 1] 54)) w.heap.size 54 [1]:=Own.lit _ (q0y.2 ⟨by omega,q0L⟩) (by simp [q0k]);refine(Rset (hq:=hq) g qe qb (qd ⟨w.heap.size,0,qb⟩) 0 0 1 1 [] [1] _ (h.below l) (Rd.nil _) (u.rd rfl lr (by omega)) (by decide) (fun a e=>by cases e) (fun a e=>by cases e;rfl) (hst.fs (Fs.of_nil l)) (by omega) (by omega)).mono ?_;rintro e E ⟨v,f,i⟩;refine⟨v,?_,i.after l⟩;rw[r.o];exact f.cross t.o (by simp [sg,val])
 have q:=vv p;clear p;clear ha hb hd0 hc0 hst h;rcases h0 with rfl|⟨ha,rfl⟩
 ·obtain rfl:na=0:=j.symm;clear j k;rcases hq with rfl|rfl;go_enter func298,ntmps298;rotate_left;go_enter func167,ntmps167;rotate_left;all_goals
   go_wp2_with fail;refine(q.o _ (by decide)).mono ?_;rintro e x ⟨rfl,f,i⟩;have m:=vv f;go_wp2;go_ret;exact⟨rfl,m.o,i⟩
 ·obtain rfl:nb=0:=k.symm;have F:((na:Int)==0)=qe:=by have:=q06 (n:=a);simp;omega
  clear j k ha;rcases hq with rfl|rfl;go_enter func298,ntmps298;rotate_left;go_enter func167,ntmps167;rotate_left;all_goals
   go_wp2_with fail;refine(q.o _ (by decide)).mono ?_;rintro e x ⟨rfl,f,i⟩;have m:=vv f;go_wp2;go_ret;exact⟨rfl,m.o,i⟩
theorem times_pos(g:Nat)(s:Bool)(A D B C:Option qm)(na ca nd cd nb cb nc cc a d b c:Nat)(w:qf)(h:RatSh w g)(ha:Rd w A na ca (toL a))(hd:Rd w D nd cd (toL d))(hb:Rd w B nb cb (toL b))(hc:Rd w C nc cc (toL c))(hd0:0<d)(hc0:0<c)
  (had:Nat.gcd a d=1) (hbc:Nat.gcd b c=1) (ha0:0<a) (hb0:0<b) (hst:Std w) (sa:Sz a) (sd:Sz d) (sb:Sz b) (sc:Sz c) (hq:fq=298\/fq=167:=by decide) :
  qh qc fq #[.pointer (qd ⟨g,0,qb⟩),.bool s,.slice A na ca,.slice D nd cd,.slice B nb cb,.slice C nc cc] w (q2I g (sg s (a*b)) (d*c) w):=by
 have a6:=ha.words;have a7:=hb.words;have b4:=ha.sz sa;have b5:=hb.sz sb;have b6:=hc.sz sc;have b7:=hd.sz sd;have t0:((na:Int)==0)=qe:=by have:=q06 (n:=a);simp;omega
 have t1:((nb:Int)==0)=qe:=by have:=q06 (n:=b);simp;omega
 have S:=vv (qaQ hd0 hc0 had hbc ha0 hb0);have N:=vv (q0F (n:=a) hc0);have F:=vv (q0F (n:=b) hd0);have HM:=vv (k0N hd0 hc0);have T:ql (0<d/Nat.gcd b d*(c/Nat.gcd a c)):=vv (k0N (k2d (k2l hd0 (k17 _ _)) F.o) (k2d (k2l hc0 (k17 _ _)) N.o));have U:=vv hst;have HH:=vv h;obtain⟨v,hv⟩:=h.int;have HV:=vv hv;have O:=vv ha;have P:=vv hb;have Q:=vv hc;have R:=vv hd;clear h ha hb hc hd hd0 hc0 had hbc ha0 hb0 hst hv a6 a7 sa sb sc sd;rcases hq with rfl|rfl;go_enter func298,ntmps298;rotate_left;go_enter func167,ntmps167;rotate_left;all_goals
  go_wp2_with fail;refine(common A C na nc ca cc a c w O.o Q.o U.o (by omega) (by omega)).mono ?_;rintro e w1 ⟨G1,g1,k1,rfl,V,b8,W⟩;have p:=vv W;have i:=vv V;clear V W;go_wp2_with fail;refine(common B D nb nd cb cd b d _ (P.o.below p.o rfl) (R.o.below p.o rfl) (U.o.fs (Fs.of_nil p.o)) (by omega) (by omega)).mono ?_;rintro e w2 ⟨G2,g2,k2,rfl,X,b9,G⟩;have Y:=vn p G;have i:=vv (i.o.below G rfl);have k:=vv X;clear X G;go_wp2_with fail;refine(by_ A G1 na g1 ca k1 a _ _ (O.o.below Y.o rfl) i.o N.o (by omega)).mono ?_;rintro e w3 ⟨A3,n3,c3,rfl,H,-,q⟩;have Z:=vn Y q;have i:=vv (i.o.below q rfl);have k:=vv (k.o.below q rfl);have c0:=H.le_of O.o (k0q _ _);have r:=vv H;clear H q;go_wp2_with fail;refine(by_ B G2 nb g2 cb k2 b _ _ (P.o.below Z.o rfl) k.o F.o (by omega)).mono ?_;rintro e w4 ⟨A4,n4,c4,rfl,I,-,m⟩;have a8:=vn Z m;have i:=vv (i.o.below m rfl);have k:=vv (k.o.below m rfl);have r:=vv (r.o.below m rfl);have c1:=I.le_of P.o (k0q _ _);have a0:=vv I;clear I m;go_wp2_with fail;refine(mulWords A3 A4 n3 n4 c3 c4 _ _ _ r.o a0.o (by omega)).mono ?_;rintro e w5 j;obtain⟨A5,n5,c5,rfl,a1,a9,t⟩:=j.val2;have a2:=vn a8 t;have i:=vv (i.o.below t rfl);have k:=vv (k.o.below t rfl);have l:=vv a1;clear a1 t j r a0;go_wp2_with fail;refine(by_ D G2 nd g2 cd k2 d _ _ (R.o.below a2.o rfl) k.o F.o (by omega)).mono ?_;rintro e w6 ⟨A6,n6,c6,rfl,J,-,u⟩;have a3:=vn a2 u;have i:=vv (i.o.below u rfl);have l:=vv (l.o.below u rfl);have c2:=J.le_of R.o (k0q _ _);have y:=vv J;clear J u;go_wp2_with fail;refine(by_ C G1 nc g1 cc k1 c _ _ (Q.o.below a3.o rfl) i.o N.o (by omega)).mono ?_;rintro e w7 ⟨A7,n7,c7,rfl,K,-,z⟩;have b0:=vn a3 z;have l:=vv (l.o.below z rfl);have y:=vv (y.o.below z rfl);have c9:=K.le_of Q.o (k0q _ _);have a4:=vv K;clear K z;go_wp2_with fail;refine(mulWords A6 A7 n6 n7 c6 c7 _ _ _ y.o a4.o (by omega)).mono ?_;rintro e w8 j;obtain⟨A8,n8,c8,rfl,a5,b1,L⟩:=j.val2;have E:=vn b0 L;have l:=vv (l.o.below L rfl);have M:=vv (a5.den T.o (fun a e=>(b1 a e).2));clear a5 L j y a4;go_wp2_with fail;refine(set_of g 0 v (sg s (a/Nat.gcd a c*(b/Nat.gcd b d))) _ A5 n5 c5 _ _ (HV.o.below E.o) l.o (fun a e=>(a9 a e).2) (q0Z _ _) (q26 _ _)).mono ?_;rintro e w9 j;have j:=j.f (HV.o.below E.o);have HN:=vv ((HH.o.below E.o).num j);have HF:=vv (j.2.2.after E.o);have M:=vv (M.o.fs j.2.2);obtain⟨rfl,-,-⟩:=j;obtain⟨hi,x,hx⟩:=HN.o;have b3:=hi.lt;have d0:=hi.fz 2;have HI:=vv hi;have b2:=vv hx;clear hi;go_wp2;go_ret;refine⟨rfl,RatAt.made HI.o ⟨x,b2.o⟩ M.o HM.o T.o (by rw[q0Z];exact S.o.1) ?_,fs3 (HF.o.trans (Fs.set2 HI.o _))⟩;have:=k0z (Nat.cast:Nat->Int) S.o.2;rw[k0f,k0f (a*b)] at this;cases s
  ·exact this
  ·show -((a/Nat.gcd a c*(b/Nat.gcd b d):Nat):Int)*_ = -((a*b:Nat):Int)*_;rw[k1e,k1e,this]
theorem times(g:Nat)(s:Bool)(A D B C:Option qm)(na ca nd cd nb cb nc cc a d b c:Nat)(w:qf)(h:RatSh w g)(ha:Rd w A na ca (toL a))(hd:Rd w D nd cd (toL d))(hb:Rd w B nb cb (toL b))(hc:Rd w C nc cc (toL c))(hd0:0<d)(hc0:0<c)
  (had:Nat.gcd a d=1) (hbc:Nat.gcd b c=1) (hst:Std w) (sa:Sz a) (sd:Sz d) (sb:Sz b) (sc:Sz c) (hq:fq=298\/fq=167:=by decide) :
  qh qc fq #[.pointer (qd ⟨g,0,qb⟩),.bool s,.slice A na ca,.slice D nd cd,.slice B nb cb,.slice C nc cc] w (q2I g (sg s (a*b)) (d*c) w):=by
 rcases k01 a with e|e
 ·exact times_zero (hq:=hq) g s A D B C na ca nd cd nb cb nc cc a d b c w h ha hb hd0 hc0 (.inl e) hst
 rcases k01 b with f|f
 ·exact times_zero (hq:=hq) g s A D B C na ca nd cd nb cb nc cc a d b c w h ha hb hd0 hc0 (.inr ⟨e,f⟩) hst
 exact times_pos (hq:=hq) g s A D B C na ca nd cd nb cb nc cc a d b c w h ha hd hb hc hd0 hc0 had hbc e f hst sa sd sb sc
theorem MulR(g gx gy:Nat)(p q:Int)(d e':Nat)(w:qf)(h:RatSh w g)(hx:RatAt w gx p d)(hy:RatAt w gy q e')(hst:Std w)(sp:Sz p.natAbs)(sd:Sz d)(sq:Sz q.natAbs)(se:Sz e')(hq:fq=230\/fq=83:=by decide):qh qc fq #[.pointer (qd ⟨g,0,qb⟩),.pointer (qd ⟨gx,0,qb⟩),.pointer (qd ⟨gy,0,qb⟩)] w (q2I g (p*q) (d*e') w):=by
 have l:=hx.lt;have r:=hy.lt;have t:=vv hx;have u:=vv hy;have X:=vv h;have S:=vv hst;have Y:=vv sp;have Z:=vv sq;have HD:=vv sd;have HE:=vv se;obtain⟨A,n,c,F,G,Q,H⟩:=hx.num.ex;obtain⟨B,m,I,J,L,v,T⟩:=hy.num.ex;have HA:=vv Q;have HB:=vv v;clear h hx hy hst sp sd sq se Q v H T;have fin:∀fq,(fq=298\/fq=167)->∀(s:Bool) a x y c2 z C c3,(qa (lp p d<0) != qa (lp q e'<0))=s->qi w.heap.size w a->Rd a x y c2 (toL (ld p d))->Rd a z C c3 (toL (ld q e'))->qh qc fq #[.pointer (qd ⟨g,0,qb⟩),.bool s,.slice A n c,.slice x y c2,.slice B m I,.slice z C c3] a (q2I g (p*q) (d*e') w):=by
  intro fq hq;intro s a x y c2 z C c3 v i ha hb;refine(times (hq:=hq) g s A x B z n c y c2 m I C c3 _ _ _ _ a (X.o.below i) (HA.o.below i rfl) ha (HB.o.below i rfl) hb (q1q t.o.pos) (q1q u.o.pos) (q2j t.o.pos) (q2j u.o.pos) (S.o.fs (Fs.of_nil i)) (Y.o.mono (q2M _ _)) (HD.o.mono (q33 _ _)) (Z.o.mono (q2M _ _)) (HE.o.mono (q33 _ _))).mono ?_;rintro e k ⟨he,M,N⟩;refine⟨he,M.cross (k0N t.o.pos u.o.pos) ?_,N.after i⟩;have e0:sg s ((lp p d).natAbs*(lp q e').natAbs)=lp p d*lp q e':=by
   have R:=q6F (lp p d*lp q e');rw[q4M,v,k1c] at R
   conv=>rhs;rw[<- R]
   by_cases H:0<(lp p d).natAbs*(lp q e').natAbs
   ·rw[k04 H,k2L]
   ·have:(lp p d).natAbs*(lp q e').natAbs=0:=by omega
    rw[this];cases s<;>rfl
  rw[e0];have c1:=q0N p d;have c2:=q0N q e';simp only[k0f]
  calc lp p d*lp q e'*(↑d*↑e')=(lp p d*d)*(lp q e'*e'):=by grind
   _=(p*ld p d)*(q*ld q e'):=by rw[c1,c2]
   _=_:=by grind
 have U:=vv fin;clear fin;rcases hq with rfl|rfl;go_enter func230,ntmps230;rotate_left;go_enter func83,ntmps83;rotate_left;all_goals
  go_wp2_with fail;refine q02 (fun k=>k.cell? ⟨gx,0,qb⟩=qd (.bool (qa (lp p d<0)))/\k.cell? ⟨gx,1,qb⟩=qd (.slice A n c)/\k.cell? ⟨gy,0,qb⟩=qd (.bool (qa (lp q e'<0)))/\k.cell? ⟨gy,1,qb⟩=qd (.slice B m I)) 26
   (.still 0 (.still 1 (.still 2 (.still 3 (.still 4 (.still 5 (.still 6 (.still 7 (.still 8 (.still 9 (.still 10 (.still 11 (.still 12 (.still 13 (.still 14 (.still 15 (.still 16 (.still 17 (.still 19 (.still 20 (.still 21 (.still 22 (.still 23 (.still 24 (.one 18 (.one 25 .done)))))))))))))))))))))))))) ⟨F,G,J,L⟩ (fun a0=>?_)
  iterate 24
   refine q03 ?_
  refine q01 rfl (by rfl) (fun K hK=>?_);go_simp;refine(below gx _ _ _ t.o.drew).mono ?_;rintro e w1 ⟨A1,n1,c1,rfl,O,a1,b⟩;have D:=vv O;have f:ql (qi w.heap.size w w1):=vv ⟨b.os,b.tape,b.output,b.size,b.block⟩;clear O b;go_wp2_with fail;refine hK.out _ _ ⟨(f.o.cell (p:=⟨gx,0,qb⟩) l).trans F,(f.o.cell (p:=⟨gx,1,qb⟩) l).trans G,(f.o.cell (p:=⟨gy,0,qb⟩) r).trans J,(f.o.cell (p:=⟨gy,1,qb⟩) r).trans L⟩ (fun V=>?_);clear hK;refine q01 rfl (by rfl) (fun K hK=>?_);go_simp;refine(below gy _ _ _ (u.o.below f.o)).mono ?_;rintro e a ⟨A2,n2,c2,rfl,P,a2,E⟩;have W:=vv P;have D:=vv (D.o.below E rfl);have j:=vn f E;clear P E;go_wp2_with fail;refine hK.out _ _ ⟨(j.o.cell (p:=⟨gx,0,qb⟩) l).trans F,(j.o.cell (p:=⟨gx,1,qb⟩) l).trans G,(j.o.cell (p:=⟨gy,0,qb⟩) r).trans J,(j.o.cell (p:=⟨gy,1,qb⟩) r).trans L⟩ (fun V=>?_);clear hK;refine q08 ?_;go_wp2_with fail;refine((U.o _ (by decide)) _ a A1 n1 c1 A2 n2 c2 rfl j.o D.o W.o).mono ?_;rintro e w3 ⟨rfl,M,N⟩;have HR:=vv M;go_wp2;go_ret;exact⟨rfl,HR.o,N⟩
theorem added_(g gx gy:Nat)(m n n':Int)(t:Bool)(P Q:Nat)(w:qf)(h:RatSh w g)(hx:RatAt w gx m P)(hy:RatAt w gy n Q)(hm:Nat.gcd m.natAbs P=1)(hn:Nat.gcd n.natAbs Q=1)(hst:Std w)(sp:Sm m.natAbs)(sd:Sm P)(sq:Sm n.natAbs)(se:Sm Q)(ht:n'=if t then -n else n)(hq:fq=221\/fq=171:=by decide):qh qc fq #[.pointer (qd ⟨g,0,qb⟩),.pointer (qd ⟨gx,0,qb⟩),.pointer (qd ⟨gy,0,qb⟩),.bool t] w (q2I g (m*Q+n'*P) (P*Q) w):=by
 have d2:n'.natAbs=n.natAbs:=by subst ht;cases t<;>simp
 have HT:=vv ht;have l1:=vv d2;have S:=hx.lt;have z:=hy.lt;have HH:=vv h;have e7:=vv hst;obtain⟨i3,i4⟩:=q3a hx.pos hm;obtain⟨i5,i6⟩:=q3a hy.pos hn;have b9:=vv hx.pos;have d3:=vv hy.pos;have M:=vv (q0F (n:=P) hy.pos);have HL:=vv fun s L=>q9O (m:=m) (n:=n') (s:=s) hx.pos hy.pos hm (by rw[d2];exact hn) L
 have e8:=hx.num;have e9:=hy.num;rw[i3] at e8;rw[i5] at e9;obtain⟨A,na,ca,h0,h1,hr,hz⟩:=e8.ex;obtain⟨B,nb,cb,k0,k1,L,l2⟩:=e9.ex;have HA:=vv hr;have HB:=vv L;have o7:=hr.sz sp.sz;have o8:=L.sz sq.sz;have C:=vv fun fq hq=>below (fq:=fq) (hq:=hq) gx m P w hx
 have i7:=vv fun fq hq w' (hb:qi w.heap.size w w')=>below (fq:=fq) (hq:=hq) gy n Q w' (hy.below hb)
 rw[i4] at C;rw[i6] at i7;have l3:=vv sd.sz;have l4:=vv se.sz;have W:ql (Sz (m*(Q/Nat.gcd P Q:Nat)).natAbs/\Sz (n'*(P/Nat.gcd P Q:Nat)).natAbs/\Sz (m*(Q/Nat.gcd P Q:Nat)+n'*(P/Nat.gcd P Q:Nat)).natAbs):=by
  have O:(m*(Q/Nat.gcd P Q:Nat)).natAbs<=m.natAbs*Q:=by rw[k1c,k08];exact k0m _ (k0q _ _)
  have a2:(n'*(P/Nat.gcd P Q:Nat)).natAbs<=n.natAbs*P:=by rw[k1c,k08,d2];exact k0m _ (k0q _ _)
  refine vv ⟨(sp.mul se).mono O,(sq.mul sd).mono a2,?_⟩;have a3:=Int.natAbs_add_le (m*(Q/Nat.gcd P Q:Nat)) (n'*(P/Nat.gcd P Q:Nat));refine Sz.mono (b:=m.natAbs*Q+n.natAbs*P) ?_ (by omega);have R:=q1S m.natAbs Q;have b2:=q1S n.natAbs P;have b3:=q8s (m.natAbs*Q) (n.natAbs*P);unfold Sm at sp sd sq se;unfold Sz;omega
 obtain⟨v,hv⟩:=h.int;have HV:=vv hv;clear ht d2 h hx hy hst sp sd sq se hr L hz l2 hm hn i3 i4 i5 i6 e8 e9 hv;obtain⟨o,Y⟩:∃o:Obj,o=.cells #[.bool qe,.slice qb 0 0] (if fq=221 then 142 else 82):=⟨_,rfl⟩;rcases hq with rfl|rfl;go_enter func221,ntmps221;rotate_left;go_enter func171,ntmps171;rotate_left;all_goals as_aux_lemma =>
  try first|rw[k0p rfl] at Y|rw[k0r (by decide)] at Y
  go_wp2_with fail;refine(C.o _ (by decide)).mono ?_;rintro e w1 ⟨A1,n1,c1,rfl,f0,i8,i9⟩;have o9:=f0.sz l3.o;have d:=vv f0;have j0:=vv i9;have d4:=vv i8;clear f0 i9 i8;go_wp2_with fail;refine((i7.o _ (by decide)) _ j0.o).mono ?_;rintro e w2 ⟨A2,n2,c2,rfl,f1,j1,f2⟩;have p0:=f1.sz l4.o;have i:=vv f1;have d:=vv (d.o.below f2 rfl);have j2:=vn j0 f2;have d5:=vv j1;clear f1 f2 j1;go_wp2_with fail;refine(common A1 A2 n1 n2 c1 c2 P Q w2 d.o i.o (e7.o.fs (Fs.of_nil j2.o)) (by omega) (by omega)).mono ?_;rintro e j ⟨G,n3,c3,rfl,hG,j3,d6⟩;have p1:=hG.le_of d.o (Nat.gcd_le_left _ b9.o);have d7:ql (∀a,G=qd a->a.off=0):=vv fun a e=>(j3 a e).2
  have k:=vv hG;have d:=vv (d.o.below d6 rfl);have i:=vv (i.o.below d6 rfl);have j4:=vn j2 d6;have l5:=j4.o.size;clear hG d6 j3;have f3:qi j.heap.size j (j.alloc o):=(qg _ j).alloc lr _;have f4:qi (j.alloc o).heap.size (j.alloc o) ((j.alloc o).alloc o):=(qg _ (j.alloc o)).alloc lr _;have j5:(j.alloc o).heap.size=j.heap.size+1:=by simp
  have j6:IntAt (j.alloc o) j.heap.size 0 0:=by rw[Y];exact IntAt.zero j _
  have j7:IntAt ((j.alloc o).alloc o) (j.heap.size+1) 0 0:=by rw[<- j5,Y];exact IntAt.zero _ _
  obtain⟨wx,c0⟩:=yx ((j.alloc o).alloc o);have a5:qi j.heap.size j wx:=by rw[c0];exact f3.trans (f4.mono f3.size)
  have l:=vv (j6.below f4);have q:=vv j7;rw[<- c0] at l q;have d:=vv (d.o.below a5 rfl);have i:=vv (i.o.below a5 rfl);have k:=vv (k.o.below a5 rfl);have C:=vn j4 a5;have l6:wx.heap.size=j.heap.size+1+1:=by rw[c0];simp
  have l7:=vv c0;have HO:=vv Y;have Z:=(C.o.cell (p:=⟨gx,0,qb⟩) S).trans h0;have O:=(C.o.cell (p:=⟨gx,1,qb⟩) S).trans h1;have V:=(C.o.cell (p:=⟨gy,0,qb⟩) z).trans k0;have R:=(C.o.cell (p:=⟨gy,1,qb⟩) z).trans k1;have o1:gx<wx.heap.size:=k03 S C.o.size;have g1:gy<wx.heap.size:=k03 z C.o.size;clear f3 f4 j5 j6 j7 a5 c0 Y l6;go_wp2_with fail;rw[<- HO.o,<- l7.o];refine q02 (fun w'=>w'.cell? ⟨gx,0,qb⟩=qd (.bool (qa (m<0)))/\w'.cell? ⟨gx,1,qb⟩=qd (.slice A na ca)) 15
   (.still 0 (.still 1 (.still 2 (.still 3 (.still 4 (.still 5 (.still 6 (.still 7 (.still 8 (.still 9 (.still 10 (.still 11 (.still 12 (.one 13 (.one 14 .done))))))))))))))) ⟨Z,O⟩ (fun j8=>?_)
  iterate 13
   refine q03 ?_
  refine q01 rfl (by rfl) (fun K hK=>?_);go_simp;refine(by_ A2 G n2 n3 c2 c3 Q _ _ i.o.drew k.o.drew M.o (by omega)).mono ?_;rintro e w4 ⟨A4,n4,c4,rfl,f5,-,u⟩;have u:qi wx.heap.size wx w4:=⟨u.os,u.tape,u.output,u.size,u.block⟩;have p2:=f5.le_of i.o (k0q _ _);have l8:=vv f5;have d:=vv (d.o.below u rfl);have i:=vv (i.o.below u rfl);have k:=vv (k.o.below u rfl);have l:=vv (l.o.below u);have q:=vv (q.o.below u);have d8:=vn C u;have Z:=(d8.o.cell (p:=⟨gx,0,qb⟩) S).trans h0;have O:=(d8.o.cell (p:=⟨gx,1,qb⟩) S).trans h1;clear f5 u;go_wp2_with fail;refine hK.out _ _ ⟨Z,O⟩ (fun a4=>?_);clear hK;refine q01 rfl (by rfl) (fun K hK=>?_);go_simp;refine(mulWords A A4 na n4 ca c4 _ _ _ (HA.o.below d8.o rfl) l8.o (by omega)).mono ?_;rintro e w5 c;obtain⟨A5,n5,c5,rfl,j9,l9,T⟩:=c.val2;have m0:=vv j9;have d:=vv (d.o.below T rfl);have i:=vv (i.o.below T rfl);have k:=vv (k.o.below T rfl);have l:=vv (l.o.below T);have q:=vv (q.o.below T);have d9:=vn d8 T;have Z:=(d9.o.cell (p:=⟨gx,0,qb⟩) S).trans h0;have O:=(d9.o.cell (p:=⟨gx,1,qb⟩) S).trans h1;clear j9 T c;go_wp2_with fail;refine hK.out _ _ ⟨Z,O⟩ (fun a4=>?_);clear hK;refine q08 ?_;go_wp2_with fail;refine(set_of _ 0 0 (m*(Q/Nat.gcd P Q:Nat)) _ A5 n5 c5 _ _ l.o m0.o (fun a e=>(l9 a e).2) (by rw[k1c,k08]) (by rw[q4M,k08,k02 (p:=((Q/Nat.gcd P Q:Nat):Int)<0) (qr.2 (k0k _))];cases qa (m<0)<;>rfl)).mono ?_;rintro e w6 c;have c:=c.f l.o;have l:=vv c.2.1;have q:=vv (q.o.fs1 c.2.2 (by omega));have d:=vv (d.o.fs d4.o c.2.2);have i:=vv (i.o.fs d5.o c.2.2);have k:=vv (k.o.fs d7.o c.2.2);have e0:=vv (c.below d9.o d9.o.size l5);obtain⟨rfl,-,-⟩:=c;have V:=(e0.o.cell (p:=⟨gy,0,qb⟩) z).trans k0;have R:=(e0.o.cell (p:=⟨gy,1,qb⟩) z).trans k1;have g1:gy<w6.heap.size:=k03 z e0.o.size;go_wp2_with fail;refine q02 (fun w'=>w'.cell? ⟨gy,0,qb⟩=qd (.bool (qa (n<0)))/\w'.cell? ⟨gy,1,qb⟩=qd (.slice B nb cb)) 17
   (.still 0 (.still 1 (.still 2 (.still 3 (.still 4 (.still 5 (.still 6 (.still 7 (.still 8 (.still 9 (.still 10 (.still 11 (.still 12 (.still 13 (.still 14 (.one 15 (.one 16 .done))))))))))))))))) ⟨V,R⟩ (fun j8=>?_)
  iterate 15
   refine q03 ?_
  refine q01 rfl (by rfl) (fun K hK=>?_);go_simp;refine(by_ A1 G n1 n3 c1 c3 P _ _ d.o.drew k.o.drew M.o (by omega)).mono ?_;rintro e w7 ⟨A7,n7,c7,rfl,f6,-,y⟩;have y:qi w6.heap.size w6 w7:=⟨y.os,y.tape,y.output,y.size,y.block⟩;have p3:=f6.le_of d.o (k0q _ _);have m1:=vv f6;have d:=vv (d.o.below y rfl);have i:=vv (i.o.below y rfl);have k:=vv (k.o.below y rfl);have l:=vv (l.o.below y);have q:=vv (q.o.below y);have e2:=vn e0 y;have V:=(e2.o.cell (p:=⟨gy,0,qb⟩) z).trans k0;have R:=(e2.o.cell (p:=⟨gy,1,qb⟩) z).trans k1;clear f6 y;go_wp2_with fail;refine hK.out _ _ ⟨V,R⟩ (fun a4=>?_);clear hK;refine q01 rfl (by rfl) (fun K hK=>?_);go_simp;refine(mulWords B A7 nb n7 cb c7 _ _ _ (HB.o.below e2.o rfl) m1.o (by omega)).mono ?_;rintro e w8 c;obtain⟨A8,n8,c8,rfl,k2,m2,U⟩:=c.val2;have m3:=vv k2;have d:=vv (d.o.below U rfl);have i:=vv (i.o.below U rfl);have k:=vv (k.o.below U rfl);have l:=vv (l.o.below U);have q:=vv (q.o.below U);have e3:=vn e2 U;have V:=(e3.o.cell (p:=⟨gy,0,qb⟩) z).trans k0;have R:=(e3.o.cell (p:=⟨gy,1,qb⟩) z).trans k1;clear k2 U c;go_wp2_with fail;refine hK.out _ _ ⟨V,R⟩ (fun a4=>?_);clear hK;refine q08 ?_;go_wp2_with fail;refine(set_of _ 0 0 (n'*(P/Nat.gcd P Q:Nat)) _ A8 n8 c8 _ _ q.o m3.o (fun a e=>(m2 a e).2) (by rw[k1c,k08,l1.o]) ?_).mono ?_
  ·have e:=HT.o;cases t
   ·rw[e,k0r Bool.false_ne_true,q4M,k08,k02 (p:=((P/Nat.gcd P Q:Nat):Int)<0) (qr.2 (k0k _))];cases qa (n<0)<;>cases qa (0<n.natAbs*(P/Nat.gcd P Q))<;>rfl
   ·rw[e,k0p rfl,k1e,q5Y,q4M,k1c,k08,k02 (p:=((P/Nat.gcd P Q:Nat):Int)<0) (qr.2 (k0k _))];cases qa (n<0)<;>cases qa (0<n.natAbs*(P/Nat.gcd P Q))<;>rfl
  rintro e w9 c;have c:=c.f q.o;have q:=vv c.2.1;have l:=vv (l.o.fs1 c.2.2 (by omega));have d:=vv (d.o.fs d4.o c.2.2);have i:=vv (i.o.fs d5.o c.2.2);have k:=vv (k.o.fs d7.o c.2.2);have k3:=vv (c.below e3.o e3.o.size (by omega));obtain⟨rfl,-,-⟩:=c;clear Z O V R;go_wp2_with fail;refine(Add _ 0 _ 0 _ 0 _ _ _ _ l.o l.o q.o W.o.1 W.o.2.1).mono ?_;rintro e X c;have c:=c.f l.o;have l:=vv c.2.1;have d:=vv (d.o.fs d4.o c.2.2);have i:=vv (i.o.fs d5.o c.2.2);have k:=vv (k.o.fs d7.o c.2.2);have a8:=vv (c.below k3.o k3.o.size (by omega));obtain⟨rfl,-,-⟩:=c;obtain⟨s,L⟩:=yx (m*(Q/Nat.gcd P Q:Nat)+n'*(P/Nat.gcd P Q:Nat));have W:=vv W.o.2.2;have HL:=vv (HL.o s L);rw[<- L] at l W;have D:=l.o.lt;have c6:=l.o;obtain⟨AS,ns,cs,F,I,e4,m4⟩:=c6.ex;have f7:=e4.words;have p4:=e4.sz W.o;have e5:=vv e4;clear L e4 m4 c6;rcases k01 ns with hz|o2
  ·subst hz;have k4:s=0:=by have:=q06.1 f7;omega
   have HF:ql (m*Q+n'*P=0):=by
    refine vv ?_;have e1:=HL.o.2;rw[k4] at e1;have hp:(0:Int)<(P/Nat.gcd P Q*(Q/Nat.gcd (Int.natAbs 0) (Nat.gcd P Q)):Nat):=by have:0<P/Nat.gcd P Q*(Q/Nat.gcd (Int.natAbs 0) (Nat.gcd P Q)):=k0N (k2d (k2l b9.o (k1H _ _)) M.o) (by rw[qq,Nat.gcd_zero_left];exact k2d (k2l d3.o (k17 _ _)) M.o);omega
    simp [sg] at e1;have:=Int.mul_eq_zero.1 e1.symm;rcases this with h|h
    ·exact h
    ·have h':((P/Nat.gcd P Q*(Q/Nat.gcd (Int.natAbs 0) (Nat.gcd P Q)):Nat):Int)=0:=by
      rw[qq,Nat.gcd_zero_left]
      exact_mod_cast h
     omega
   clear k4 f7;have hB:qi X.heap.size X (X.alloc (.cells #[.int .u32 1] 54)):=(qg _ _).alloc lr _;have hO:Own (X.alloc (.cells #[.int .u32 1] 54)) X.heap.size 54 [1]:=Own.lit _ (q0y.2 ⟨by omega,q0L⟩) (by simp [q0k]);have f8:=vn a8 hB;have HO:=vv hO;clear hB hO;go_wp2_with fail;refine(Rset g qe qb (qd ⟨X.heap.size,0,qb⟩) 0 0 1 1 [] [1] _ (HH.o.below f8.o) (Rd.nil _) (HO.o.rd rfl lr (by omega)) (by decide) (fun a e=>by cases e) (fun a e=>by cases e;rfl) (e7.o.fs (Fs.of_nil f8.o)) (by omega) (by omega)).mono ?_;rintro e e6 ⟨rfl,hR,hF⟩;have HR:=vv hR;go_wp2;go_ret;refine⟨rfl,?_,hF.after f8.o⟩;rw[HF.o];exact HR.o.cross (k0N b9.o d3.o) (by simp [sg,val])
  ·have p5:((ns:Int)==0)=qe:=by simp;omega
   clear f7;go_wp2_with fail;refine(common AS G ns n3 cs c3 _ _ _ e5.o k.o (e7.o.fs (Fs.of_nil a8.o)) (by omega) (by omega)).mono ?_;rintro e e6 ⟨H,k5,k6,rfl,f9,k7,J⟩;have o3:=f9.le_of k.o (Nat.gcd_le_right _ M.o);have E:=vv f9;have m5:ql (∀a,H=qd a->a.off=0):=vv fun a e=>(k7 a e).2
   have g0:=vv (q0F (n:=s.natAbs) M.o);have e5:=vv (e5.o.below J rfl);have d:=vv (d.o.below J rfl);have i:=vv (i.o.below J rfl);have k:=vv (k.o.below J rfl);have F:=(J.cell (p:=⟨j.heap.size,0,qb⟩) D).trans F;have I:=(J.cell (p:=⟨j.heap.size,1,qb⟩) D).trans I;have D:j.heap.size<e6.heap.size:=k03 D J.size;have g2:=vn a8 J;clear f9 k7 J;go_wp2_with fail;refine q02 (fun w'=>w'.cell? ⟨j.heap.size,0,qb⟩=qd (.bool (qa (s<0)))/\w'.cell? ⟨j.heap.size,1,qb⟩=qd (.slice AS ns cs)) 14
    (.still 0 (.still 1 (.still 2 (.still 3 (.still 4 (.still 5 (.still 6 (.still 7 (.still 8 (.still 9 (.still 10 (.still 11 (.one 12 (.one 13 .done)))))))))))))) ⟨F,I⟩ (fun j8=>?_)
   iterate 12
    refine q03 ?_
   refine q01 rfl (by rfl) (fun K hK=>?_);go_simp;refine(by_ AS H ns k5 cs k6 _ _ _ e5.o.drew E.o.drew g0.o (by omega)).mono ?_;rintro e k8 ⟨p6,k9,p7,rfl,c9,-,r⟩;have r:qi e6.heap.size e6 k8:=⟨r.os,r.tape,r.output,r.size,r.block⟩;have a9:=vv c9;have d:=vv (d.o.below r rfl);have i:=vv (i.o.below r rfl);have k:=vv (k.o.below r rfl);have E:=vv (E.o.below r rfl);have F:=(r.cell (p:=⟨j.heap.size,0,qb⟩) D).trans F;have I:=(r.cell (p:=⟨j.heap.size,1,qb⟩) D).trans I;have D:j.heap.size<k8.heap.size:=k03 D r.size;have g3:=vn g2 r;clear c9 r;go_wp2_with fail;refine hK.out _ _ ⟨F,I⟩ (fun a4=>?_);clear hK;refine q01 rfl (by rfl) (fun K hK=>?_);go_simp;refine(copied _ _ _ _ _ a9.o).mono ?_;rintro e p8 ⟨rfl,hO,N⟩;have g4:=vv (hO.rd a9.o.len.symm lr a9.o.sm);have d:=vv (d.o.below N rfl);have i:=vv (i.o.below N rfl);have k:=vv (k.o.below N rfl);have E:=vv (E.o.below N rfl);have F:=(N.cell (p:=⟨j.heap.size,0,qb⟩) D).trans F;have I:=(N.cell (p:=⟨j.heap.size,1,qb⟩) D).trans I;have a6:=vn g3 N;clear hO N;go_wp2_with fail;refine hK.out _ _ ⟨F,I⟩ (fun a4=>?_);clear hK;refine q08 ?_;go_wp2_with fail;refine(set_of g 0 v (sg (qa (s<0)) (s.natAbs/Nat.gcd s.natAbs (Nat.gcd P Q))) _ _ k9 k9 _ _ (HV.o.below a6.o) g4.o (fun a e=>by cases e;rfl) (q0Z _ _) (q26 _ _)).mono ?_;rintro e p9 c;have c:=c.f (HV.o.below a6.o);have g5:=vv ((HH.o.below a6.o).num c);have HF:=vv (c.2.2.after a6.o);have d:=vv (d.o.fs d4.o c.2.2);have i:=vv (i.o.fs d5.o c.2.2);have k:=vv (k.o.fs d7.o c.2.2);have E:=vv (E.o.fs m5.o c.2.2);obtain⟨rfl,-,-⟩:=c;clear F I;go_wp2_with fail;refine(by_ A1 G n1 n3 c1 c3 P _ _ d.o k.o M.o (by omega)).mono ?_;rintro e q0 ⟨m6,m7,m8,rfl,b4,-,a7⟩;have o4:=b4.le_of d.o (k0q _ _);have b5:=vv b4;have i:=vv (i.o.below a7 rfl);have E:=vv (E.o.below a7 rfl);have g6:=vv a7;clear b4 a7;go_wp2_with fail;refine(by_ A2 H n2 k5 c2 k6 Q _ _ i.o E.o g0.o (by omega)).mono ?_;rintro e q1 ⟨m9,n0,n6,rfl,b6,-,b7⟩;have o5:=b6.le_of i.o (k0q _ _);have g7:=vv b6;have b5:=vv (b5.o.below b7 rfl);have g8:=vn g6 b7;clear b6 b7;go_wp2_with fail;refine(mulWords m6 m9 m7 n0 m8 n6 _ _ _ b5.o g7.o (by omega)).mono ?_;rintro e n9 c;obtain⟨q2,q3,q4,rfl,d0,g9,d1⟩:=c.val2;have b8:=vn g8 d1;have l0:ql (0<P/Nat.gcd P Q*(Q/Nat.gcd s.natAbs (Nat.gcd P Q))):=vv (k0N (k2d (k2l b9.o (k1H _ _)) M.o) (k2d (k2l d3.o (k38 (k17 _ _) (k17 _ _))) g0.o));have i0:=vv (d0.den l0.o (fun a e=>(g9 a e).2));clear d0 d1 c;obtain⟨hi,x,hx⟩:=g5.o;have i1:=(b8.o.cell (p:=⟨g,2,qb⟩) hi.lt).trans hx;have hi:=hi.below b8.o;have o6:=hi.lt;have q5:=hi.fz 2;have HI:=vv hi;have o0:=vv i1;have i2:ql (Fs [(g,0,2)] w n9):=vv ((HF.o.trans (Fs.of_nil b8.o)).drop (fun p hp _=>by simpa using hp) (fun p hp=>by simpa using hp));clear hi hx;go_wp2;go_ret;refine⟨rfl,RatAt.made HI.o ⟨x,o0.o⟩ i0.o (k0N b9.o d3.o) l0.o (by rw[q0Z];exact HL.o.1) ?_,fs3 (i2.o.trans (Fs.set2 HI.o _))⟩;rw[HL.o.2]
theorem sub_(g gx gy:Nat)(m n:Int)(P Q:Nat)(w:qf)(h:RatSh w g)(hx:RatAt w gx m P)(hy:RatAt w gy n Q)(hm:Nat.gcd m.natAbs P=1)(hn:Nat.gcd n.natAbs Q=1)(hst:Std w)(sp:Sm m.natAbs)(sd:Sm P)(sq:Sm n.natAbs)(se:Sm Q)(hq:fq=221\/fq=171:=by decide):qh qc fq #[.pointer (qd ⟨g,0,qb⟩),.pointer (qd ⟨gx,0,qb⟩),.pointer (qd ⟨gy,0,qb⟩),.bool qk] w (q2I g (m*Q-n*P) (P*Q) w):=by
 have:=added_ (hq:=hq) g gx gy m n (-n) qk P Q w h hx hy hm hn hst sp sd sq se rfl
 rwa [k1e,<- qn] at this
theorem SubR(g gx gy:Nat)(p q:Int)(d e':Nat)(w:qf)(h:RatSh w g)(hx:RatAt w gx p d)(hy:RatAt w gy q e')(hst:Std w)(sp:Sm p.natAbs)(sd:Sm d)(sq:Sm q.natAbs)(se:Sm e')(hq:fq=131\/fq=163:=by decide):qh qc fq #[.pointer (qd ⟨g,0,qb⟩),.pointer (qd ⟨gx,0,qb⟩),.pointer (qd ⟨gy,0,qb⟩)] w (q2I g (p*e'-q*d) (d*e') w):=by
 have a:ql ((lp p d*↑(ld q e')-lp q e'*↑(ld p d))*((d*e':Nat):Int)=(p*e'-q*d)*((ld p d*ld q e':Nat):Int)):=by
  have c1:=q0N p d;have c2:=q0N q e';refine vv ?_;simp only[k0f]
  calc (lp p d*↑(ld q e')-lp q e'*↑(ld p d))*(↑d*↑e')=(lp p d*d)*↑(ld q e')*e'-(lp q e'*e')*↑(ld p d)*d:=by grind
   _=(p*ld p d)*↑(ld q e')*e'-(q*ld q e')*↑(ld p d)*d:=by rw[c1,c2]
   _=_:=by grind
 have b:=vv (k0N hx.pos hy.pos);have c:=vv fun fq hq=>sub_ (fq:=fq) (hq:=hq) g gx gy (lp p d) (lp q e') (ld p d) (ld q e') w h (hx.cross (q1q hx.pos) (q0N p d).symm) (hy.cross (q1q hy.pos) (q0N q e').symm) (q2j hx.pos) (q2j hy.pos) hst (sp.mono (q2M _ _)) (sd.mono (q33 _ _)) (sq.mono (q2M _ _)) (se.mono (q33 _ _))
 clear h hx hy hst sp sd sq se;rcases hq with rfl|rfl;go_enter func131,ntmps131;rotate_left;go_enter func163,ntmps163;rotate_left;all_goals
  go_wp2_with fail;refine(c.o _ (by decide)).mono ?_;rintro e k ⟨rfl,f,i⟩;have j:=vv f;go_wp2;go_ret;exact⟨rfl,j.o.cross b.o a.o,i⟩
theorem q8m(p q:Int)(d e':Nat)(hd:0<d)(he:0<e')(h:p.sign≠q.sign\/p.sign=0):q2P (p*e') (q*d)=q2P p.sign q.sign:=by
 have b:(p*(e':Int)).sign=p.sign:=by rw[qt,k0M (a:=(e':Int)) (by omega),k3c]
 have c:(q*(d:Int)).sign=q.sign:=by rw[qt,k0M (a:=(d:Int)) (by omega),k3c]
 rw[<- b,<- c] at h ⊢;have k:∀A:Int,A<0/\A.sign = -1\/A=0/\A.sign=0\/0<A/\A.sign=1:=fun A=>by
  rcases k11 A 0 with a|a|a
  ·exact .inl ⟨a,k1a a⟩
  ·exact .inr (.inl ⟨a,by rw[a];rfl⟩)
  ·exact .inr (.inr ⟨a,k0M a⟩)
 have e:=k (p*(e':Int));have f:=k (q*(d:Int));clear b c k;generalize p*(e':Int)=A at *
 generalize q*(d:Int)=B at *
 unfold q2P
 (repeat' split)<;>omega
theorem qc3(p:Int):p.sign = -1\/p.sign=0\/p.sign=1:=by
 rcases k11 p 0 with a|a|a
 ·exact .inl (k1a a)
 ·rw[a];exact .inr (.inl rfl)
 ·exact .inr (.inr (k0M a))
theorem cmp_mix(g gx:Nat)(p q:Int)(d e':Nat)(w:qf)(hx:RatAt w g p d)(hy:RatAt w gx q e')(h:p.sign≠q.sign\/p.sign=0)(hq:fq=205\/fq=116:=by decide):qh qc fq #[.pointer (qd ⟨g,0,qb⟩),.pointer (qd ⟨gx,0,qb⟩)] w fun e w'=>e=.returned (.int .i64 (q2P (p*e') (q*d)))/\qi w.heap.size w w':=by
 have a:=vv fun fq hq=>RSign (fq:=fq) (hq:=hq) g _ _ w hx
 have b:=vv fun fq hq=>RSign (fq:=fq) (hq:=hq) gx _ _ w hy
 rw[q8m p q d e' hx.pos hy.pos h];have c:=qc3 p;have f:=qc3 q;obtain⟨s,i⟩:=yx (p.sign);obtain⟨t,j⟩:=yx (q.sign);rw[<- i] at a h c ⊢;rw[<- j] at b h f ⊢;clear i j hx hy;rcases c with rfl|rfl|rfl<;>rcases f with rfl|rfl|rfl<;>first|(exfalso;revert h;decide)|clear h;all_goals
  rcases hq with rfl|rfl;go_enter func205,ntmps205;rotate_left;go_enter func116,ntmps116;rotate_left;all_goals
   repeat
    go_wp2_with fail
    first
     | (refine(a.o _ (by decide)).mono ?_;rintro e w' ⟨rfl,rfl⟩)
     | (refine(b.o _ (by decide)).mono ?_;rintro e w' ⟨rfl,rfl⟩)
   go_wp2;go_ret;exact⟨rfl,qg _ _⟩
theorem qc6(s:Bool)(a b d e':Nat):q2P (sg s a*e') (sg s b*d)=if s then -q14 (a*e') (b*d) else q14 (a*e') (b*d):=by
 cases s
 ·show q2P ((a:Int)*e') ((b:Int)*d)=q14 (a*e') (b*d);rw[<- k0f,<- k0f];unfold q2P q14
  (repeat' split)<;>omega
 ·show q2P (-(a:Int)*e') (-(b:Int)*d) = -q14 (a*e') (b*d);rw[k1e,k1e,<- k0f,<- k0f];unfold q2P q14
  (repeat' split)<;>omega
theorem q7t(s:Bool)(a d:Nat):(lp (sg s a) d).natAbs=(lp (a:Int) d).natAbs/\ld (sg s a) d=ld (a:Int) d:=⟨by rw[q3q,q3q,q0Z,k08],by unfold ld;rw[q0Z,k08]⟩
theorem q7s(s:Bool)(ha:0<a):(sg s a).sign=if s then -1 else 1:=by
 cases s
 ·exact k0M (a:=(a:Int)) (by omega)
 ·exact k1a (a:=-(a:Int)) (by omega)
theorem q93(s:Bool)(ha:0<a):qa (sg s a<0)=s:=by
 cases s
 ·exact k02 (by show ¬(a:Int)<0;omega)
 ·exact k04 (by show -(a:Int)<0;omega)
theorem cmp_pos(g gx:Nat)(s:Bool)(a b d e':Nat)(w:qf)(hx:RatAt w g (sg s a) d)(hy:RatAt w gx (sg s b) e')(ha:0<a)(hb:0<b)(sa:Sz a)(sd:Sz d)(sb:Sz b)(se:Sz e')(hq:fq=205\/fq=116:=by decide):qh qc fq #[.pointer (qd ⟨g,0,qb⟩),.pointer (qd ⟨gx,0,qb⟩)] w fun e w'=>e=.returned (.int .i64 (q2P (sg s a*e') (sg s b*d)))/\qi w.heap.size w w':=by
 have C:=vv fun fq hq=>RSign (fq:=fq) (hq:=hq) g _ _ w hx
 have L:=vv fun fq hq=>RSign (fq:=fq) (hq:=hq) gx _ _ w hy
 rw[q7s s ha] at C;rw[q7s s hb] at L;have f:=hx.lt;have u:=hy.lt;have M:=vv fun fq hq w' (h:RatAt w' g (sg s a) d)=>below (fq:=fq) (hq:=hq) g _ _ w' h
 have N:=vv fun fq hq w' (h:RatAt w' gx (sg s b) e')=>below (fq:=fq) (hq:=hq) gx _ _ w' h
 obtain⟨T,U⟩:=q7t s a d;obtain⟨V,W⟩:=q7t s b e';rw[U] at M;rw[W] at N;have a0:=vv hx;have a1:=vv hy;obtain⟨A,n,c,X,q,D,hz⟩:=hx.num.ex;obtain⟨B,m,Y,k0,r,E,a2⟩:=hy.num.ex;rw[show qa (lp (sg s a) d<0)=s from(k1y.2 (q2D hx.pos)).trans (q93 s ha)] at X;rw[T] at D;rw[V] at E;have hn:=D.sz (sa.mono (q2M a d));have hm:=E.sz (sb.mono (q2M b e'));have HA:=vv D;have HB:=vv E;have a3:=vv sd;have a4:=vv se;have Z:=vv (qc6 s a b d e');have HR:ql (q14 ((lp a d).natAbs*ld b e') ((lp b e').natAbs*ld a d)=q14 (a*e') (b*d)):=by
  refine vv ?_;have e1:=q4p ha hx.pos;have e2:=q4p hb hy.pos;have f1:ld a d*a=d*(lp a d).natAbs:=by have:=e1.2.1;exact_mod_cast this
  have f2:ld b e'*b=e'*(lp b e').natAbs:=by have:=e2.2.1;exact_mod_cast this
  rw[<- q4t (d*e') _ _ (k0N hx.pos hy.pos),<- q4t (ld a d*ld b e') (a*e') (b*d) (k0N (q1q hx.pos) (q1q hy.pos))];congr 1
  ·calc d*e'*((lp a d).natAbs*ld b e')=(d*(lp a d).natAbs)*(e'*ld b e'):=by grind
    _=(ld a d*a)*(e'*ld b e'):=by rw[f1]
    _=_:=by grind
  ·calc d*e'*((lp b e').natAbs*ld a d)=(e'*(lp b e').natAbs)*(d*ld a d):=by grind
    _=(ld b e'*b)*(d*ld a d):=by rw[f2]
    _=_:=by grind
 clear hx hy ha hb D E hz a2 sa sb sd se k0 T U V W;rw[Z.o];obtain⟨R,F⟩:=yx (q14 (a*e') (b*d));have i:-1<=R/\R<=1:=by rw[F];unfold q14;(repeat' split)<;>omega
 obtain⟨i,b2⟩:=i;have wR:IntKind.i64.wrap (-R) = -R:=IntWalk.i64_in _ (by omega);rw[<- F] at HR ⊢;clear Z F;cases s
 all_goals
  simp only[k1B,k3e,k39] at C L ⊢;rcases hq with rfl|rfl;go_enter func205,ntmps205;rotate_left;go_enter func116,ntmps116;rotate_left;all_goals
   go_wp2_with fail;refine(C.o _ (by decide)).mono ?_;rintro e w' ⟨rfl,rfl⟩;go_wp2_with fail;refine(L.o _ (by decide)).mono ?_;rintro e w' ⟨rfl,rfl⟩;go_wp2_with fail;refine(C.o _ (by decide)).mono ?_;rintro e w' ⟨rfl,rfl⟩;go_wp2_with fail;refine q02 (fun w'=>w'.cell? ⟨g,1,qb⟩=qd (.slice A n c)/\w'.cell? ⟨gx,1,qb⟩=qd (.slice B m Y)) 16
    (.still 0 (.still 1 (.still 2 (.still 3 (.still 4 (.still 5 (.still 8 (.still 9 (.still 10 (.still 11 (.still 12 (.still 13 (.one 6 (.one 7 (.one 14 (.one 15 .done)))))))))))))))) ⟨q,r⟩ (fun b3=>?_)
   iterate 12
    refine q03 ?_
   refine q01 rfl (by rfl) (fun K hK=>?_);go_simp;refine((N.o _ (by decide)) _ a1.o.drew).mono ?_;rintro e w1 ⟨A1,n1,c1,rfl,i,b4,j⟩;have b5:=i.sz (a4.o.mono (q33 _ _));have a5:=vv i;have v:ql (qi w.heap.size w w1):=vv ⟨j.os,j.tape,j.output,j.size,j.block⟩;clear i j;go_wp2_with fail;refine hK.out _ _ ⟨(v.o.cell (p:=⟨g,1,qb⟩) f).trans q,(v.o.cell (p:=⟨gx,1,qb⟩) u).trans r⟩ (fun G=>?_);clear hK;refine q01 rfl (by rfl) (fun K hK=>?_);go_simp;refine(mulWords A A1 n n1 c c1 _ _ _ (HA.o.below v.o rfl) a5.o (by omega)).mono ?_;rintro e w2 t;obtain⟨A2,n2,c2,rfl,O,b6,P⟩:=t.val2;have k:=vv O;have x:=vn v P;clear O P t;go_wp2_with fail;refine hK.out _ _ ⟨(x.o.cell (p:=⟨g,1,qb⟩) f).trans q,(x.o.cell (p:=⟨gx,1,qb⟩) u).trans r⟩ (fun G=>?_);clear hK;refine q01 rfl (by rfl) (fun K hK=>?_);go_simp;refine((M.o _ (by decide)) _ (a0.o.below x.o)).mono ?_;rintro e w3 ⟨A3,n3,c3,rfl,H,b7,I⟩;have b8:=H.sz (a3.o.mono (q33 _ _));have a6:=vv H;have k:=vv (k.o.below I rfl);have y:=vn x I;clear H I;go_wp2_with fail;refine hK.out _ _ ⟨(y.o.cell (p:=⟨g,1,qb⟩) f).trans q,(y.o.cell (p:=⟨gx,1,qb⟩) u).trans r⟩ (fun G=>?_);clear hK;refine q01 rfl (by rfl) (fun K hK=>?_);go_simp;refine(mulWords B A3 m n3 Y c3 _ _ _ (HB.o.below y.o rfl) a6.o (by omega)).mono ?_;rintro e w4 t;obtain⟨A4,n4,c4,rfl,Q,b9,J⟩:=t.val2;have a7:=vv Q;have k:=vv (k.o.below J rfl);have l:=vn y J;have a8:=(l.o.cell (p:=⟨g,0,qb⟩) f).trans X;have S:g<w4.heap.size:=k03 f l.o.size;clear Q J t;go_wp2_with fail;refine hK.out _ _ ⟨(l.o.cell (p:=⟨g,1,qb⟩) f).trans q,(l.o.cell (p:=⟨gx,1,qb⟩) u).trans r⟩ (fun G=>?_);clear hK;refine q08 ?_;go_wp2_with fail;refine(cmpWords A2 A4 n2 n4 c2 c4 _ _ _ k.o a7.o (by rw[q04]) (by rw[q04])).mono ?_;rintro e w5 ⟨rfl,z⟩;rw[q04,q04,HR.o];have b0:=(z.cell (p:=⟨g,0,qb⟩) S).trans a8;have b1:g<w5.heap.size:=k03 S z.size;have a9:=vn l z;clear z;go_wp2;go_ret;exact⟨rfl,a9.o⟩
theorem CmpS(g gx:Nat)(p q:Int)(d e':Nat)(w:qf)(hx:RatAt w g p d)(hy:RatAt w gx q e')(sa:Sz p.natAbs)(sd:Sz d)(sb:Sz q.natAbs)(se:Sz e')(hq:fq=205\/fq=116:=by decide):qh qc fq #[.pointer (qd ⟨g,0,qb⟩),.pointer (qd ⟨gx,0,qb⟩)] w fun e w'=>e=.returned (.int .i64 (q2P (p*e') (q*d)))/\qi w.heap.size w w':=by
 by_cases h:p.sign≠q.sign\/p.sign=0
 ·exact cmp_mix (hq:=hq) g gx p q d e' w hx hy h
 ·rcases k11 p 0 with a|a|a<;>rcases k11 q 0 with b|b|b;all_goals
   simp only[k1a,k0M,a,b,qs,Int.reduceNeg,ne_eq,not_true_eq_false,reduceCtorEq,or_self,not_false_eq_true,or_true,true_or] at h
   try (exact absurd h (by decide))
  ·have c:p=sg qk p.natAbs:=by show p = -(p.natAbs:Int);omega
   have f:q=sg qk q.natAbs:=by show q = -(q.natAbs:Int);omega
   rw[c] at hx;rw[f] at hy;rw[c,f];exact cmp_pos (hq:=hq) g gx qk _ _ d e' w hx hy (by omega) (by omega) sa sd sb se
  ·have c:p=sg qe p.natAbs:=by show p=(p.natAbs:Int);omega
   have f:q=sg qe q.natAbs:=by show q=(q.natAbs:Int);omega
   rw[c] at hx;rw[f] at hy;rw[c,f];exact cmp_pos (hq:=hq) g gx qe _ _ d e' w hx hy (by omega) (by omega) sa sd sb se
theorem CmpR(g gx:Nat)(a b d e':Nat)(w:qf)(hx:RatAt w g (a:Int) d)(hy:RatAt w gx (b:Int) e')(sa:Sz a)(sd:Sz d)(sb:Sz b)(se:Sz e')(hq:fq=205\/fq=116:=by decide):qh qc fq #[.pointer (qd ⟨g,0,qb⟩),.pointer (qd ⟨gx,0,qb⟩)] w fun e w'=>e=.returned (.int .i64 (q14 (a*e') (b*d)))/\qi w.heap.size w w':=by
 have c:q2P ((a:Int)*e') (b*d)=q14 (a*e') (b*d):=by rw[q5G (by have:=k18 (k0k a) (k0k e');omega) (by have:=k18 (k0k b) (k0k d);omega),k1c,k1c];rfl
 rw[<- c];exact CmpS (hq:=hq) g gx a b d e' w hx hy (by rw[k08];exact sa) sd (by rw[k08];exact sb) se
end AB
namespace B
open AB
open Go Go.RowKit
def Mul:=@AB.Mul 278
def added_same:=@AB.added_same 255
def added_ge:=@AB.added_ge 255
def added_lt:=@AB.added_lt 255
def added:=@AB.added 255
end B
namespace B
open AB
open Go Go.RowKit
def Add:=@AB.Add 160
def Sub:=@AB.Sub 356
def Lsh:=@AB.Lsh 169
def Uint64:=@AB.Uint64 276
def NewInt:=@AB.NewInt 114
end B
namespace B
open AB
open Go Go.RowKit
def Cmp_ff:=@AB.Cmp_ff 113
def Cmp_tt:=@AB.Cmp_tt 113
def Cmp_ne:=@AB.Cmp_ne 113
def Cmp:=@AB.Cmp 113
def Bit0:=@AB.Bit0 325
end B
namespace B
open AB
open Go Go.RowKit
def QuoRem:=@AB.QuoRem 253
def DivMod_up:=@AB.DivMod_up 326
def DivMod_low:=@AB.DivMod_low 326
def DivMod:=@AB.DivMod 326
def Div:=@AB.Div 323
end B
namespace B
open AB
open Go Go.RowKit
def Exp:=@AB.Exp 200
end B
namespace B
open AB
open Go Go.RowKit
def below:=@AB.below 168
def SetInt:=@AB.SetInt 41
def Num:=@AB.Num 102
def Denom:=@AB.Denom 103
def RSign:=@AB.RSign 79
end B
namespace B
open AB
open Go Go.RowKit
def Rset_zero:=@AB.Rset_zero 155
def Rset_pos:=@AB.Rset_pos 155
end B
namespace B
open AB
open Go Go.RowKit
def Rset:=@AB.Rset 155
def SetFrac:=@AB.SetFrac 78
def SetInt64R:=@AB.SetInt64R 275
theorem q8C(g:Nat)(x:Int)(D:Nat)(w:qf)(h:RatSh w g)(h1:-9223372036854775808<=x)(h2:x<=9223372036854775807)(hD:0<D)(hD2:D<=9223372036854775807)(hst:Std w):qh qc 355 #[.pointer (qd ⟨g,0,qb⟩),.int .i64 x,.int .i64 (D:Int)] w (q2I g x D w):=by
 have p:=vv h;have i:=vv hst;have q:=vv fun w=>NewInt x w h1 h2
 have j:=vv fun w=>NewInt D w (by omega) (by omega)
 have k:ql (Sz x.natAbs):=vv (Sz.small (by omega));have l:ql (Sz D):=vv (Sz.small (by omega));clear h hst h1 h2 hD2;go_enter func355,ntmps355;go_wp2_with fail;refine(q.o _).mono ?_;rintro e F ⟨r,rfl,C,c,d⟩;have s:=vv c;have t:=vv d;clear c d;go_wp2_with fail;refine(j.o _).mono ?_;rintro e G ⟨u,rfl,E,f,a⟩;have m:=vv (s.o.below a);have n:=vv f;have b:=vn t a;clear f a;go_wp2_with fail;refine(SetFrac g r u x D _ (p.o.below b.o) m.o n.o hD (i.o.fs (Fs.of_nil b.o)) k.o l.o).mono ?_;rintro e H ⟨rfl,v,y⟩;have z:=vv v;go_wp2;go_ret;exact⟨rfl,z.o,y.after b.o⟩
theorem NewRat(x:Int)(D:Nat)(w:qf)(h1:-9223372036854775808<=x)(h2:x<=9223372036854775807)(hD:0<D)(hD2:D<=9223372036854775807)(hst:Std w):qh qc 324 #[.int .i64 x,.int .i64 (D:Int)] w (q2Q x D w):=by
 have c:=vv hst;clear hst;go_enter func324,ntmps324;go_wp2_with fail;have a:ql (∀t,qi w.heap.size w (w.alloc (.cells #[.bool qe,.slice qb 0 0,.slice qb 0 0] t))):=vv fun t=>(qg _ w).alloc lr _
 refine(q8C _ x D _ (RatAt.zero w 87).sh h1 h2 hD hD2 (c.o.fs (Fs.of_nil (a.o _)))).mono ?_;rintro e h b;have d:=b.below (a.o _) (by simp) lr;obtain⟨rfl,f,i⟩:=b;have g:=vv f;go_wp2;go_ret;exact⟨_,rfl,lr,g.o,d⟩
theorem qeH(g gx:Nat)(p:Int)(d:Nat)(w:qf)(h:RatSh w g)(hx:RatAt w gx p d):qh qc 165 #[.pointer (qd ⟨g,0,qb⟩),.pointer (qd ⟨gx,0,qb⟩)] w (q2I g p d w):=by
 have E:=vv h;have F:=vv hx.num;have j:=vv hx.pos;have M:=hx.lt;obtain⟨v,k⟩:=h.int;have N:=k.lt;have r:=vv k;obtain⟨A,n,c,Q,s⟩:=hx.den;obtain⟨R,t,m⟩:=s.rd;have G:=vv m;have l:=vv t;clear h hx k s t m;go_enter func165,ntmps165;go_wp2_with fail;refine(copied _ _ _ _ _ l.o).mono ?_;rintro e H ⟨rfl,u,q⟩;have I:=vv (q1I.of_copy (u.rd l.o.len.symm lr l.o.sm) G.o (fun a e=>by cases e;rfl));have i:=vv q;clear u q;go_wp2_with fail;refine q02 (fun _=>True) 6
  (.still 0 (.still 1 (.still 2 (.still 3 (.still 4 (.still 5 .done)))))) trivial (fun z=>?_)
 clear z
 iterate 6
  refine q03 ?_
 refine q08 ?_;go_wp2_with fail;refine(Set g 0 gx 0 v _ _ (r.o.below i.o).drew (F.o.below i.o).drew).mono ?_;rintro e S b;have b:=b.f (r.o.below i.o).drew;have J:RatSh H.drew g:=(E.o.below i.o).like rfl;have K:=vv (J.num b);have L:=vv (b.2.2.undrew.after i.o);have C:=vv (I.o.fs b.2.2.undrew);obtain⟨rfl,-,-⟩:=b;obtain⟨hi,x,hx⟩:=K.o;have O:=hi.lt;have P:=hi.fz 2;have y:=vv hi;have D:=vv hx;clear hi;go_wp2;go_ret;exact⟨rfl,RatAt.made y.o ⟨x,D.o⟩ C.o j.o (q1q j.o) (q2j j.o) (q0N p d),fs3 (L.o.trans (Fs.set2 y.o _))⟩
theorem NegR(g gx:Nat)(p:Int)(d:Nat)(w:qf)(h:RatSh w g)(hx:RatAt w gx p d):qh qc 81 #[.pointer (qd ⟨g,0,qb⟩),.pointer (qd ⟨gx,0,qb⟩)] w (q2I g (-p) d w):=by
 have t:=vv (qeH g gx p d w h hx);have u:=vv hx.pos;clear h hx;go_enter func81,ntmps81;go_wp2_with fail;refine t.o.mono ?_;rintro e C ⟨rfl,f,r⟩;obtain⟨A,n,c,s,c1,m,i⟩:=f.num.ex;have v:=f.lt;have x:=f.num.fz 0;have b:=m.words;have y:=m.sm;have a:=vv (f.resign (-p) (Int.natAbs_neg _));have q:=vv r;have j:=q2D (p:=p) u.o;have l:=q2N (p:=p) (d:=d);clear f r m i;by_cases hp:p<0
 ·rw[k04 (j.2 hp)] at s;rw[k02 (p:=-p<0) (by omega)] at a;clear j l hp b;go_wp2;go_ret;exact⟨rfl,a.o.1,(q.o.trans a.o.2).drop (fun p hp _=>by simpa using hp) (fun p hp=>by simpa using hp)⟩
 ·rw[k02 (fun k=>hp (j.1 k))] at s;by_cases i:p=0
  ·obtain rfl:n=0:=by rw[<- b,q06,l.2 i];rfl
   rw[k02 (p:=-p<0) (by omega)] at a;clear j l hp b i;go_wp2;go_ret;exact⟨rfl,a.o.1,(q.o.trans a.o.2).drop (fun p hp _=>by simpa using hp) (fun p hp=>by simpa using hp)⟩
  ·have z:qa (0<n)=qk:=by
    rw[k2s];rcases k01 n with e|e
    ·rw[e] at b;have:=q06.1 b;omega
    ·exact e
   rw[k04 (p:=-p<0) (by omega)] at a;clear j l hp b i;go_wp2;go_ret;exact⟨rfl,a.o.1,(q.o.trans a.o.2).drop (fun p hp _=>by simpa using hp) (fun p hp=>by simpa using hp)⟩
end B
namespace B
open AB
open Go Go.RowKit
def Inv:=@AB.Inv 170
def times_zero:=@AB.times_zero 167
def times_pos:=@AB.times_pos 167
def times:=@AB.times 167
end B
namespace B
open AB
open Go Go.RowKit
def MulR:=@AB.MulR 83
end B
namespace B
open AB
open Go Go.RowKit
def added_:=@AB.added_ 171
def sub_:=@AB.sub_ 171
def SubR:=@AB.SubR 163
end B
namespace B
open AB
open Go Go.RowKit
def cmp_mix:=@AB.cmp_mix 116
def cmp_pos:=@AB.cmp_pos 116
def CmpS:=@AB.CmpS 116
def CmpR:=@AB.CmpR 116
end B
namespace R5
open Go Go.RowKit
abbrev fm(E F:Int):Value:=.agg #[.int .i64 E,.int .i64 F]
theorem q9d(h:k<=62):(1:Int)<=2^k/\(2:Int)^k<=4611686018427387904:=by
 have b:(2:Nat)^k<=2^62:=k00 (by omega) h;have c:=k0a k;have a:((2^k:Nat):Int)=(2:Int)^k:=by rw[k0C];rfl
 rw[<- a];omega
theorem q8O(h2:E<=11):wrap64 (wrap64 (2^(E-1))-1)=q1p E:=by have h:=q9d (k:=E-1) (by omega);unfold wrap64 q1p;omega
theorem wu_pow(h:k<=63):IntKind.u64.wrap (2^k)=((2^k:Nat):Int):=by
 have b:(2:Nat)^k<=2^63:=k00 (by omega) h;have a:((2^k:Nat):Int)=(2:Int)^k:=by rw[k0C];rfl
 rw[<- a,qp];have:=k0a k;omega
theorem Bias(E:Nat)(F:Int)(w:qf)(h1:2<=E)(h2:E<=11):qh qc 85 #[fm E F] w fun e w'=>e=.returned (.int .i64 (q1p E))/\qi w.heap.size w w':=by go_enter func85,ntmps85;go_wp2;go_ret;exact⟨q0X (q8O h2),(qg _ _).alloc lr _⟩
theorem Sign(E F:Nat)(w:qf)(h1:2<=E)(h2:E<=11)(h3:1<=F)(h4:F<=52):qh qc 87 #[fm E F] w fun e w'=>e=.returned (.int .u64 ((2^(E+F):Nat):Int))/\qi w.heap.size w w':=by go_enter func87,ntmps87;go_wp2;go_ret;exact⟨q0X (wu_pow (by omega)),(qg _ _).alloc lr _⟩
theorem RatAt.one2(h:RatAt w g ((1:Int)*2^k) 1):RatAt w g ((2^k:Nat):Int) 1:=by
 have e:(1:Int)*2^k=((2^k:Nat):Int):=by rw[Int.one_mul,k0C];rfl
 rwa [e] at h
theorem q8r(k:Nat):bl (2^k)=k+1:=qcN (by rw[k0d];have:=k0a k;omega) (by rw[k0T];exact lr) (by omega)
theorem q9c(k:Nat)(w:qf)(hk:k<=4294967295):qh qc 84 #[.int .i64 (k:Int)] w (q2Q ((2^k:Nat):Int) 1 w):=by
 have j:ql (∀(w:qf) t,qi w.heap.size w (w.alloc (.cells #[.bool qe,.slice qb 0 0] t))):=vv fun w t=>(qg _ w).alloc lr _
 have x:ql (∀(w:qf) t,qi w.heap.size w (w.alloc (.cells #[.bool qe,.slice qb 0 0,.slice qb 0 0] t))):=vv fun w t=>(qg _ w).alloc lr _
 have l:=vv (RatAt.zero w 87);obtain⟨g,c⟩:=yx (w.alloc (.cells #[.bool qe,.slice qb 0 0,.slice qb 0 0] 87));have h:=x.o w 87;rw[<- c] at h l;have m:=vv h;have n:g.heap.size=w.heap.size+1:=by rw[c];simp
 have p:=vv (IntAt.zero g 82);rw[n] at p;have E:=vv c;clear c h n;have H:max (k:Int) (-(k:Int))=(k:Int):=by omega
 go_enter func84,ntmps84;go_wp2_with fail;rw[<- E.o];have b:=vv (m.o.trans ((j.o g 82).mono m.o.size));have i:=vv (l.o.below (j.o g 82));refine(B.NewInt 1 _ (by omega) (by omega)).mono ?_;rintro e J ⟨F,rfl,I,q,d⟩;have y:=vv q;have r:=vv (p.o.below d);have i:=vv (i.o.below d);have s:=b.o.trans (d.mono b.o.size);have b:=vv s;clear q d s;go_wp2_with fail;refine(B.Lsh _ 0 F 0 k 0 1 _ r.o y.o (by exact Sz.small (by decide)) (by omega)).mono ?_;rintro e K a;have a:=a.f r.o;have z:=vv a.2.1;have C:=vv (i.o.fs1 a.2.2 (by omega));have u:=vv (a.below b.o b.o.size (by omega));obtain⟨rfl,-,-⟩:=a;go_wp2_with fail;refine(B.SetInt w.heap.size (w.heap.size+1) _ _ C.o.sh z.o).mono ?_;rintro e L a;have D:=vv (a.below u.o u.o.size lr);obtain⟨rfl,v,-⟩:=a;have G:=vv (RatAt.one2 v);clear v;go_wp2;go_ret;exact⟨_,rfl,lr,G.o,D.o⟩
theorem q6G(k:Nat)(w:qf)(hk:k<=4294967295)(h0:0<k):qh qc 84 #[.int .i64 (-(k:Int))] w (q2Q 1 (2^k) w):=by
 have m:ql (∀(w:qf) t,qi w.heap.size w (w.alloc (.cells #[.bool qe,.slice qb 0 0] t))):=vv fun w t=>(qg _ w).alloc lr _
 have z:ql (∀(w:qf) t,qi w.heap.size w (w.alloc (.cells #[.bool qe,.slice qb 0 0,.slice qb 0 0] t))):=vv fun w t=>(qg _ w).alloc lr _
 have n:=vv (RatAt.zero w 87);obtain⟨h,d⟩:=yx (w.alloc (.cells #[.bool qe,.slice qb 0 0,.slice qb 0 0] 87));have j:=z.o w 87;rw[<- d] at j n;have p:=vv j;have q:h.heap.size=w.heap.size+1:=by rw[d];simp
 have r:=vv (IntAt.zero h 82);rw[q] at r;have G:=vv d;clear d j q;have I:-(-(k:Int))=(k:Int):=by omega
 have J:max (-(k:Int)) (k:Int)=(k:Int):=by omega
 have K:-(k:Int)<0:=by omega
 go_enter func84,ntmps84;go_wp2_with fail;rw[<- G.o];have b:=vv (p.o.trans ((m.o h 82).mono p.o.size));have l:=vv (n.o.below (m.o h 82));refine(B.NewInt 1 _ (by omega) (by omega)).mono ?_;rintro e M ⟨H,rfl,L,s,g⟩;have C:=vv s;have u:=vv (r.o.below g);have l:=vv (l.o.below g);have v:=b.o.trans (g.mono b.o.size);have b:=vv v;clear s g v;go_wp2_with fail;refine(B.Lsh _ 0 H 0 k 0 1 _ u.o C.o (by exact Sz.small (by decide)) (by omega)).mono ?_;rintro e N a;have a:=a.f u.o;have D:=vv a.2.1;have E:=vv (l.o.fs1 a.2.2 (by omega));have x:=vv (a.below b.o b.o.size (by omega));obtain⟨rfl,-,-⟩:=a;go_wp2_with fail;refine(B.SetInt w.heap.size (w.heap.size+1) _ _ E.o.sh D.o).mono ?_;rintro e O a;have y:=vv (a.below x.o x.o.size lr);obtain⟨rfl,c,-⟩:=a;have i:=vv (RatAt.one2 c);clear c;go_wp2_with fail;refine(B.Inv w.heap.size w.heap.size (2^k) 1 _ i.o.sh i.o (k0a k)).mono ?_;rintro e P a;have F:=vv (a.below y.o y.o.size lr);obtain⟨rfl,c,-⟩:=a;have i:=vv c;clear c;go_wp2;go_ret;exact⟨_,rfl,lr,i.o,F.o⟩
theorem qaI(n:Int)(w:qf)(h1:-4294967295<=n)(h2:n<=4294967295):qh qc 84 #[.int .i64 n] w (q2Q ((p2 n:Nat):Int) (p2 (-n)) w):=by
 rcases k23 n 0 with h|h
 ·obtain⟨k,rfl⟩:∃k:Nat,n = -(k:Int):=⟨n.natAbs,by omega⟩;rw[q0s (n:=-(k:Int)) (by omega),show -(-(k:Int))=k by omega,q1D];exact q6G k w (by omega) (by omega)
 ·obtain⟨k,rfl⟩:∃k:Nat,n=(k:Int):=⟨n.natAbs,by omega⟩;rw[q0s (n:=-(k:Int)) (by omega),q1D];exact q9c k w (by omega)
theorem Sm.p2{n:Int}(h:n<=4294967295):Sm (p2 n):=by unfold Sm;unfold Go.Proofs.YtabcgemembkkcaaGreatDoor.p2;rw[q8r];omega
theorem q5v(hb:0<b):((lp (a:Int) b).natAbs:Int)=lp (a:Int) b:=by have:=q2D (p:=(a:Int)) hb;omega
theorem RatAt.kept(h:RatAt w g (a:Int) b):RatAt w g (((lp (a:Int) b).natAbs:Nat):Int) (ld (a:Int) b):=h.cross (q1q h.pos) (by rw[q5v h.pos];exact(q0N _ _).symm)
theorem q3X(hb:0<b):a*ld (a:Int) b=(lp (a:Int) b).natAbs*b:=by
 have h:=q0N (a:Int) b;rw[<- q5v hb] at h
 exact_mod_cast h.symm
theorem q9p(ha:0<a)(hb:0<b):0<(lp (a:Int) b).natAbs:=(q4p ha hb).2.2
theorem qed(g a b:Nat)(w:qf)(h:RatAt w g (a:Int) b):qh qc 102 #[.pointer (qd ⟨g,0,qb⟩)] w (q0W ((lp (a:Int) b).natAbs:Nat) w):=by rw[q5v h.pos];exact B.Num g _ _ w h
theorem qeu(g N D:Nat)(w:qf)(hx:RatAt w g (N:Int) D)(hN:∀w',qi w.heap.size w w'->qh qc 102 #[.pointer (qd ⟨g,0,qb⟩)] w' (q0W (N:Int) w'))
  (hD:∀w',qi w.heap.size w w'->qh qc 103 #[.pointer (qd ⟨g,0,qb⟩)] w' (q0W (D:Int) w')) (ha:0<N) (sa:Sm N) (sb:Sm D) :
  qh qc 193 #[.pointer (qd ⟨g,0,qb⟩)] w fun e w'=>e=.returned (.int .i64 (q1K N D))/\qi w.heap.size w w':=by
 have a:=hx.pos;have b:=vv (q80 (e:=(bl N:Int)-bl D) ha a rfl);have H:=vv hx;have I:=vv hN;have J:=vv hD;have P:bl N<=4294967296:=sa;have Q:bl D<=4294967296:=sb;have R:=q3A a;have S:=q3A ha;have x:=vv sa.sz;have y:=vv sb.sz;obtain⟨n,c⟩:=yx ((bl N:Int)-bl D);have K:=vv fun w=>qaI n w (by omega) (by omega)
 have h:ql (Sz (p2 n)/\Sz (p2 (-n))):=vv ⟨(Sm.p2 (by omega)).sz,(Sm.p2 (by omega)).sz⟩;rw[<- c] at b;have T:-4294967296<=n:=by omega
 have U:n<=4294967296:=by omega
 have z:=vv c;clear hx sa sb a hN hD ha c;go_enter func193,ntmps193;go_wp2_with fail;refine(I.o _ (qg _ _)).mono ?_;rintro e Y ⟨L,rfl,V,i,j⟩;have C:=vv i;have k:=vv j;clear i j;go_wp2_with fail;refine(B.BitLen L 0 _ _ C.o).mono ?_;rintro e w' ⟨rfl,rfl⟩;go_wp2_with fail;refine(J.o _ k.o).mono ?_;rintro e Z ⟨M,rfl,W,l,m⟩;have E:=vv l;have F:=vn k m;clear l m;go_wp2_with fail;refine(B.BitLen M 0 _ _ E.o).mono ?_;rintro e w' ⟨rfl,rfl⟩;go_wp2_with fail;rw[<- z.o];refine(K.o _).mono ?_;rintro e w3 ⟨O,rfl,X,p,q⟩;have G:=vv p;have r:=vn F q;clear p q;go_wp2_with fail;refine(B.CmpR O g _ N _ D _ G.o (H.o.below r.o) h.o.1 h.o.2 x.o y.o).mono ?_;rintro e w4 ⟨rfl,s⟩;have u:=vn r s;clear s;by_cases hc:N*p2 (-n)<D*p2 n
 ·have v:q14 (p2 n*D) (N*p2 (-n))=1:=q2p (by rw[k0g (p2 n)];exact hc);rw[v];have d:ql (q1K N D=n-1):=vv (by rw[b.o,k0p hc]);clear v hc;go_wp2;go_ret;exact⟨q0X d.o.symm,u.o⟩
 ·obtain⟨t,f⟩:=yx (q14 (p2 n*D) (N*p2 (-n)));have hd:qa (0<t)=qe:=by rw[k1i,f,q4Y,k0g (p2 n)];exact hc
  rw[<- f];have d:ql (q1K N D=n):=vv (by rw[b.o,k0r hc]);clear f hc;go_wp2;go_ret;exact⟨q0X d.o.symm,u.o⟩
theorem log(g a b:Nat)(w:qf)(hx:RatAt w g (a:Int) b)(ha:0<a)(sa:Sm a)(sb:Sm b):qh qc 193 #[.pointer (qd ⟨g,0,qb⟩)] w fun e w'=>e=.returned (.int .i64 (q1K a b))/\qi w.heap.size w w':=by have c:=hx.pos;have d:q1K a b=q1K (lp (a:Int) b).natAbs (ld (a:Int) b):=q6K ha c (q1q c) (q3X c);rw[d];exact qeu g _ _ w (RatAt.kept hx) (fun w' hw=>qed g a b w' (hx.below hw)) (fun w' hw=>B.Denom g _ _ w' (hx.below hw)) (q9p ha c) (sa.mono (q2M _ _)) (sb.mono (q33 _ _))
abbrev q5o:Obj:=.cells #[.bool qe,.slice qb 0 0,.slice qb 0 0] 87
abbrev qd8:Obj:=.cells #[.bool qe,.slice qb 0 0] 82
theorem q4j(w:qf):RatAt (w.alloc q5o) w.heap.size 0 1/\qi w.heap.size w (w.alloc q5o):=⟨RatAt.zero w _,(qg _ w).alloc lr _⟩
theorem q5q(w:qf):IntAt (w.alloc qd8) w.heap.size 0 0/\qi w.heap.size w (w.alloc qd8):=⟨IntAt.zero w _,(qg _ w).alloc lr _⟩
theorem q8T(w:qf):RatAt ((w.alloc q5o).alloc q5o) w.heap.size 0 1/\RatAt ((w.alloc q5o).alloc q5o) (w.heap.size+1) 0 1/\qi w.heap.size w ((w.alloc q5o).alloc q5o):=by
 obtain⟨d,a⟩:=q4j w;obtain⟨b,c⟩:=q4j (w.alloc q5o);have e:(w.alloc q5o).heap.size=w.heap.size+1:=by simp
 rw[e] at b;exact⟨d.below c,b,a.trans (c.mono a.size)⟩
def q2n(neg:Bool)(mode N D:Nat):Bool:=q37 neg mode (qa (N/D%2=1)) (q14 (2*(N%D)) D)
theorem qbF(g N D:Nat)(neg:Bool)(mode:Nat)(w:qf)(hx:RatAt w g (N:Int) D)(hN:∀w',qi w.heap.size w w'->qh qc 102 #[.pointer (qd ⟨g,0,qb⟩)] w' (q0W (N:Int) w'))
  (hD:∀w',qi w.heap.size w w'->qh qc 103 #[.pointer (qd ⟨g,0,qb⟩)] w' (q0W (D:Int) w')) (sa:Sm N) (sb:Sm D) (hst:Std w) (hm:mode<=4) :
  qh qc 274 #[.pointer (qd ⟨g,0,qb⟩),.bool neg,.int .u8 (mode:Int)] w (q0W ((rnd neg mode N D:Nat):Int) w):=by
 have hd:=hx.pos;have HX:=vv hx;have a8:=vv hN;have a9:=vv hD;have b3:=vv hst;have b4:=vv sa;have b5:=vv sb;have f3:=hx.lt;have d6:=k0i N hd;have b6:=k0q N D;have b7:=k0F N D;have b8:ql (Sm (N/D)):=vv (sa.mono b6);have d7:ql (Sm (N%D)):=vv (sb.mono (by omega));have d8:ql ((N:Int)/(D:Int)=((N/D:Nat):Int)):=vv (by rw[k1n]);have d9:=vv hd;have a1:ql ((N:Int)*((1:Nat):Int)-((N/D:Nat):Int)*(D:Nat)=((N%D:Nat):Int)/\D*1=D):=vv ⟨by
  have:((D*(N/D)+N%D:Nat):Int)=N:=by rw[b7]
  rw[k1o,k0f,k2J] at this;rw[Int.natCast_one,k3c,<- this];omega,k0G _⟩
 have H1:ql (N%D=0->rnd neg mode N D=N/D):=vv fun h=>by unfold rnd;rw[k0p h]
 have S:ql (N%D≠0->q2n neg mode N D=qk->rnd neg mode N D=N/D+1):=vv fun h k=>by unfold rnd;rw[k0r h];exact k0p k
 have Q:ql (N%D≠0->q2n neg mode N D=qe->rnd neg mode N D=N/D):=vv fun h k=>by unfold rnd;rw[k0r h];exact k0r (by unfold q2n at k;rw[k];decide)
 have HM:=vv hm;clear hx hN hD hst sa sb hd d6 b6 b7 hm;go_enter func274,ntmps274;go_wp2_with fail;obtain⟨M,K⟩:=q5q w;obtain⟨w0,b9⟩:=yx (w.alloc qd8);rw[<- b9] at M K ⊢;have e0:=vv M;have c2:=vv K;have f0:=K.size;clear M K b9;refine(a8.o _ c2.o).mono ?_;rintro e w1 ⟨g1,rfl,f4,c3,a3⟩;have a4:=vv c3;have e1:=vv (e0.o.below a3);have c4:=vn c2 a3;clear c3 a3;go_wp2_with fail;refine(a9.o _ c4.o).mono ?_;rintro e w2 ⟨g2,rfl,f5,c5,U⟩;have e2:=vv c5;have a4:=vv (a4.o.below U);have e3:=vv (e1.o.below U);have c6:=vn c4 U;clear c5 U;go_wp2_with fail;refine(B.Div w.heap.size 0 g1 0 g2 0 _ _ _ _ e3.o a4.o e2.o (by have:=d9.o;omega) b4.o.sz).mono ?_;rintro e L j;have j:q75 w.heap.size 0 ((N:Int)/(D:Int)) w2 e L:=j;have c7:=vv (j.below c6.o c6.o.size lr);obtain⟨rfl,V,-⟩:=j;rw[d8.o] at V;have e4:=vv V;have f1:=c7.o.size;have f2:=V.lt;clear V;go_wp2_with fail;obtain⟨M,K,z3⟩:=q8T L;obtain⟨w4,c8⟩:=yx ((L.alloc q5o).alloc q5o);rw[<- c8] at M K z3 ⊢;have b0:=vv M;have b1:=vv K;have c9:=vv (e4.o.below z3);have d0:=vn c7 z3;clear M K z3 c8;refine(B.SetInt (L.heap.size+1) w.heap.size _ _ b1.o.sh c9.o).mono ?_;rintro e w5 j;have e5:=vv (c9.o.fs1 j.2.2 (by omega));have b2:=vv (b0.o.fs1 j.2.2 (by omega));have W:=vv (j.below d0.o d0.o.size (by omega));obtain⟨rfl,d1,-⟩:=j;have e6:=vv d1;clear d1;go_wp2_with fail;refine(B.SubR L.heap.size g (L.heap.size+1) (N:Int) ((N/D:Nat):Int) D 1 _ b2.o.sh (HX.o.below W.o) e6.o (b3.o.fs (Fs.of_nil W.o)) (by exact b4.o) b5.o (by exact b8.o) (by unfold Sm;decide)).mono ?_;rintro e w6 j;rw[a1.o.1,a1.o.2] at j;have d2:=vv (e5.o.fs1 j.2.2 (by omega));have a5:=vv (j.below W.o W.o.size (by omega));obtain⟨rfl,d3,-⟩:=j;have X:=vv d3;clear d3;go_wp2_with fail;refine(B.RSign L.heap.size _ _ _ X.o).mono ?_;rintro e w' ⟨rfl,rfl⟩;by_cases h0:N%D=0
 ·have d:=vv (H1.o h0);have T:((N%D:Nat):Int).sign=0:=by rw[h0];rfl
  rw[T];clear h0 T;go_wp2;go_ret;exact⟨_,rfl,lr,by rw[d.o];exact d2.o,a5.o⟩
 have T:((N%D:Nat):Int).sign=1:=k0M (by omega);rw[T];have s:=vv h0;clear h0 T;go_wp2_with fail;refine(B.NewRat 1 2 _ (by omega) (by omega) (by omega) (by omega) (b3.o.fs (Fs.of_nil a5.o))).mono ?_;rintro e w7 ⟨g7,rfl,f6,d4,Y⟩;have e7:=vv d4;have X:=vv (X.o.below Y);have e8:=vv (d2.o.below Y);have e9:=vn a5 Y;clear d4 Y;go_wp2_with fail;refine(B.CmpR L.heap.size g7 (N%D) 1 D 2 _ X.o e7.o d7.o.sz b5.o.sz (by unfold Sz;decide) (by unfold Sz;decide)).mono ?_;rintro e w8 ⟨rfl,a6⟩;have t:=vv (e8.o.below a6);have J:=vn e9 a6;clear a6;have b:q14 (N%D*2) (1*D)=q14 (2*(N%D)) D:=by rw[k0g,k0S]
 rw[b];clear b;have hm:=HM.o;have q:ql (q2n neg mode N D=q37 neg mode (qa (N/D%2=1)) (q14 (2*(N%D)) D)):=vv rfl;have r:=q8n (2*(N%D)) D;have HO:=vv (k0U (N/D));have a0:=vv (B.Bit0 w.heap.size 0 _ _ t.o);have R:ql (∀G H,qi w8.heap.size w8 G->IntAt G H 0 1->qh qc 160 #[.pointer (qd ⟨w.heap.size,0,qb⟩),.pointer (qd ⟨w.heap.size,0,qb⟩),.pointer (qd ⟨H,0,qb⟩)] G fun e w'=>e=.returned (.pointer (qd ⟨w.heap.size,0,qb⟩))/\IntAt w' w.heap.size 0 ((N/D+1:Nat):Int)/\qi w.heap.size w w'):=by
  refine vv fun G H hb h9=>?_
  refine(B.Add w.heap.size 0 w.heap.size 0 H 0 _ _ _ _ (t.o.below hb) (t.o.below hb) h9 (by exact b8.o.sz) (by unfold Sz;decide)).mono ?_;rintro e w' j;have j:=j.f (t.o.below hb);have d5:=J.o.trans (hb.mono J.o.size);exact⟨j.1,j.2.1,j.below d5 d5.size lr⟩
 rw[k08] at a0;generalize q14 (2*(N%D)) D=c at *
 rcases(by omega:mode=0/\c=1\/mode=0/\c = -1\/mode=0/\c=0\/mode=1/\0<=c\/mode=1/\c<0\/mode=2\/mode=3\/mode=4) with ⟨a,b⟩|⟨a,b⟩|⟨a,b⟩|⟨a,b⟩|⟨a,b⟩|a|a|a
 ·
  have u:((mode:Int)==0)=qk:=by rw[a];rfl
  have v:((mode:Int)==1)=qe:=by rw[a];rfl
  have x:((mode:Int)==2)=qe:=by rw[a];rfl
  have y:((mode:Int)==3)=qe:=by rw[a];rfl
  have z:((mode:Int)==4)=qe:=by rw[a];rfl
  have i:ql (q2n neg mode N D=qk):=vv (by rw[q.o,a,b];rfl);have O:qa (0<c)=qk:=by rw[b];rfl
  clear b;clear a hm r;have d:=vv (S.o s.o i.o);go_wp2_with fail;refine(B.NewInt 1 _ (by omega) (by omega)).mono ?_;rintro e G ⟨H,rfl,Z,l,m⟩;have C:=vv l;have E:=vv m;clear l m;go_wp2_with fail;refine(R.o _ _ E.o C.o).mono ?_;rintro e a2 ⟨rfl,n,p⟩;have I:=vv n;have F:=vv p;clear n p;go_wp2;go_ret;exact⟨_,rfl,lr,by rw[d.o];exact I.o,F.o⟩
 ·
  have u:((mode:Int)==0)=qk:=by rw[a];rfl
  have v:((mode:Int)==1)=qe:=by rw[a];rfl
  have x:((mode:Int)==2)=qe:=by rw[a];rfl
  have y:((mode:Int)==3)=qe:=by rw[a];rfl
  have z:((mode:Int)==4)=qe:=by rw[a];rfl
  have i:ql (q2n neg mode N D=qe):=vv (by rw[q.o,a,b];rfl);have O:qa (0<c)=qe:=by rw[b];rfl
  have c1:(c==0)=qe:=by rw[b];rfl
  clear b;clear a hm r;have d:=vv (Q.o s.o i.o);go_wp2;go_ret;exact⟨_,rfl,lr,by rw[d.o];exact t.o,J.o⟩
 ·rcases HO.o with P|P
  ·
   have u:((mode:Int)==0)=qk:=by rw[a];rfl
   have v:((mode:Int)==1)=qe:=by rw[a];rfl
   have x:((mode:Int)==2)=qe:=by rw[a];rfl
   have y:((mode:Int)==3)=qe:=by rw[a];rfl
   have z:((mode:Int)==4)=qe:=by rw[a];rfl
   have i:ql (q2n neg mode N D=qe):=vv (by rw[q.o,a,b,P];rfl);have O:qa (0<c)=qe:=by rw[b];rfl
   have c1:(c==0)=qk:=by rw[b];rfl
   have a7:=vv P;clear b P;clear a hm r;have d:=vv (Q.o s.o i.o);go_wp2_with fail;refine a0.o.mono ?_;rintro e w' ⟨rfl,rfl⟩;rw[a7.o];go_wp2_with fail;go_wp2;go_ret;exact⟨_,rfl,lr,by rw[d.o];exact t.o,J.o⟩
  ·
   have u:((mode:Int)==0)=qk:=by rw[a];rfl
   have v:((mode:Int)==1)=qe:=by rw[a];rfl
   have x:((mode:Int)==2)=qe:=by rw[a];rfl
   have y:((mode:Int)==3)=qe:=by rw[a];rfl
   have z:((mode:Int)==4)=qe:=by rw[a];rfl
   have i:ql (q2n neg mode N D=qk):=vv (by rw[q.o,a,b,P];rfl);have O:qa (0<c)=qe:=by rw[b];rfl
   have c1:(c==0)=qk:=by rw[b];rfl
   have a7:=vv P;clear b P;clear a hm r;have d:=vv (S.o s.o i.o);go_wp2_with fail;refine a0.o.mono ?_;rintro e w' ⟨rfl,rfl⟩;rw[a7.o];go_wp2_with fail;refine(B.NewInt 1 _ (by omega) (by omega)).mono ?_;rintro e G ⟨H,rfl,Z,l,m⟩;have C:=vv l;have E:=vv m;clear l m;go_wp2_with fail;refine(R.o _ _ E.o C.o).mono ?_;rintro e a2 ⟨rfl,n,p⟩;have I:=vv n;have F:=vv p;clear n p;go_wp2;go_ret;exact⟨_,rfl,lr,by rw[d.o];exact I.o,F.o⟩
 ·
  have u:((mode:Int)==0)=qe:=by rw[a];rfl
  have v:((mode:Int)==1)=qk:=by rw[a];rfl
  have x:((mode:Int)==2)=qe:=by rw[a];rfl
  have y:((mode:Int)==3)=qe:=by rw[a];rfl
  have z:((mode:Int)==4)=qe:=by rw[a];rfl
  have O:qa (0<=c)=qk:=k04 b;have i:ql (q2n neg mode N D=qk):=vv (by rw[q.o,a];exact O);clear b;clear a hm r;have d:=vv (S.o s.o i.o);go_wp2_with fail;refine(B.NewInt 1 _ (by omega) (by omega)).mono ?_;rintro e G ⟨H,rfl,Z,l,m⟩;have C:=vv l;have E:=vv m;clear l m;go_wp2_with fail;refine(R.o _ _ E.o C.o).mono ?_;rintro e a2 ⟨rfl,n,p⟩;have I:=vv n;have F:=vv p;clear n p;go_wp2;go_ret;exact⟨_,rfl,lr,by rw[d.o];exact I.o,F.o⟩
 ·
  have u:((mode:Int)==0)=qe:=by rw[a];rfl
  have v:((mode:Int)==1)=qk:=by rw[a];rfl
  have x:((mode:Int)==2)=qe:=by rw[a];rfl
  have y:((mode:Int)==3)=qe:=by rw[a];rfl
  have z:((mode:Int)==4)=qe:=by rw[a];rfl
  have O:qa (0<=c)=qe:=k02 (by omega);have i:ql (q2n neg mode N D=qe):=vv (by rw[q.o,a];exact O);clear b;clear a hm r;have d:=vv (Q.o s.o i.o);go_wp2;go_ret;exact⟨_,rfl,lr,by rw[d.o];exact t.o,J.o⟩
 ·
  have u:((mode:Int)==0)=qe:=by rw[a];rfl
  have v:((mode:Int)==1)=qe:=by rw[a];rfl
  have x:((mode:Int)==2)=qk:=by rw[a];rfl
  have y:((mode:Int)==3)=qe:=by rw[a];rfl
  have z:((mode:Int)==4)=qe:=by rw[a];rfl
  have i:ql (q2n neg mode N D=qe):=vv (by rw[q.o,a];rfl);clear a hm r;have d:=vv (Q.o s.o i.o);go_wp2;go_ret;exact⟨_,rfl,lr,by rw[d.o];exact t.o,J.o⟩
 ·cases neg
  ·
   have u:((mode:Int)==0)=qe:=by rw[a];rfl
   have v:((mode:Int)==1)=qe:=by rw[a];rfl
   have x:((mode:Int)==2)=qe:=by rw[a];rfl
   have y:((mode:Int)==3)=qk:=by rw[a];rfl
   have z:((mode:Int)==4)=qe:=by rw[a];rfl
   have i:ql (q2n _ mode N D=qk):=vv (by rw[q.o,a];rfl);clear a hm r;have d:=vv (S.o s.o i.o);go_wp2_with fail;refine(B.NewInt 1 _ (by omega) (by omega)).mono ?_;rintro e G ⟨H,rfl,Z,l,m⟩;have C:=vv l;have E:=vv m;clear l m;go_wp2_with fail;refine(R.o _ _ E.o C.o).mono ?_;rintro e a2 ⟨rfl,n,p⟩;have I:=vv n;have F:=vv p;clear n p;go_wp2;go_ret;exact⟨_,rfl,lr,by rw[d.o];exact I.o,F.o⟩
  ·
   have u:((mode:Int)==0)=qe:=by rw[a];rfl
   have v:((mode:Int)==1)=qe:=by rw[a];rfl
   have x:((mode:Int)==2)=qe:=by rw[a];rfl
   have y:((mode:Int)==3)=qk:=by rw[a];rfl
   have z:((mode:Int)==4)=qe:=by rw[a];rfl
   have i:ql (q2n _ mode N D=qe):=vv (by rw[q.o,a];rfl);clear a hm r;have d:=vv (Q.o s.o i.o);go_wp2;go_ret;exact⟨_,rfl,lr,by rw[d.o];exact t.o,J.o⟩
 ·cases neg
  ·
   have u:((mode:Int)==0)=qe:=by rw[a];rfl
   have v:((mode:Int)==1)=qe:=by rw[a];rfl
   have x:((mode:Int)==2)=qe:=by rw[a];rfl
   have y:((mode:Int)==3)=qe:=by rw[a];rfl
   have z:((mode:Int)==4)=qk:=by rw[a];rfl
   have i:ql (q2n _ mode N D=qe):=vv (by rw[q.o,a];rfl);clear a hm r;have d:=vv (Q.o s.o i.o);go_wp2;go_ret;exact⟨_,rfl,lr,by rw[d.o];exact t.o,J.o⟩
  ·
   have u:((mode:Int)==0)=qe:=by rw[a];rfl
   have v:((mode:Int)==1)=qe:=by rw[a];rfl
   have x:((mode:Int)==2)=qe:=by rw[a];rfl
   have y:((mode:Int)==3)=qe:=by rw[a];rfl
   have z:((mode:Int)==4)=qk:=by rw[a];rfl
   have i:ql (q2n _ mode N D=qk):=vv (by rw[q.o,a];rfl);clear a hm r;have d:=vv (S.o s.o i.o);go_wp2_with fail;refine(B.NewInt 1 _ (by omega) (by omega)).mono ?_;rintro e G ⟨H,rfl,Z,l,m⟩;have C:=vv l;have E:=vv m;clear l m;go_wp2_with fail;refine(R.o _ _ E.o C.o).mono ?_;rintro e a2 ⟨rfl,n,p⟩;have I:=vv n;have F:=vv p;clear n p;go_wp2;go_ret;exact⟨_,rfl,lr,by rw[d.o];exact I.o,F.o⟩
theorem q3G(g a b:Nat)(neg:Bool)(mode:Nat)(w:qf)(hx:RatAt w g (a:Int) b)(sa:Sm a)(sb:Sm b)(hst:Std w)(hm:mode<=4):qh qc 274 #[.pointer (qd ⟨g,0,qb⟩),.bool neg,.int .u8 (mode:Int)] w (q0W ((rnd neg mode a b:Nat):Int) w):=by have c:=hx.pos;rw[q7C c (q1q (p:=(a:Int)) c) (q3X c)];exact qbF g _ _ neg mode w (RatAt.kept hx) (fun w' hw=>qed g a b w' (hx.below hw)) (fun w' hw=>B.Denom g _ _ w' (hx.below hw)) (sa.mono (q2M _ _)) (sb.mono (q33 _ _)) hst hm
structure FmAt(w:qf)(g:Nat)(E F:Int):Prop where
 c0:w.cell? ⟨g,0,qb⟩=qd (.int .i64 E)
 c1:w.cell? ⟨g,1,qb⟩=qd (.int .i64 F)
 lt:g<w.heap.size
theorem FmAt.made(w:qf)(E F:Int)(t:TypeId):FmAt (w.alloc (.cells #[.int .i64 E,.int .i64 F] t)) w.heap.size E F:=⟨by simp only[World.cell?];rw[qj];rfl,by simp only[World.cell?];rw[qj];rfl,by simp⟩
theorem FmAt.below{E:Int}(h:FmAt w g E F)(hb:qi w.heap.size w w'):FmAt w' g E F:=⟨(hb.cell (p:=⟨g,0,qb⟩) h.lt).trans h.c0,(hb.cell (p:=⟨g,1,qb⟩) h.lt).trans h.c1,k03 h.lt hb.size⟩
theorem FmAt.like{E:Int}(h:FmAt w g E F)(e:w'.heap=w.heap):FmAt w' g E F:=⟨by rw[<- h.c0];simp only[World.cell?,e],by rw[<- h.c1];simp only[World.cell?,e],by rw[e];exact h.lt⟩
theorem bl_p2(n:Int)(h:n<=4000):bl (p2 n)<=4001:=by unfold Go.Proofs.YtabcgemembkkcaaGreatDoor.p2;rw[q8r];omega
def qd7(S:Nat)(o:Nat × Nat)(w:qf)(e:Ending)(w':qf):Prop:=e=.returned (.tuple #[.int .u64 ((S+o.1:Nat):Int),.int .u8 (o.2:Int)])/\qi w.heap.size w w'
theorem q5n{k l:IntKind}{a b c d:Int}(h:a=b)(h':c=d):Ending.returned (.tuple #[.int k a,.int l c])=.returned (.tuple #[.int k b,.int l d]):=by rw[h,h']
def sgb(E F:Nat)(b:Bool):Nat:=if b then 2^(E+F) else 0
abbrev q0x(A:Option qm)(n c:Nat):Value:=.agg #[.slice A n c]
abbrev q0m(neg:Bool)(A:Option qm)(n c:Nat)(B:Option qm)(m d:Nat):Value:=.agg #[.bool neg,.slice A n c,.slice B m d]
abbrev q0q(neg:Bool)(A:Option qm)(n c:Nat)(e:Int):Value:=.agg #[.bool neg,.slice A n c,.int .i64 e]
def q2A(n:Nat)(xs:List Nat):Bool:=qa (n<=16384) && (qa (n=0) || decide (nth xs (n-1)≠0))
theorem qei(A:Option qm)(n c:Nat)(xs:List Nat)(w:qf)(hr:Rd w A n c xs):qh qc 77 #[q0x A n c] w (q0W ((val xs:Nat):Int) w):=by
 have u:=vv hr;clear hr;go_enter func77,ntmps77;obtain⟨b,a⟩:=yx (w.alloc (.cells #[.slice A n c] 37));have d:qi w.heap.size w b:=by rw[a];exact(qg _ w).alloc lr _
 have q:b.cell? ⟨w.heap.size,0,qb⟩=qd (.slice A n c):=by rw[a];simp only[World.cell?];rw[qj];rfl
 have r:w.heap.size<b.heap.size:=by rw[a];simp
 have s:=vv a;obtain⟨h,i⟩:=q5q b;have k:b.heap.size=w.heap.size+1:=by rw[a];simp
 rw[k] at h;have x:=(i.cell (p:=⟨w.heap.size,0,qb⟩) r).trans q;have l:=vv h;have j:=vv (d.trans (i.mono d.size));have y:=d.size;clear a h i d k;go_wp2_with fail;rw[<- s.o];refine(B.SetWords _ 0 0 A n c xs _ l.o (u.o.below j.o rfl)).mono ?_;rintro e z g;have g:=g.f l.o;have t:=vv (g.below j.o j.o.size (by omega));obtain⟨rfl,m,-⟩:=g;have v:=vv m;clear m;go_wp2;go_ret;exact⟨_,rfl,by omega,v.o,t.o⟩
end R5
namespace AB
open Go Go.RowKit
theorem Exp0(g o gx ox gy oy:Nat)(v x:Int)(w:qf)(h:IntAt w g o v)(hx:IntAt w gx ox x)(hy:IntAt w gy oy 0)(hq:fq=92\/fq=200:=by decide):qh qc fq #[.pointer (qd ⟨g,o,qb⟩),.pointer (qd ⟨gx,ox,qb⟩),.pointer (qd ⟨gy,oy,qb⟩),.pointer qb] w (q75 g o 1 w):=by
 have q:=vv h;have E:=vv hx;have F:=vv hy;have I:=hy.lt;have b:ql (∀(w:qf) t,qi w.heap.size w (w.alloc (.cells #[.bool qe,.slice qb 0 0] t))):=vv fun w t=>(qg _ w).alloc lr _
 have G:=vv fun t=>IntAt.zero w t
 clear h hx hy;rcases hq with rfl|rfl;go_enter func92,ntmps92;rotate_left;go_enter func200,ntmps200;rotate_left;all_goals
  go_wp2_with fail;refine(NewInt 1 _ (by omega) (by omega)).mono ?_;rintro e d ⟨r,rfl,m,i,j⟩;have s:=vv i;have k:=vv ((b.o w _).trans (j.mono (Below.size (b.o w _))));have u:=vv ((G.o _).below j);have J:=i.lt;have K:w.heap.size<r:=by simp at m;omega
  have y:=k.o.size;clear i j m;go_wp2_with fail;have l:=vv fun t=>k.o.trans ((b.o d t).mono k.o.size)
  have n:=vv fun t=>IntAt.zero d t
  refine(Set _ 0 gx ox 0 _ _ (n.o _) (E.o.below (l.o _))).mono ?_;rintro e N a;have a:=a.f (n.o _);have c:=vv (a.below (l.o _) ((l.o _).size) y);have z:=vv ((s.o.below (b.o d _)).fs1 a.2.2 (by omega));have p:=vv ((u.o.below (b.o d _)).fs1 a.2.2 (by omega));obtain⟨rfl,-,-⟩:=a;have C:=vv (F.o.below c.o);go_wp2_with fail;refine(Sign gy oy _ _ C.o).mono ?_;rintro e O ⟨rfl,rfl⟩;rw[qs];obtain⟨P,Q,L⟩:=p.o.nil;have M:=p.o.lt;go_wp2_with fail;refine(Set g o r 0 _ _ _ (q.o.below c.o) z.o).mono ?_;rintro e R a;have H:=vv ((a.f (q.o.below c.o)).after c.o);obtain⟨rfl,D,-⟩:=a;go_wp2;go_ret;exact⟨rfl,D,H.o⟩
end AB
namespace B
open AB
open Go Go.RowKit
def Exp0:=@AB.Exp0 200
end B
namespace R5
open Go Go.RowKit
theorem q1y{A:Option qm}(h:Rd w A n c (toL N))(hn:n<=16384):q2A n (toL N)=qk:=by
 unfold q2A;rw[k04 hn,k37];rcases k01 n with a|a
 ·rw[a];rfl
 ·have b:0<N:=by
   rcases k01 N with e|e
   ·have:=h.words;rw[e,q0h] at this;omega
   ·exact e
  obtain⟨-,e⟩:=bl_words b;rw[h.words] at e;rw[k02 (p:=n=0) (by omega),Bool.false_or,k04 (by omega)]
structure RatioBox(w:qf)(g:Nat)(neg:Bool)(A:Option qm)(n c:Nat)(B:Option qm)(m d:Nat):Prop where
 c0:w.cell? ⟨g,0,qb⟩=qd (.bool neg)
 c1:w.cell? ⟨g,1,qb⟩=qd (.slice A n c)
 c2:w.cell? ⟨g,2,qb⟩=qd (.slice B m d)
 lt:g<w.heap.size
theorem RatioBox.made(w:qf)(neg:Bool)(A:Option qm)(n c:Nat)(B:Option qm)(m d:Nat)(t:TypeId):RatioBox (w.alloc (.cells #[.bool neg,.slice A n c,.slice B m d] t)) w.heap.size neg A n c B m d:=⟨by simp only[World.cell?];rw[qj];rfl,by simp only[World.cell?];rw[qj];rfl,by simp only[World.cell?];rw[qj];rfl,by simp⟩
theorem RatioBox.below{A:Option qm}{B:Option qm}{m d:Nat}(h:RatioBox w g neg A n c B m d)(hb:qi w.heap.size w w'):RatioBox w' g neg A n c B m d:=⟨(hb.cell (p:=⟨g,0,qb⟩) h.lt).trans h.c0,(hb.cell (p:=⟨g,1,qb⟩) h.lt).trans h.c1,(hb.cell (p:=⟨g,2,qb⟩) h.lt).trans h.c2,k03 h.lt hb.size⟩
theorem q5V(k:Nat):bl (10^k)<=4*k+1:=q0A (by
 have h1:(10:Nat)^k<=16^k:=k1j (by omega) k;have h2:(16:Nat)^k=2^(4*k):=by rw[k1r]
 rw[k0d];have:=k0a (4*k);omega)
def q5N(o:Nat × Nat)(w:qf)(e:Ending)(w':qf):Prop:=e=.returned (.tuple #[.int .u64 (o.1:Int),.int .u8 (o.2:Int),.int .i64 0])/\qi w.heap.size w w'
def q0V(E F:Nat)(below neg:Bool)(mode a b:Nat):Nat × Nat:=
 if a=0 then(sgb E F neg,0) else(sgb E F below+(out E F below mode a b).1,(out E F below mode a b).2)
theorem q5j{F:Nat}{below:Bool}{mode:Nat}(c n:Int)(h1:2<=E)(h2:E<=11)(h3:1<=F)(h4:F<=52)(hc:1200<=c):q0V E F below neg mode (N*t10 (q57 n (bl N+1+c))) (t10 (-q57 n (bl N+1+c)))=q0V E F below neg mode (N*t10 n) (t10 (-n)):=by
 rcases k01 N with d|d
 ·subst d;simp [q0V]
 ·have k:=q7L (E:=E) (F:=F) (neg:=below) (mode:=mode) (a:=N) (b:=1) c n h1 h2 h3 h4 d (by omega) hc;rw[k0S,k0S,show bl 1=1 from rfl] at k;have f:=k0N d (q2l (q57 n (bl N+1+c)));have p2:=k0N d (q2l n);unfold q0V;rw[k0r (by omega),k0r (by omega)];have e:out E F below mode (N*t10 (q57 n (bl N+1+c))) (t10 (-q57 n (bl N+1+c)))=out E F below mode (N*t10 n) (t10 (-n)):=k;rw[e]
def twoOk(neg:Bool)(n:Nat)(xs:List Nat)(e:Int):Bool:=
 q2A n xs && qa (e<=1073741824) && qa (-1073741824<=e) && (if n=0 then qa (e=0) && !neg else qa (nth xs 0%2=1))
structure DyadBox(w:qf)(g:Nat)(neg:Bool)(A:Option qm)(n c:Nat)(e:Int):Prop where
 c0:w.cell? ⟨g,0,qb⟩=qd (.bool neg)
 c1:w.cell? ⟨g,1,qb⟩=qd (.slice A n c)
 c2:w.cell? ⟨g,2,qb⟩=qd (.int .i64 e)
 lt:g<w.heap.size
theorem DyadBox.made(w:qf)(neg:Bool)(A:Option qm)(n c:Nat)(e:Int)(t:TypeId):DyadBox (w.alloc (.cells #[.bool neg,.slice A n c,.int .i64 e] t)) w.heap.size neg A n c e:=⟨by simp only[World.cell?];rw[qj];rfl,by simp only[World.cell?];rw[qj];rfl,by simp only[World.cell?];rw[qj];rfl,by simp⟩
theorem DyadBox.below{A:Option qm}{e:Int}(h:DyadBox w g neg A n c e)(hb:qi w.heap.size w w'):DyadBox w' g neg A n c e:=⟨(hb.cell (p:=⟨g,0,qb⟩) h.lt).trans h.c0,(hb.cell (p:=⟨g,1,qb⟩) h.lt).trans h.c1,(hb.cell (p:=⟨g,2,qb⟩) h.lt).trans h.c2,k03 h.lt hb.size⟩
end R5
end Go.Proofs.YtabcgemembkkcaaGreatDoor
