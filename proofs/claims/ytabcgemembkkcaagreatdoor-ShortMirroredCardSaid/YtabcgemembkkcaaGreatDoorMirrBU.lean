/- Lemmas. -/
import Derived.Test.YtabcgemembkkcaaGreatDoorMirrBT
set_option linter.all false
set_option maxHeartbeats 4000000
set_option maxRecDepth 100000
open Go.Proofs.Tryz
open Option renaming none->qa,some->qd
open Bool renaming false->qb
open Go.Proofs.Tryz renaming prog->qc
open Go renaming RowKit.Below.refl->qe,bodyPost_ret->qg,Calls->qh,World->qi
open Go.RowKit renaming Below->qf
namespace Go.Proofs.YtabcgemembkkcaaGreatDoor
namespace Nea
open Go Go.RowKit R5 Scn Sh Fms Exa Sho Rtp
abbrev q4u:Go.Value:=.agg #[.bool qb,.slice qa 0 0,.slice qa 0 0]
def q83(er:Int)(w:qi)(e:Ending)(w':qi):Prop:=e=.returned (.tuple #[q4u,q4u,.bool qb,.bool qb,.int .i64 er])/\qf w.heap.size w w'
theorem q82(E F:Int)(b mode:Nat)(q:Int)(w:qi)(hn:∀g w',One w' g b->qh qc 56 #[fm E F,.slice (qd ⟨g,0,qa⟩) 1 1] w' fun e w''=>(∃is,e=.returned (.tuple #[.int .i64 q,.bool is]))/\qf w'.heap.size w' w'')(h0:(q==0)=qb):qh qc 22 #[fm E F,.int .u64 (b:Int),.int .u8 (mode:Int)] w (q83 q w):=by
 obtain⟨d,k⟩:=yx (((w.alloc (.cells #[.int .i64 E,.int .i64 F] 23)).alloc (.cells #[.bool qb,.slice qa 0 0,.slice qa 0 0] 39)).alloc (.cells #[.bool qb,.slice qa 0 0,.slice qa 0 0] 39));have f:Cx w [(w.heap.size+1+1,39,[.bool qb,.slice qa 0 0,.slice qa 0 0]),(w.heap.size+1,39,[.bool qb,.slice qa 0 0,.slice qa 0 0]),(w.heap.size,23,[.int .i64 E,.int .i64 F])] d:=by rw[k];exact(((Cx.nil w).new _ [_,_] rfl).new _ [_,_,_] (by simp)).new _ [_,_,_] (by simp)
 have p:=vv hn;have r:Hid (w.heap.size+1+1+1=d.heap.size):=vv (by rw[k];simp);have a:=vv f;have H:=vv k;clear k f hn;have s:d.cell? ⟨w.heap.size,0,qa⟩=qd (.int .i64 E):=(a.o.get 2 rfl).cell 0;have t:d.cell? ⟨w.heap.size,1,qa⟩=qd (.int .i64 F):=(a.o.get 2 rfl).cell 1;have u:=(a.o.get 2 rfl).lt;go_enter func22,ntmps22;go_wp2_with fail;rw[<- H.o,r.o];obtain⟨J,n⟩:=yx (d.heap.size);obtain⟨I,l⟩:=yx (d.alloc (.cells #[.int .u64 (b:Int)] 24));have m:qf d.heap.size d I:=by rw[l];exact(qe _ _).alloc lr _
 have f:=a.o.new 24 [.int .u64 (b:Int)] n;rw[<- l] at f 
 try rw[<- l]
 try rw[<- n]
 replace a:=vv f;clear s t u l m f n;refine(p.o _ _ ⟨(a.o.get 0 rfl).cell 0,(a.o.get 0 rfl).lt⟩).mono ?_;rintro e K ⟨⟨is,rfl⟩,m⟩;replace a:=vv (a.o.step m);clear m;have c:=vv (a.o.get 2 rfl);go_wp2_with (with_reducible refine q00 rfl 39 (.tmp 6) (.tmp 35) rfl (w.heap.size+1) [.bool qb,.slice qa 0 0,.slice qa 0 0] rfl rfl 39 _ c.o (by kernel_rfl) rfl rfl ?_);intro L i j;clear c;have c:=vv (a.o.get 2 rfl);replace a:=vv (a.o.put 2 rfl i j);clear c i j;have c:=vv (a.o.get 1 rfl);go_wp2_with (with_reducible refine q00 rfl 39 (.tmp 7) (.tmp 36) rfl (w.heap.size+1+1) [.bool qb,.slice qa 0 0,.slice qa 0 0] rfl rfl 39 _ c.o (by kernel_rfl) rfl rfl ?_);intro h i j;clear c;have c:=vv (a.o.get 1 rfl);replace a:=vv (a.o.put 1 rfl i j);clear c i j;go_wp2;have x:h.cell? ⟨(w.heap.size+1),0,qa⟩=qd (.bool qb):=(a.o.get 2 rfl).cell 0;have y:h.cell? ⟨(w.heap.size+1),1,qa⟩=qd (.slice qa 0 0):=(a.o.get 2 rfl).cell 1;have z:h.cell? ⟨(w.heap.size+1),2,qa⟩=qd (.slice qa 0 0):=(a.o.get 2 rfl).cell 2;have C:h.cell? ⟨(w.heap.size+1+1),0,qa⟩=qd (.bool qb):=(a.o.get 1 rfl).cell 0;have D:h.cell? ⟨(w.heap.size+1+1),1,qa⟩=qd (.slice qa 0 0):=(a.o.get 1 rfl).cell 1;have G:h.cell? ⟨(w.heap.size+1+1),2,qa⟩=qd (.slice qa 0 0):=(a.o.get 1 rfl).cell 2;exact qg (v:=.tuple #[q4u,q4u,.bool qb,.bool qb,.int .i64 q]) (by simp [results,results22,go_sem,x,y,z,C,D,G]) rfl ⟨rfl,a.o.low⟩
theorem q81(E F:Int)(b mode:Nat)(w:qi)(hn:∀g w',One w' g b->qh qc 56 #[fm E F,.slice (qd ⟨g,0,qa⟩) 1 1] w' fun e w''=>(∃is,e=.returned (.tuple #[.int .i64 0,.bool is]))/\qf w'.heap.size w' w'')(hm:decide ((4:Int)<(mode:Int))=true):qh qc 22 #[fm E F,.int .u64 (b:Int),.int .u8 (mode:Int)] w (q83 7 w):=by
 obtain⟨d,k⟩:=yx (((w.alloc (.cells #[.int .i64 E,.int .i64 F] 23)).alloc (.cells #[.bool qb,.slice qa 0 0,.slice qa 0 0] 39)).alloc (.cells #[.bool qb,.slice qa 0 0,.slice qa 0 0] 39));have f:Cx w [(w.heap.size+1+1,39,[.bool qb,.slice qa 0 0,.slice qa 0 0]),(w.heap.size+1,39,[.bool qb,.slice qa 0 0,.slice qa 0 0]),(w.heap.size,23,[.int .i64 E,.int .i64 F])] d:=by rw[k];exact(((Cx.nil w).new _ [_,_] rfl).new _ [_,_,_] (by simp)).new _ [_,_,_] (by simp)
 have p:=vv hn;have q:Hid (w.heap.size+1+1+1=d.heap.size):=vv (by rw[k];simp);have a:=vv f;have G:=vv k;clear k f hn;have r:d.cell? ⟨w.heap.size,0,qa⟩=qd (.int .i64 E):=(a.o.get 2 rfl).cell 0;have s:d.cell? ⟨w.heap.size,1,qa⟩=qd (.int .i64 F):=(a.o.get 2 rfl).cell 1;have t:=(a.o.get 2 rfl).lt;go_enter func22,ntmps22;go_wp2_with fail;rw[<- G.o,q.o];obtain⟨I,n⟩:=yx (d.heap.size);obtain⟨H,l⟩:=yx (d.alloc (.cells #[.int .u64 (b:Int)] 24));have m:qf d.heap.size d H:=by rw[l];exact(qe _ _).alloc lr _
 have f:=a.o.new 24 [.int .u64 (b:Int)] n;rw[<- l] at f 
 try rw[<- l]
 try rw[<- n]
 replace a:=vv f;clear r s t l m f n;refine(p.o _ _ ⟨(a.o.get 0 rfl).cell 0,(a.o.get 0 rfl).lt⟩).mono ?_;rintro e J ⟨⟨is,rfl⟩,m⟩;replace a:=vv (a.o.step m);clear m;have c:=vv (a.o.get 2 rfl);go_wp2_with (with_reducible refine q00 rfl 39 (.tmp 6) (.tmp 35) rfl (w.heap.size+1) [.bool qb,.slice qa 0 0,.slice qa 0 0] rfl rfl 39 _ c.o (by kernel_rfl) rfl rfl ?_);intro K i j;clear c;have c:=vv (a.o.get 2 rfl);replace a:=vv (a.o.put 2 rfl i j);clear c i j;have c:=vv (a.o.get 1 rfl);go_wp2_with (with_reducible refine q00 rfl 39 (.tmp 7) (.tmp 36) rfl (w.heap.size+1+1) [.bool qb,.slice qa 0 0,.slice qa 0 0] rfl rfl 39 _ c.o (by kernel_rfl) rfl rfl ?_);intro h i j;clear c;have c:=vv (a.o.get 1 rfl);replace a:=vv (a.o.put 1 rfl i j);clear c i j;go_wp2;have u:h.cell? ⟨(w.heap.size+1),0,qa⟩=qd (.bool qb):=(a.o.get 2 rfl).cell 0;have x:h.cell? ⟨(w.heap.size+1),1,qa⟩=qd (.slice qa 0 0):=(a.o.get 2 rfl).cell 1;have y:h.cell? ⟨(w.heap.size+1),2,qa⟩=qd (.slice qa 0 0):=(a.o.get 2 rfl).cell 2;have z:h.cell? ⟨(w.heap.size+1+1),0,qa⟩=qd (.bool qb):=(a.o.get 1 rfl).cell 0;have C:h.cell? ⟨(w.heap.size+1+1),1,qa⟩=qd (.slice qa 0 0):=(a.o.get 1 rfl).cell 1;have D:h.cell? ⟨(w.heap.size+1+1),2,qa⟩=qd (.slice qa 0 0):=(a.o.get 1 rfl).cell 2;exact qg (v:=.tuple #[q4u,q4u,.bool qb,.bool qb,.int .i64 7]) (by simp [results,results22,go_sem,u,x,y,z,C,D]) rfl ⟨rfl,a.o.low⟩
theorem q80(E F:Int)(b mode:Nat)(w:qi)(hn:∀g w',One w' g b->qh qc 56 #[fm E F,.slice (qd ⟨g,0,qa⟩) 1 1] w' fun e w''=>(∃is,e=.returned (.tuple #[.int .i64 0,.bool is]))/\qf w'.heap.size w' w'')(hm:decide ((4:Int)<(mode:Int))=qb)(hf:∀g w',One w' g b->qh qc 57 #[fm E F,.slice (qd ⟨g,0,qa⟩) 1 1] w' fun e w''=>e=.returned (.int .i64 8)/\qf w'.heap.size w' w''):qh qc 22 #[fm E F,.int .u64 (b:Int),.int .u8 (mode:Int)] w (q83 8 w):=by
 obtain⟨i,p⟩:=yx (((w.alloc (.cells #[.int .i64 E,.int .i64 F] 23)).alloc (.cells #[.bool qb,.slice qa 0 0,.slice qa 0 0] 39)).alloc (.cells #[.bool qb,.slice qa 0 0,.slice qa 0 0] 39));have c:Cx w [(w.heap.size+1+1,39,[.bool qb,.slice qa 0 0,.slice qa 0 0]),(w.heap.size+1,39,[.bool qb,.slice qa 0 0,.slice qa 0 0]),(w.heap.size,23,[.int .i64 E,.int .i64 F])] i:=by rw[p];exact(((Cx.nil w).new _ [_,_] rfl).new _ [_,_,_] (by simp)).new _ [_,_,_] (by simp)
 have q:=vv hn;have r:Hid (w.heap.size+1+1+1=i.heap.size):=vv (by rw[p];simp);have a:=vv c;have M:=vv p;clear p c hn;have s:=vv hf;clear hf;have t:i.cell? ⟨w.heap.size,0,qa⟩=qd (.int .i64 E):=(a.o.get 2 rfl).cell 0;have u:i.cell? ⟨w.heap.size,1,qa⟩=qd (.int .i64 F):=(a.o.get 2 rfl).cell 1;have x:=(a.o.get 2 rfl).lt;go_enter func22,ntmps22;go_wp2_with fail;rw[<- M.o,r.o];obtain⟨R,j⟩:=yx (i.heap.size);obtain⟨N,d⟩:=yx (i.alloc (.cells #[.int .u64 (b:Int)] 24));have h:qf i.heap.size i N:=by rw[d];exact(qe _ _).alloc lr _
 have c:=a.o.new 24 [.int .u64 (b:Int)] j;rw[<- d] at c 
 try rw[<- d]
 try rw[<- j]
 replace a:=vv c;clear t u x d h c j;refine(q.o _ _ ⟨(a.o.get 0 rfl).cell 0,(a.o.get 0 rfl).lt⟩).mono ?_;rintro e l ⟨⟨is,rfl⟩,h⟩;replace a:=vv (a.o.step h);clear h;have y:l.cell? ⟨w.heap.size,0,qa⟩=qd (.int .i64 E):=(a.o.get 3 rfl).cell 0;have z:l.cell? ⟨w.heap.size,1,qa⟩=qd (.int .i64 F):=(a.o.get 3 rfl).cell 1;have C:=(a.o.get 3 rfl).lt;go_wp2_with fail;obtain⟨O,j⟩:=yx (l.heap.size);obtain⟨D,d⟩:=yx (l.alloc (.cells #[.int .u64 (b:Int)] 24));have h:qf l.heap.size l D:=by rw[d];exact(qe _ _).alloc lr _
 have c:=a.o.new 24 [.int .u64 (b:Int)] j;rw[<- d] at c 
 try rw[<- d]
 try rw[<- j]
 replace a:=vv c;clear y z C d h c j;refine(s.o _ _ ⟨(a.o.get 0 rfl).cell 0,(a.o.get 0 rfl).lt⟩).mono ?_;rintro e P ⟨rfl,h⟩;replace a:=vv (a.o.step h);clear h;have f:=vv (a.o.get 3 rfl);go_wp2_with (with_reducible refine q00 rfl 39 (.tmp 6) (.tmp 35) rfl (w.heap.size+1) [.bool qb,.slice qa 0 0,.slice qa 0 0] rfl rfl 39 _ f.o (by kernel_rfl) rfl rfl ?_);intro Q m n;clear f;have f:=vv (a.o.get 3 rfl);replace a:=vv (a.o.put 3 rfl m n);clear f m n;have f:=vv (a.o.get 2 rfl);go_wp2_with (with_reducible refine q00 rfl 39 (.tmp 7) (.tmp 36) rfl (w.heap.size+1+1) [.bool qb,.slice qa 0 0,.slice qa 0 0] rfl rfl 39 _ f.o (by kernel_rfl) rfl rfl ?_);intro k m n;clear f;have f:=vv (a.o.get 2 rfl);replace a:=vv (a.o.put 2 rfl m n);clear f m n;go_wp2;have G:k.cell? ⟨(w.heap.size+1),0,qa⟩=qd (.bool qb):=(a.o.get 3 rfl).cell 0;have H:k.cell? ⟨(w.heap.size+1),1,qa⟩=qd (.slice qa 0 0):=(a.o.get 3 rfl).cell 1;have I:k.cell? ⟨(w.heap.size+1),2,qa⟩=qd (.slice qa 0 0):=(a.o.get 3 rfl).cell 2;have J:k.cell? ⟨(w.heap.size+1+1),0,qa⟩=qd (.bool qb):=(a.o.get 2 rfl).cell 0;have K:k.cell? ⟨(w.heap.size+1+1),1,qa⟩=qd (.slice qa 0 0):=(a.o.get 2 rfl).cell 1;have L:k.cell? ⟨(w.heap.size+1+1),2,qa⟩=qd (.slice qa 0 0):=(a.o.get 2 rfl).cell 2;exact qg (v:=.tuple #[q4u,q4u,.bool qb,.bool qb,.int .i64 8]) (by simp [results,results22,go_sem,G,H,I,J,K,L]) rfl ⟨rfl,a.o.low⟩
def q5t(E F:Int)(b mode:Nat):Int:=if q09 E F b≠0 then q09 E F b else if 4<mode then 7 else 8
theorem q9c(E F:Int)(b mode:Nat)(w:qi)(hb:b<18446744073709551616)(h:q09 E F b≠0\/4<mode\/∃e f:Nat,E=e/\F=f/\q0E e f b=2^e-1):qh qc 22 #[fm E F,.int .u64 (b:Int),.int .u8 (mode:Int)] w (q83 (q5t E F b mode) w):=by
 unfold q5t;by_cases h0:q09 E F b=0
 ·rw[k0o (by omega)];have l:R3.formOk E F=true:=by
   cases hf:R3.formOk E F
   ·unfold q09 at h0;rw[hf,k0o (by decide)] at h0;exact absurd h0 (by decide)
   ·rfl
  obtain⟨e,f,rfl,rfl,m,q,r,s⟩:=R3.formOk_nat l;have p:b<2^(1+e+f):=by
   unfold q09 at h0;rw[l,k0n rfl] at h0;have:¬(1+(e:Int)+f<bl b):=fun k=>by rw[k0n k] at h0;exact absurd h0 (by decide)
   exact k02 (q0J b) (k04 (by decide) (by omega))
  have i:∀w,qh qc 64 #[fm e f,.int .u64 (b:Int)] w fun a w'=>a=.returned (.tuple #[.int .u8 ((q1J e (q0E e f b) (q0W f b):Nat):Int),.int .i64 0])/\qf w.heap.size w w':=fun w=>qaI e f b w m q r s p
  have j:q1J e (q0E e f b) (q0W f b)<=5:=by
   unfold q1J
   repeat' split
   all_goals decide
  have o:∀g w',One w' g b->qh qc 56 #[fm e f,.slice (qd ⟨g,0,qa⟩) 1 1] w' fun a w''=>(∃is,a=.returned (.tuple #[.int .i64 0,.bool is]))/\qf w'.heap.size w' w'':=fun g w' k=>by
   cases c5:(q1J e (q0E e f b) (q0W f b)==5)
   ·exact(q29 e f b g w' k h0 _ c5 j i hb).mono fun a w'' ⟨c,d⟩=>⟨⟨_,c⟩,d⟩
   ·exact(q2G e f b g w' k h0 _ c5 j i hb).mono fun a w'' ⟨c,d⟩=>⟨⟨_,c⟩,d⟩
  by_cases hm:4<mode
  ·rw[k0n hm];exact q81 e f b mode w o (k03 (by omega))
  ·rw[k0o hm];have hx:q0E e f b=2^e-1:=by
    rcases h with k|k|⟨a,v,c,d,t⟩
    ·exact absurd h0 k
    ·exact absurd k hm
    ·rw[k2N c,k2N d];exact t
   have x:0<2^e-1:=by have:=k04 (n:=2) (by decide) m;omega
   have u:3<q1J e (q0E e f b) (q0W f b):=by unfold q1J;rw[hx,k0o (by omega),k0n (show 2^e-1=R3.tw e-1 from rfl)];split<;>decide
   exact q80 e f b mode w o (k00 (by omega)) fun g w' k=>q6b e f b g w' k h0 _ (k03 (by omega)) j i hb
 ·rw[k0n h0];exact q82 E F b mode _ w (fun g w' k=>(q78 E F b g w' k hb h0).mono fun a w'' ⟨c,d⟩=>⟨⟨_,c⟩,d⟩) (k09.2 h0)
end Nea
namespace Sho
open Go Go.RowKit R5 Scn Sh Rtp Fms Exa Nea
theorem q87(E F:Int)(b mode:Nat)(er:Int)(w:qi)(h0:(er==0)=qb)(hr:∀w',qh qc 22 #[fm E F,.int .u64 (b:Int),.int .u8 (mode:Int)] w' (q83 er w')):qh qc 8 #[fm E F,.int .u64 (b:Int),.int .u8 (mode:Int)] w fun e w'=>e=.returned (.tuple #[(⟨qb,⟨#[]⟩,0⟩:Dcl).v,.int .i64 er])/\qf w.heap.size w w':=by
 obtain⟨m,l⟩:=yx ((w.alloc (.cells #[.int .i64 E,.int .i64 F] 23)).alloc (.cells #[.bool qb,.string ⟨#[]⟩,.int .i64 0] 27));have d:Cx w [(w.heap.size+1,27,[.bool qb,.string ⟨#[]⟩,.int .i64 0]),(w.heap.size,23,[.int .i64 E,.int .i64 F])] m:=by rw[l];exact((Cx.nil w).new _ [_,_] rfl).new _ [_,_,_] (by simp)
 have r:=vv hr;have a:=vv d;have C:=vv l;clear l d hr;have s:m.cell? ⟨w.heap.size,0,qa⟩=qd (.int .i64 E):=(a.o.get 1 rfl).cell 0;have t:m.cell? ⟨w.heap.size,1,qa⟩=qd (.int .i64 F):=(a.o.get 1 rfl).cell 1;have u:=(a.o.get 1 rfl).lt;go_enter func8,ntmps8;go_wp2_with fail;rw[<- C.o];go_wp2_with fail;refine(r.o _).mono ?_;rintro e j ⟨rfl,f⟩;replace a:=vv (a.o.step f);clear s t u f;have h:=vv (a.o.get 0 rfl);go_wp2_with (with_reducible refine q00 rfl 27 (.tmp 6) (.tmp 31) rfl (w.heap.size+1) [.bool qb,.string ⟨#[]⟩,.int .i64 0] rfl rfl 27 _ ((h.o.alloc _).alloc _) (by kernel_rfl) rfl rfl ?_);intro n p k;clear h;obtain⟨D,i⟩:=yx (j.heap.size);obtain⟨g,c⟩:=yx (j.alloc (.cells #[.bool qb,.slice qa 0 0,.slice qa 0 0] 39));have f:qf j.heap.size j g:=by rw[c];exact(qe _ _).alloc lr _
 have d:=a.o.new 39 [.bool qb,.slice qa 0 0,.slice qa 0 0] i;have q:(D+1:Nat)=g.heap.size:=by rw[c,World.size_alloc,<- i]
 rw[<- c] at d 
 try rw[<- c]
 try rw[<- i]
 rw[<- c] at k;replace a:=vv d;clear c f d i;obtain⟨G,c⟩:=yx (g.alloc (.cells #[.bool qb,.slice qa 0 0,.slice qa 0 0] 39));have f:qf g.heap.size g G:=by rw[c];exact(qe _ _).alloc lr _
 have d:=a.o.new 39 [.bool qb,.slice qa 0 0,.slice qa 0 0] q;rw[<- c] at d k
 try rw[<- c]
 replace a:=vv d;clear c f d q;have h:=vv (a.o.get 2 rfl);replace a:=vv (a.o.put 2 rfl p k);clear h p k;go_wp2;have x:n.cell? ⟨(w.heap.size+1),0,qa⟩=qd (.bool qb):=(a.o.get 2 rfl).cell 0;have y:n.cell? ⟨(w.heap.size+1),1,qa⟩=qd (.string ⟨#[]⟩):=(a.o.get 2 rfl).cell 1;have z:n.cell? ⟨(w.heap.size+1),2,qa⟩=qd (.int .i64 0):=(a.o.get 2 rfl).cell 2;exact qg (v:=.tuple #[(⟨qb,⟨#[]⟩,0⟩:Dcl).v,.int .i64 er]) (by simp [results,results8,go_sem,x,y,z]) rfl ⟨rfl,a.o.low⟩
end Sho
end Go.Proofs.YtabcgemembkkcaaGreatDoor
