/- Lemmas. -/
import Derived.Test.YtabcgemembkkcaaGreatDoorMirrBS
set_option linter.all false
set_option maxHeartbeats 8000000
set_option maxRecDepth 100000
open Go.Proofs.Tryz
open Option renaming none->qa,some->qb
open Decidable renaming decide->qd
open Bool renaming false->qe,true->qk
open Go renaming RowKit.Below.refl->qg,bodyPost_ret->qj,World->ql,Exit.noGoto_ret->qm,World.size_alloc->qn,Calls->qo,IntWalk.i64_in->qp
open Go.Proofs.Tryz renaming prog->qh
open Go.RowKit renaming Below->qi,Hid->qq
namespace Go.Proofs.YtabcgemembkkcaaGreatDoor
variable{w:ql}{E F b mode:Nat}{x:Int}
namespace Sho
open Go Go.RowKit R5 Scn Sh Rtp
theorem q1A{w1:ql}{b:q33}{bs:List q33}(h:Cx w (b::bs) w1):Cx w bs w1:=⟨⟨h.low,fun x hx=>h.all x (.tail _ hx)⟩,(List.pairwise_cons.1 h.pw).2,fun x hx=>h.ge x (.tail _ hx)⟩
def SdG(S:ByteArray)(z:Int)(b:Bool)(q:Rat)(w:ql)(e:Ending)(w':ql):Prop:=
 ∃r:RV,e=.returned (.agg #[.bool qe,.string S,.int .i64 z,.bool r.b,.slice r.X r.n r.c,.slice r.Y r.m r.d,.bool b])/\RI w' r q/\qi w.heap.size w w'
theorem q9r(N:Nat)(x:Int)(w:ql)(hN:0<N)(hl:q0t N<=9000):qo qh 146 #[decV qe (q1g (q17 N)) x] w fun e w'=>e=.returned (.bool (evD N))/\qi w.heap.size w w':=by
 have a:=q0V (q17 N);have c:=q1G hN;have d:=q13 (q17 N);have k:=qcA qe (q1g (q17 N)) x w (by omega) (by omega);have b:=q4m (q17 N) (by omega);have e:(q1g (q17 N))[(q1g (q17 N)).size-1].toNat%2=q17 N%2:=by simp only[a,b];omega
 rw[e,<- qao hN] at k;exact k
theorem qbR(r l h:RV)(v:Rat)(s:Span)(w:ql)(hr:RI w r v)(hs:SI w l h s)(hv:0<v)(hlo:s.lo<s.hi)(hin:s.has v=qk)(s1:Qb 2200 s.lo)(s2:Qb 2200 s.hi)(s3:Qb 2200 v)(hst:Std w):qo qh 68 #[spV l h s,r.v] w fun e w'=>e=.returned (.tuple #[decV qe (q1g (q17 (q1z s v).1)) ((q1z s v).2+(Go.Proofs.YtabcgemembkkcaaGreatDoor.Sh.tz (q1z s v).1:Int)),.bool qk])/\qi w.heap.size w w':=by
 obtain⟨w0,p9⟩:=yx (((w.alloc (.cells #[.bool l.b,.slice l.X l.n l.c,.slice l.Y l.m l.d,.bool h.b,.slice h.X h.n h.c,.slice h.Y h.m h.d,.bool s.li,.bool s.hn] 69)).alloc (.cells #[.bool r.b,.slice r.X r.n r.c,.slice r.Y r.m r.d] 39)).alloc (.cells #[.bool qe,.string ⟨#[]⟩,.int .i64 0] 27));have C:Cx w [(w.heap.size+2,27,[.bool qe,.string ⟨#[]⟩,.int .i64 0]),(w.heap.size+1,39,[.bool r.b,.slice r.X r.n r.c,.slice r.Y r.m r.d]),(w.heap.size,69,[.bool l.b,.slice l.X l.n l.c,.slice l.Y l.m l.d,.bool h.b,.slice h.X h.n h.c,.slice h.Y h.m h.d,.bool s.li,.bool s.hn])] w0:=by rw[p9];exact(((Cx.nil w).new _ [_,_,_,_,_,_,_,_] rfl).new _ [_,_,_] (by simp)).new _ [_,_,_] (by simp)
 obtain⟨k0,v2,v3,v4⟩:=q6a hv hin hlo s1 s2 s3;obtain⟨t1,t2⟩:=q9e hv s3;have hc:q2d s.lo s.hi = -1:=by unfold q2d;rw[k0n hlo]
 have q0:=vv fun w' (k:SI w' l h s) (hst:Std w')=>qaN l s.lo h s.hi w' k.l k.h (s1.mono (by decide)) (s2.mono (by decide)) hst
 rw[hc] at q0;have q3:=vv fun w' (k:RI w' r v) (hst:Std w')=>qd5 r v w' k hv (s3.mono (by decide)) hst
 have v5:=vv fun(j:Nat) (W:j<=6600) (e:Int) (T:e=top v-j) w' (k:RI w' r v) (hst:Std w')=>q9A r v (-e) w' k (s3.mono (by decide)) hv (by omega) (by omega) hst
 have hY:∀(j:Nat),j<=6600->∀e:Int,e=top v-j->Qb 40000 (v*tp (-e)):=fun j W e T=>(s3.mul (Qb.tp (-e))).mono (by omega)
 have v6:=vv fun(j:Nat) (W:j<=6600) (e:Int) (T:e=top v-j) D w' (k:RI w' D (v*tp (-e))) (hst:Std w')=>qc1 D _ w' k ((hY j W e T).mono (by decide)) (k1a (q5x hv e)) hst
 have q4:qq (∀(j:Nat),j<=6600->∀e:Int,e=top v-j->0<fl v e/\0<ce v e/\q0t (fl v e)<=9000/\q0t (ce v e)<=9000):=vv fun j W e T=>by obtain⟨a,b⟩:=qac hv (e:=e) (k:=j) (by omega);exact⟨q7w hv (by omega),q9v hv (by omega),by omega,by omega⟩
 have v7:=vv fun(N:Nat) (hN:q0t N<=9000) A n B w' (k1:RN w' A n n N) (k2:RN w' B 1 1 1) (hst:Std w')=>MakeQ qe A n n B 1 1 N 1 w' k1.r k2.r (rd_le k1.r (by have:=q3K N;omega)) (by decide) (by decide) hst
 have v8:∀N:Nat,mkRat (sg qe N) 1=((N:Nat):Rat):=fun N=>by rw[k2c];show(((N:Nat):Int):Rat)=_;rw[k0Y]
 have v9:=vv fun(j:Nat) (W:j<=6600) (e:Int) (T:e=top v-j) rt D w' (k1:RI w' rt ((fl v e:Nat):Rat)) (k2:RI w' D (v*tp (-e))) (hst:Std w')=>qcn rt _ D _ w' k1 k2 (by have a:=(q4.o j W e T).2.2.1;have b:=q3K (fl v e);exact Qb.nat (by omega) (by decide) (by decide)) ((hY j W e T).mono (by decide)) hst
 have w1:=vv fun(N:Nat) (hN:q0t N<=9000) A n B w' (k1:RN w' A n n N) (k2:RN w' B 1 1 1)=>Pnt.Add A n n N B 1 1 1 w' k1.r k2.r (rd_le k1.r (by have:=q3K N;omega)) (by decide) (Pnt.words_bl' (by have:=q3K N;have:=q2E N 1 36001 (by omega) (by decide);omega))
 have q5:qq (∀(N:Nat),0<N->q0t N<=9000->∀(j:Nat),j<=6600->∀e:Int,e=top v-j->∀A n w',RN w' A n n N->RI w' r v->SI w' l h s->Std w' ->qo qh 145 #[q0I A n n,.int .i64 e,r.v,.func (.func 44) #[spV l h s] #[]] w' (SdG (q1g (q17 N)) (e+(Go.Proofs.YtabcgemembkkcaaGreatDoor.Sh.tz N:Int)) (s.has (wo N e)) (Sh.far v N e) w')):=vv fun N hN hl j W e T A n w' k1 k2 k3 hst =>qaA A n n N e r l h v s w' k1.r k2 k3 hN hl (by omega) (by omega) (s1.mono (by decide)) (s2.mono (by decide)) (s3.mono (by decide)) hst
 have q6:∀(N:Nat),q0t N<=9000->∀(j:Nat),j<=6600->∀e:Int,e=top v-j->Qb 80000 (Sh.far v N e):=fun N hN j W e T=>((Qb.sub (q9G hN (by omega) (by omega)) s3).abs).mono (by decide)
 have w2:=vv fun(N M:Nat) (hN:q0t N<=9000) (hM:q0t M<=9000) (j:Nat) (W:j<=6600) (e:Int) (T:e=top v-j) ra rb w' (k1:RI w' ra (Sh.far v N e)) (k2:RI w' rb (Sh.far v M e)) (hst:Std w')=>qaN ra _ rb _ w' k1 k2 ((q6 N hN j W e T).mono (by decide)) ((q6 M hM j W e T).mono (by decide)) hst
 have w3:qq (∀(j:Nat),j<=k0->∀e:Int,e=top v-j->q2p s v e=qk->q1z s v=(q8a s v e,e)):=vv fun j W e T hs=>by subst T;exact q7Q (by omega) hs fun i hi=>v4 i (by omega)
 have w4:qq (∀(j:Nat),j<=k0->∀e:Int,e=top v-j->q2p s v e=qe->j<k0):=vv fun j W e T hs=>by
  rcases k0y j k0 with k|k
  ·exact k
  ·rw[T,show j=k0 by omega,v3] at hs;exact absurd hs (by decide)
 obtain⟨SB,q7⟩:=yx (q1g (q17 (q1z s v).1));obtain⟨XB,q8⟩:=yx ((q1z s v).2+(Go.Proofs.YtabcgemembkkcaaGreatDoor.Sh.tz (q1z s v).1:Int));rw[<- q7,<- q8];have y4:=vv (And.intro q7 q8);have q:=vv (hr.below C.low);have t:=vv (hs.below C.low);have HT:=vv (And.intro t1 t2);have HK:=vv v2;have w5:=vv v8;have b3:=vv hst;have f:=vv C;have HW:=vv p9;have ht0:((-1:Int)==0)=qe:=rfl;obtain⟨tv,q9⟩:=yx (top v);rw[<- q9] at q3;have r0:=vv q9;clear p9 C hr hs hv hlo hin s1 s2 s3 hst v2 v3 v4 t1 t2 hc hY v8 q6 q7 q8 q9;unfold spV;have y5:w0.cell? ⟨w.heap.size,0,qa⟩=qb (.bool l.b):=(f.o.get 2 rfl).cell 0;have y6:w0.cell? ⟨w.heap.size,1,qa⟩=qb (.slice l.X l.n l.c):=(f.o.get 2 rfl).cell 1;have y7:w0.cell? ⟨w.heap.size,2,qa⟩=qb (.slice l.Y l.m l.d):=(f.o.get 2 rfl).cell 2;have y8:w0.cell? ⟨w.heap.size,3,qa⟩=qb (.bool h.b):=(f.o.get 2 rfl).cell 3;have y9:w0.cell? ⟨w.heap.size,4,qa⟩=qb (.slice h.X h.n h.c):=(f.o.get 2 rfl).cell 4;have z0:w0.cell? ⟨w.heap.size,5,qa⟩=qb (.slice h.Y h.m h.d):=(f.o.get 2 rfl).cell 5;have z1:w0.cell? ⟨w.heap.size,6,qa⟩=qb (.bool s.li):=(f.o.get 2 rfl).cell 6;have z2:w0.cell? ⟨w.heap.size,7,qa⟩=qb (.bool s.hn):=(f.o.get 2 rfl).cell 7;have z3:=(f.o.get 2 rfl).lt;go_enter func68,ntmps68;go_wp2_with fail;rw[<- HW.o];go_step3;go_wp2_with fail;refine(q0.o _ t.o (f.o.std b3.o)).mono ?_;rintro e b4 ⟨rfl,g⟩;replace f:=vv (f.o.step g);replace q:=vv (q.o.below g);replace t:=vv (t.o.below g);clear y5 y6 y7 y8 y9 z0 z1 z2 z3 g;have r8:b4.cell? ⟨(w.heap.size+1),0,qa⟩=qb (.bool r.b):=(f.o.get 1 rfl).cell 0;have r9:b4.cell? ⟨(w.heap.size+1),1,qa⟩=qb (.slice r.X r.n r.c):=(f.o.get 1 rfl).cell 1;have s0:b4.cell? ⟨(w.heap.size+1),2,qa⟩=qb (.slice r.Y r.m r.d):=(f.o.get 1 rfl).cell 2;have s4:=(f.o.get 1 rfl).lt;have s5:b4.cell? ⟨w.heap.size,0,qa⟩=qb (.bool l.b):=(f.o.get 2 rfl).cell 0;have s6:b4.cell? ⟨w.heap.size,1,qa⟩=qb (.slice l.X l.n l.c):=(f.o.get 2 rfl).cell 1;have s7:b4.cell? ⟨w.heap.size,2,qa⟩=qb (.slice l.Y l.m l.d):=(f.o.get 2 rfl).cell 2;have s8:b4.cell? ⟨w.heap.size,3,qa⟩=qb (.bool h.b):=(f.o.get 2 rfl).cell 3;have s9:b4.cell? ⟨w.heap.size,4,qa⟩=qb (.slice h.X h.n h.c):=(f.o.get 2 rfl).cell 4;have t0:b4.cell? ⟨w.heap.size,5,qa⟩=qb (.slice h.Y h.m h.d):=(f.o.get 2 rfl).cell 5;have t3:b4.cell? ⟨w.heap.size,6,qa⟩=qb (.bool s.li):=(f.o.get 2 rfl).cell 6;have t4:b4.cell? ⟨w.heap.size,7,qa⟩=qb (.bool s.hn):=(f.o.get 2 rfl).cell 7;have t5:=(f.o.get 2 rfl).lt;go_wp2_with fail;refine(q3.o _ q.o (f.o.std b3.o)).mono ?_;rintro e o9 ⟨rfl,g⟩;replace f:=vv (f.o.step g);replace q:=vv (q.o.below g);replace t:=vv (t.o.below g);clear r8 r9 s0 s4 s5 s6 s7 s8 s9 t0 t3 t4 t5 g;go_wp2_with fail;obtain⟨u,a6⟩:=yx (o9.heap.size);obtain⟨m1,J⟩:=yx (o9.alloc (.cells #[.bool qe,.string ⟨#[]⟩,.int .i64 0,.bool qe,.slice qa 0 0,.slice qa 0 0,.bool qe] 192));have g:qi o9.heap.size o9 m1:=by rw[J];exact(qg _ _).alloc lr _
 have C:=f.o.new 192 [.bool qe,.string ⟨#[]⟩,.int .i64 0,.bool qe,.slice qa 0 0,.slice qa 0 0,.bool qe] a6;have c0:(u+1:Nat)=m1.heap.size:=by rw[J,qn,<- a6]
 rw[<- J] at C 
 try rw[<- J]
 try rw[<- a6]
 replace f:=vv C;replace q:=vv (q.o.below g);replace t:=vv (t.o.below g);clear J g C a6;obtain⟨z4,J⟩:=yx (m1.alloc (.cells #[.bool qe,.string ⟨#[]⟩,.int .i64 0,.bool qe,.slice qa 0 0,.slice qa 0 0,.bool qe] 192));have g:qi m1.heap.size m1 z4:=by rw[J];exact(qg _ _).alloc lr _
 have C:=f.o.new 192 [.bool qe,.string ⟨#[]⟩,.int .i64 0,.bool qe,.slice qa 0 0,.slice qa 0 0,.bool qe] c0;rw[<- J] at C 
 try rw[<- J]
 replace f:=vv C;replace q:=vv (q.o.below g);replace t:=vv (t.o.below g);clear J g C c0;go_step3;go_wp2_with fail;go_loopw [12] (fun y wr=>∃(j:Nat) (S1:ByteArray) (x1:Int) (Q:RV) (d1:Bool) (S2:ByteArray) (x2:Int) (R:RV) (d2:Bool),y=.int .i64 (tv-(j:Int))/\j<=k0/\Cx w [((u+1),192,[.bool qe,.string S2,.int .i64 x2,.bool R.b,.slice R.X R.n R.c,.slice R.Y R.m R.d,.bool d2]),(u,192,[.bool qe,.string S1,.int .i64 x1,.bool Q.b,.slice Q.X Q.n Q.c,.slice Q.Y Q.m Q.d,.bool d1]),(w.heap.size+2,27,[.bool qe,.string ⟨#[]⟩,.int .i64 0]),(w.heap.size+1,39,[.bool r.b,.slice r.X r.n r.c,.slice r.Y r.m r.d]),(w.heap.size,69,[.bool l.b,.slice l.X l.n l.c,.slice l.Y l.m l.d,.bool h.b,.slice h.X h.n h.c,.slice h.Y h.m h.d,.bool s.li,.bool s.hn])] wr/\RI wr r v/\SI wr l h s) (fun y _=>(intOf y-(tv-(k0:Int))).toNat)
 case atStart=>exact⟨0,⟨#[]⟩,0,⟨qe,qa,0,0,qa,0,0⟩,qe,⟨#[]⟩,0,⟨qe,qa,0,0,qa,0,0⟩,qe,by simp,k0x _,f.o,q.o,t.o⟩
 case round =>
  obtain⟨j,S1,x1,Q,d1,S2,x2,R,d2,rfl,W,C,m3,w6⟩:=hrel;replace f:=vv C;replace q:=vv m3;replace t:=vv w6;obtain⟨e,T⟩:=yx (tv-(j:Int));rw[<- T];have c5:j<=6600:=by have:=HK.o;omega
  have b5:e=top v-(j:Int):=by rw[T,r0.o]
  have eb1:-8800<=e:=by have:=HT.o;have:=r0.o;omega
  have eb2:e<=2200:=by have:=HT.o;have:=r0.o;omega
  have hwx:IntKind.i64.wrap (-e) = -e:=qp _ (by omega);have HJ:=vv (And.intro c5 b5);have HJk:=vv W;have w7:=vv T;obtain⟨p0,p1,f9,m4⟩:=q4.o j c5 e b5;have w8:=vv (And.intro p0 (And.intro p1 (And.intro f9 m4)));have n3:=vv (v5.o j c5 e b5);have c6:=vv (v6.o j c5 e b5);have a9:=vv (v7.o (fl v e) f9);have c7:=vv (v9.o j c5 e b5);have g4:=vv (w1.o (fl v e) f9);have m5:=vv (q5.o (fl v e) p0 f9 j c5 e b5);have m6:=vv (q5.o (ce v e) p1 m4 j c5 e b5);have b0:=vv (w2.o (ce v e) (fl v e) m4 f9 j c5 e b5);have p2:=vv fun w'=>q9r (fl v e) (e+(Go.Proofs.YtabcgemembkkcaaGreatDoor.Sh.tz (fl v e):Int)) w' p0 f9
  have p3:=vv fun w'=>q9r (ce v e) (e+(Go.Proofs.YtabcgemembkkcaaGreatDoor.Sh.tz (ce v e):Int)) w' p1 m4
  have c8:=vv (w3.o j W e b5);have b1:=vv (w4.o j W e b5);rw[w5.o] at a9;have w9:fl v e=(v*tp (-e)).floor.natAbs:=rfl;rw[<- w9] at c6;have r1:ce v e=if((fl v e:Nat):Rat)=v*tp (-e) then fl v e else fl v e+1:=rfl;have x0:q2p s v e=(s.has (wo (fl v e) e) || s.has (wo (ce v e) e)):=rfl;have x3:up v e=(qd (q2d (Sh.far v (ce v e) e) (Sh.far v (fl v e) e)<0) || (q2d (Sh.far v (ce v e) e) (Sh.far v (fl v e) e)==0 && evD (ce v e) && !evD (fl v e))):=rfl;have a7:q8a s v e=if s.has (wo (ce v e) e)=qe then fl v e else if s.has (wo (fl v e) e)=qe then ce v e else if up v e then ce v e else fl v e:=rfl;rw[x3] at a7;rw[x0] at c8 b1;have g0:=qcD (Sh.far v (ce v e) e) (Sh.far v (fl v e) e);have n5:=vv y4.o;generalize hpv:q8a s v e=pv at a7 c8;have g1:qq ((s.has (wo (fl v e) e) || s.has (wo (ce v e) e))=qk->SB=q1g (q17 pv)/\XB=e+(Go.Proofs.YtabcgemembkkcaaGreatDoor.Sh.tz pv:Int)):=vv fun k=>by have k2:=c8.o k;obtain⟨a,b⟩:=n5.o;rw[k2] at a b;exact⟨a,b⟩
  have l7:(q2d ((fl v e:Nat):Rat) (v*tp (-e))==0)=qk->ce v e=fl v e:=fun k=>by rw[r1,k0n (q5c.1 (by simpa using k))]
  have l8:(q2d ((fl v e:Nat):Rat) (v*tp (-e))==0)=qe->ce v e=fl v e+1:=fun k=>by rw[r1,k0o (fun a=>by rw[q5c.2 a] at k;exact absurd k (by decide))]
  obtain⟨Nf,x4⟩:=yx (fl v e);obtain⟨Nc,x5⟩:=yx (ce v e);obtain⟨y,hy⟩:=yx (v*tp (-e));rw[<- x4] at w8 c6 a9 c7 g4 m5 b0 p2 b1 g1 a7 l7 l8 g0;rw[<- x5] at w8 m6 b0 p3 b1 g1 a7 l7 l8 g0;rw[<- hy] at n3 c6 c7 l7 l8;obtain⟨sm,n6⟩:∃b,b=(q2d ((Nf:Nat):Rat) y==0):=⟨_,rfl⟩;rw[<- n6] at c7 l7 l8;obtain⟨bf,x6⟩:=yx (s.has (wo Nf e));obtain⟨bc,x7⟩:=yx (s.has (wo Nc e));rw[<- x6] at m5 b1 g1 a7;rw[<- x7] at m6 b1 g1 a7;obtain⟨qf,x8⟩:=yx (Sh.far v Nf e);obtain⟨qc,x9⟩:=yx (Sh.far v Nc e);rw[<- x8] at m5 b0 a7 g0;rw[<- x9] at m6 b0 a7 g0;obtain⟨cq,y0⟩:=yx (q2d qc qf);rw[<- y0] at b0 a7 g0;obtain⟨Z,r2⟩:=yx (q1g (q17 Nf));obtain⟨Sc,r3⟩:=yx (q1g (q17 Nc));obtain⟨xf,r4⟩:=yx (e+(Go.Proofs.YtabcgemembkkcaaGreatDoor.Sh.tz Nf:Int));obtain⟨xc,r5⟩:=yx (e+(Go.Proofs.YtabcgemembkkcaaGreatDoor.Sh.tz Nc:Int));rw[<- r2,<- r4] at m5 p2;rw[<- r3,<- r5] at m6 p3;obtain⟨vf,y1⟩:=yx (evD Nf);obtain⟨vc,y2⟩:=yx (evD Nc);rw[<- y1] at p2 a7;rw[<- y2] at p3 a7;have g2:=vv a7;have m7:=vv (And.intro l7 l8);have z5:=vv g0;have p4:qq (pv=Nf->(bf || bc)=qk->SB=Z/\XB=xf):=vv fun k1 k2=>by rw[r2,r4,<- k1];exact g1.o k2
  have r6:qq (pv=Nc->(bf || bc)=qk->SB=Sc/\XB=xc):=vv fun k1 k2=>by rw[r3,r5,<- k1];exact g1.o k2
  clear C m3 w6 T c5 b5 p0 p1 f9 m4 W w9 r1 x0 x3 a7 hpv l7 l8 x4 x5 hy n6 x6 x7 x8 x9 y0 r2 r3 r4 r5 y1 y2 g0;clear v5 v6 v7 v9 w1 q5 w2 w3 w4 c8 g1 n5 q4 w5 q3 q0;have t6:wr.cell? ⟨(w.heap.size+1),0,qa⟩=qb (.bool r.b):=(f.o.get 3 rfl).cell 0;have t7:wr.cell? ⟨(w.heap.size+1),1,qa⟩=qb (.slice r.X r.n r.c):=(f.o.get 3 rfl).cell 1;have t8:wr.cell? ⟨(w.heap.size+1),2,qa⟩=qb (.slice r.Y r.m r.d):=(f.o.get 3 rfl).cell 2;have t9:=(f.o.get 3 rfl).lt;go_wp2_with fail;refine(n3.o _ q.o (f.o.std b3.o)).mono ?_;rintro e p5 ⟨D,rfl,hQ,g⟩;replace f:=vv (f.o.step g);replace q:=vv (q.o.below g);replace t:=vv (t.o.below g);have G:=vv hQ;clear t6 t7 t8 t9 g hQ;go_wp2_with fail;obtain⟨m8,a6⟩:=yx (p5.heap.size);obtain⟨z6,J⟩:=yx (p5.alloc (.cells #[.bool D.b,.slice D.X D.n D.c,.slice D.Y D.m D.d] 39));have g:qi p5.heap.size p5 z6:=by rw[J];exact(qg _ _).alloc lr _
  have C:=f.o.new 39 [.bool D.b,.slice D.X D.n D.c,.slice D.Y D.m D.d] a6;rw[<- J] at C 
  try rw[<- J]
  try rw[<- a6]
  replace f:=vv C;replace q:=vv (q.o.below g);replace t:=vv (t.o.below g);replace G:=vv (G.o.below g);clear J g C a6;refine(c6.o _ _ G.o (f.o.std b3.o)).mono ?_;rintro e p6 ⟨A1,I,rfl,m3,g⟩;replace f:=vv (f.o.step g);replace q:=vv (q.o.below g);replace t:=vv (t.o.below g);replace G:=vv (G.o.below g);have z:=vv (RN.mk m3);clear g m3;go_upto_region 12 with fail;obtain⟨a3,a6⟩:=yx (p6.heap.size);obtain⟨m9,J⟩:=yx (p6.alloc (.cells #[.slice A1 I I] 37));have g:qi p6.heap.size p6 m9:=by rw[J];exact(qg _ _).alloc lr _
  have C:=f.o.new 37 [.slice A1 I I] a6;have c0:(a3+1:Nat)=m9.heap.size:=by rw[J,qn,<- a6]
  rw[<- J] at C 
  try rw[<- J]
  try rw[<- a6]
  replace f:=vv C;replace q:=vv (q.o.below g);replace t:=vv (t.o.below g);replace G:=vv (G.o.below g);replace z:=vv (z.o.below g);clear J g C a6;obtain⟨n0,J⟩:=yx (m9.alloc (.cells #[.slice A1 I I] 37));have g:qi m9.heap.size m9 n0:=by rw[J];exact(qg _ _).alloc lr _
  have C:=f.o.new 37 [.slice A1 I I] c0;rw[<- J] at C 
  try rw[<- J]
  replace f:=vv C;replace q:=vv (q.o.below g);replace t:=vv (t.o.below g);replace G:=vv (G.o.below g);replace z:=vv (z.o.below g);clear J g C c0;go_cut [19] (fun s19 wx=>∃(gt:Nat) (b2:Bool) (X2:Option Addr) (n2:Nat) (Y2:Option Addr) (m2:Nat),s19=.pointer (qb ⟨gt,0,qa⟩)/\Cx w [(gt,39,[.bool b2,.slice X2 n2 n2,.slice Y2 m2 m2]),((a3+1),37,[.slice A1 I I]),(a3,37,[.slice A1 I I]),(m8,39,[.bool D.b,.slice D.X D.n D.c,.slice D.Y D.m D.d]),((u+1),192,[.bool qe,.string S2,.int .i64 x2,.bool R.b,.slice R.X R.n R.c,.slice R.Y R.m R.d,.bool d2]),(u,192,[.bool qe,.string S1,.int .i64 x1,.bool Q.b,.slice Q.X Q.n Q.c,.slice Q.Y Q.m Q.d,.bool d1]),(w.heap.size+2,27,[.bool qe,.string ⟨#[]⟩,.int .i64 0]),(w.heap.size+1,39,[.bool r.b,.slice r.X r.n r.c,.slice r.Y r.m r.d]),(w.heap.size,69,[.bool l.b,.slice l.X l.n l.c,.slice l.Y l.m l.d,.bool h.b,.slice h.X h.n h.c,.slice h.Y h.m h.d,.bool s.li,.bool s.hn])] wx/\RI wx r v/\SI wx l h s/\RI wx D y/\RN wx A1 I I Nf/\RI wx ⟨b2,X2,n2,n2,Y2,m2,m2⟩ ((Nf:Nat):Rat))
  case first =>
   go_wp2_with fail;have c9:n0.cell? ⟨a3,0,qa⟩=qb (.slice A1 I I):=(f.o.get 1 rfl).cell 0;have u0:=(f.o.get 1 rfl).lt;refine q02 (fun w'=>w'.cell? ⟨a3,0,qa⟩=qb (.slice A1 I I)) 8
    (.still 0 (.two 1 (.two 2 (.still 3 (.still 4 (.still 5 (.one 6 (.one 7 .done))))) 6 (.one 2 (.still 3 (.still 4 (.still 5 (.one 7 .done)))))) 6 (.one 1 (.one 2 (.still 3 (.still 4 (.still 5 (.one 7 .done)))))))) (by kernel_rfl) (by kernel_rfl) (fun _ _ d _ _ h=>by cases d<;>exact h) c9 (fun hS0=>?_)
   iterate 1
    refine q01 (v:=?_) rfl (by rfl) ?_ ?_;rotate_left
    ·intro w l9;go_simp;with_reducible rfl
    simp only[Act.put,sa,sb,sc]
   clear u0 c9;obtain⟨m0,b6⟩:=yx (n0.drew);have g:qi n0.heap.size n0 m0:=by rw[b6];exact q05 (qg _ _)
   replace f:=vv (f.o.step g);replace q:=vv (q.o.below g);replace t:=vv (t.o.below g);replace G:=vv (G.o.below g);replace z:=vv (z.o.below g);rw[<- b6] at hS0 ⊢;clear b6 g;refine q0C rfl (by rfl) rfl (by rfl) (fun K hK=>?_) (fun K hK=>?_)
   focus
    go_simp;refine(Nat_.Of1 m0).mono ?_;rintro e p7 ⟨A2,rfl,hR,g⟩;replace f:=vv (f.o.step g);replace q:=vv (q.o.below g);replace t:=vv (t.o.below g);replace G:=vv (G.o.below g);replace z:=vv (z.o.below g);have S:=vv (RN.mk hR);clear g hR;go_wp2_with fail;refine hK.out _ _ ((f.o.get 1 rfl).cell 0) (fun a0=>?_);clear hK;refine q0C rfl (by rfl) rfl (by rfl) (fun K hK=>?_) (fun K hK=>?_)
    focus
     go_simp;refine(a9.o _ _ _ _ z.o S.o (f.o.std b3.o)).mono ?_;rintro e p8 ⟨b2,X2,n2,Y2,m2,rfl,hq,g⟩;replace f:=vv (f.o.step g);replace q:=vv (q.o.below g);replace t:=vv (t.o.below g);replace G:=vv (G.o.below g);replace z:=vv (z.o.below g);replace S:=vv (S.o.below g);have b7:=vv hq;clear g hq;go_wp2_with fail;refine hK.out _ _ ((f.o.get 1 rfl).cell 0) (fun a0=>?_);clear hK
     iterate 3
      refine q01 (v:=?_) rfl (by rfl) ?_ ?_;rotate_left
      ·intro w l9;go_simp;with_reducible rfl
      simp only[Act.put,sa,sb,sc]
     refine q03 rfl (by rfl) (fun K hK=>?_);go_simp;obtain⟨ga,b8⟩:=yx (p8.heap.size);obtain⟨y3,a4⟩:=yx (p8.alloc (.cells #[.bool qe,.slice qa 0 0,.slice qa 0 0] 39));have g:qi p8.heap.size p8 y3:=by rw[a4];exact(qg _ _).alloc lr _
     have C:=f.o.new 39 [.bool qe,.slice qa 0 0,.slice qa 0 0] b8;rw[<- a4] at C
     try rw[<- a4]
     try rw[<- b8]
     replace f:=vv C;replace q:=vv (q.o.below g);replace t:=vv (t.o.below g);replace G:=vv (G.o.below g);replace z:=vv (z.o.below g);replace S:=vv (S.o.below g);replace b7:=vv (b7.o.below g);clear g C a4 b8;refine hK.out _ _ ((f.o.get 2 rfl).cell 0) (fun a0=>?_);clear hK;obtain⟨wz,L⟩:=yx (y3);subst L
    rotate_left 1
    focus
     go_simp;obtain⟨ga,b8⟩:=yx (p7.heap.size);obtain⟨z7,a4⟩:=yx (p7.alloc (.cells #[.bool qe,.slice qa 0 0,.slice qa 0 0] 39));have g:qi p7.heap.size p7 z7:=by rw[a4];exact(qg _ _).alloc lr _
     have C:=f.o.new 39 [.bool qe,.slice qa 0 0,.slice qa 0 0] b8;rw[<- a4] at C
     try rw[<- a4]
     try rw[<- b8]
     replace f:=vv C;replace q:=vv (q.o.below g);replace t:=vv (t.o.below g);replace G:=vv (G.o.below g);replace z:=vv (z.o.below g);replace S:=vv (S.o.below g);clear g C a4 b8;refine hK.out _ _ ((f.o.get 2 rfl).cell 0) (fun a0=>?_);clear hK;refine q03 rfl (by rfl) (fun K hK=>?_);go_simp;refine(a9.o _ _ _ _ z.o S.o (f.o.std b3.o)).mono ?_;rintro e z8 ⟨b2,X2,n2,Y2,m2,rfl,hq,g⟩;replace f:=vv (f.o.step g);replace q:=vv (q.o.below g);replace t:=vv (t.o.below g);replace G:=vv (G.o.below g);replace z:=vv (z.o.below g);replace S:=vv (S.o.below g);have b7:=vv hq;clear g hq;go_wp2_with fail;refine hK.out _ _ ((f.o.get 2 rfl).cell 0) (fun a0=>?_);clear hK
     iterate 3
      refine q01 (v:=?_) rfl (by rfl) ?_ ?_;rotate_left
      ·intro w l9;go_simp;with_reducible rfl
      simp only[Act.put,sa,sb,sc]
     obtain⟨wz,L⟩:=yx (z8);subst L
   rotate_left 2
   focus
    go_simp;obtain⟨ga,b8⟩:=yx (m0.heap.size);obtain⟨g3,a4⟩:=yx (m0.alloc (.cells #[.bool qe,.slice qa 0 0,.slice qa 0 0] 39));have g:qi m0.heap.size m0 g3:=by rw[a4];exact(qg _ _).alloc lr _
    have C:=f.o.new 39 [.bool qe,.slice qa 0 0,.slice qa 0 0] b8;rw[<- a4] at C
    try rw[<- a4]
    try rw[<- b8]
    replace f:=vv C;replace q:=vv (q.o.below g);replace t:=vv (t.o.below g);replace G:=vv (G.o.below g);replace z:=vv (z.o.below g);clear g C a4 b8;refine hK.out _ _ ((f.o.get 2 rfl).cell 0) (fun a0=>?_);clear hK;refine q03 rfl (by rfl) (fun K hK=>?_);go_simp;refine(Nat_.Of1 g3).mono ?_;rintro e w48 ⟨A2,rfl,hR,g⟩;replace f:=vv (f.o.step g);replace q:=vv (q.o.below g);replace t:=vv (t.o.below g);replace G:=vv (G.o.below g);replace z:=vv (z.o.below g);have S:=vv (RN.mk hR);clear g hR;go_wp2_with fail;refine hK.out _ _ ((f.o.get 2 rfl).cell 0) (fun a0=>?_);clear hK;refine q03 rfl (by rfl) (fun K hK=>?_);go_simp;refine(a9.o _ _ _ _ z.o S.o (f.o.std b3.o)).mono ?_;rintro e z9 ⟨b2,X2,n2,Y2,m2,rfl,hq,g⟩;replace f:=vv (f.o.step g);replace q:=vv (q.o.below g);replace t:=vv (t.o.below g);replace G:=vv (G.o.below g);replace z:=vv (z.o.below g);replace S:=vv (S.o.below g);have b7:=vv hq;clear g hq;go_wp2_with fail;refine hK.out _ _ ((f.o.get 2 rfl).cell 0) (fun a0=>?_);clear hK
    iterate 3
     refine q01 (v:=?_) rfl (by rfl) ?_ ?_;rotate_left
     ·intro w l9;go_simp;with_reducible rfl
     simp only[Act.put,sa,sb,sc]
    obtain⟨wz,L⟩:=yx (z9);subst L
   all_goals
    refine q03 rfl (by rfl) (fun K hK=>?_);have p:=vv (f.o.get 0 rfl)
    with_reducible refine q0u 39 (.tmp 19) (.tmp 62) rfl ga [.bool b2,.slice X2 n2 n2,.slice Y2 m2 m2] rfl rfl 39 _ p.o (by kernel_rfl) rfl rfl ?_
    intro r7 H x;replace f:=vv (f.o.put 0 rfl H x);replace q:=vv (q.o.apart_ p.o rfl x);replace t:=vv (t.o.apart_ p.o rfl x);replace G:=vv (G.o.apart_ p.o rfl x);replace z:=vv (z.o.apart_ p.o rfl x);replace S:=vv (S.o.apart_ p.o rfl x);replace b7:=vv (b7.o.apart_ p.o rfl x);clear p H x;refine hK.out _ _ ((f.o.get 2 rfl).cell 0) (fun a0=>?_);clear hK;refine q07 ?_;simp only[k0H,k0M];go_wp2_with fail;go_meet;exact⟨ga,b2,X2,n2,Y2,m2,rfl,f.o,q.o,t.o,G.o,z.o,b7.o⟩
  case rest =>
   obtain⟨gt,b2,X2,n2,Y2,m2,rfl,C,hR,hS,hY,hF,hT⟩:=hcut;replace f:=vv C;replace q:=vv hR;replace t:=vv hS;replace G:=vv hY;replace z:=vv hF;have b7:=vv hT;clear C hR hS hY hF hT a9;have c9:wc.cell? ⟨gt,0,qa⟩=qb (.bool b2):=(f.o.get 0 rfl).cell 0;have u1:wc.cell? ⟨gt,1,qa⟩=qb (.slice X2 n2 n2):=(f.o.get 0 rfl).cell 1;have u2:wc.cell? ⟨gt,2,qa⟩=qb (.slice Y2 m2 m2):=(f.o.get 0 rfl).cell 2;have u3:=(f.o.get 0 rfl).lt;have u4:wc.cell? ⟨m8,0,qa⟩=qb (.bool D.b):=(f.o.get 3 rfl).cell 0;have u5:wc.cell? ⟨m8,1,qa⟩=qb (.slice D.X D.n D.c):=(f.o.get 3 rfl).cell 1;have u6:wc.cell? ⟨m8,2,qa⟩=qb (.slice D.Y D.m D.d):=(f.o.get 3 rfl).cell 2;have u7:=(f.o.get 3 rfl).lt;go_wp2_with fail;refine(c7.o _ _ _ b7.o G.o (f.o.std b3.o)).mono ?_;rintro e g3 ⟨rfl,g⟩;replace f:=vv (f.o.step g);replace q:=vv (q.o.below g);replace t:=vv (t.o.below g);replace G:=vv (G.o.below g);replace z:=vv (z.o.below g);replace b7:=vv (b7.o.below g);clear c9 u1 u2 u3 u4 u5 u6 u7 g;go_upto_if 67 with fail;go_cut [68] (fun s68 wx=>∃(A4:Option Addr) (n4:Nat),Cx w [(gt,39,[.bool b2,.slice X2 n2 n2,.slice Y2 m2 m2]),((a3+1),37,[.slice A4 n4 n4]),(a3,37,[.slice A1 I I]),(m8,39,[.bool D.b,.slice D.X D.n D.c,.slice D.Y D.m D.d]),((u+1),192,[.bool qe,.string S2,.int .i64 x2,.bool R.b,.slice R.X R.n R.c,.slice R.Y R.m R.d,.bool d2]),(u,192,[.bool qe,.string S1,.int .i64 x1,.bool Q.b,.slice Q.X Q.n Q.c,.slice Q.Y Q.m Q.d,.bool d1]),(w.heap.size+2,27,[.bool qe,.string ⟨#[]⟩,.int .i64 0]),(w.heap.size+1,39,[.bool r.b,.slice r.X r.n r.c,.slice r.Y r.m r.d]),(w.heap.size,69,[.bool l.b,.slice l.X l.n l.c,.slice l.Y l.m l.d,.bool h.b,.slice h.X h.n h.c,.slice h.Y h.m h.d,.bool s.li,.bool s.hn])] wx/\RI wx r v/\SI wx l h s/\RN wx A1 I I Nf/\RN wx A4 n4 n4 Nc)
   case first =>
    cases sm
    ·have hn:=m7.o.2 rfl;clear m7;subst hn;rw[k2p];go_wp2_with fail;go_wp2_with fail;have c1:g3.cell? ⟨a3,0,qa⟩=qb (.slice A1 I I):=(f.o.get 2 rfl).cell 0;have u8:=(f.o.get 2 rfl).lt;refine q02 (fun w'=>w'.cell? ⟨a3,0,qa⟩=qb (.slice A1 I I)) 7
      (.still 0 (.one 1 (.one 2 (.still 3 (.still 4 (.still 5 (.one 6 .done))))))) (by kernel_rfl) (by kernel_rfl) (fun _ _ d _ _ h=>by cases d<;>exact h) c1 (fun hS0=>?_)
     iterate 1
      refine q01 (v:=?_) rfl (by rfl) ?_ ?_;rotate_left
      ·intro w l9;go_simp;with_reducible rfl
      simp only[Act.put,sa,sb,sc]
     clear u8 c1;obtain⟨r7,b6⟩:=yx (g3.drew);have g:qi g3.heap.size g3 r7:=by rw[b6];exact q05 (qg _ _)
     replace f:=vv (f.o.step g);replace q:=vv (q.o.below g);replace t:=vv (t.o.below g);replace z:=vv (z.o.below g);rw[<- b6] at hS0 ⊢;clear b6 g;refine q03 rfl (by rfl) (fun K hK=>?_);go_simp;refine(Nat_.Of1 r7).mono ?_;rintro e w51 ⟨A2,rfl,hR,g⟩;replace f:=vv (f.o.step g);replace q:=vv (q.o.below g);replace t:=vv (t.o.below g);replace z:=vv (z.o.below g);have S:=vv (RN.mk hR);clear g hR;go_wp2_with fail;refine hK.out _ _ ((f.o.get 2 rfl).cell 0) (fun a0=>?_);clear hK;refine q03 rfl (by rfl) (fun K hK=>?_);go_simp;refine(g4.o _ _ _ _ z.o S.o).mono ?_;rintro e w52 ⟨A4,n4,rfl,hR,-,g⟩;replace f:=vv (f.o.step g);replace q:=vv (q.o.below g);replace t:=vv (t.o.below g);replace z:=vv (z.o.below g);replace S:=vv (S.o.below g);have HG:=vv (RN.mk hR);clear g hR;go_wp2_with fail;refine hK.out _ _ ((f.o.get 2 rfl).cell 0) (fun a0=>?_);clear hK
     iterate 3
      refine q01 (v:=?_) rfl (by rfl) ?_ ?_;rotate_left
      ·intro w l9;go_simp;with_reducible rfl
      simp only[Act.put,sa,sb,sc]
     refine q03 rfl (by rfl) (fun K hK=>?_);have p:=vv (f.o.get 1 rfl)
     with_reducible refine q0u 37 (.tmp 18) (.tmp 72) rfl (a3+1) [.slice A4 n4 n4] rfl rfl 37 _ p.o (by kernel_rfl) rfl rfl ?_
     intro w53 H x;replace f:=vv (f.o.put 1 rfl H x);replace q:=vv (q.o.apart_ p.o rfl x);replace t:=vv (t.o.apart_ p.o rfl x);replace z:=vv (z.o.apart_ p.o rfl x);replace S:=vv (S.o.apart_ p.o rfl x);replace HG:=vv (HG.o.apart_ p.o rfl x);clear p H x;refine hK.out _ _ ((f.o.get 2 rfl).cell 0) (fun a0=>?_);clear hK;refine q07 ?_;simp only[k0H,k0M];go_wp2_with fail;go_meet;exact⟨A4,n4,f.o,q.o,t.o,z.o,HG.o⟩
    ·have hn:=m7.o.1 rfl;clear m7;subst hn;rw[k2C];go_wp2_with fail;go_meet;exact⟨A1,I,f.o,q.o,t.o,z.o,z.o⟩
   case rest =>
    obtain⟨A4,n4,C,hR,hS,hF,hG⟩:=hcut;replace f:=vv C;replace q:=vv hR;replace t:=vv hS;replace z:=vv hF;have HG:=vv hG;clear C hR hS hF hG g4 m7;go_wp2_with fail;have c1:wc.cell? ⟨a3,0,qa⟩=qb (.slice A1 I I):=(f.o.get 2 rfl).cell 0;have n7:wc.cell? ⟨(w.heap.size+1),0,qa⟩=qb (.bool r.b):=(f.o.get 7 rfl).cell 0;have n8:wc.cell? ⟨(w.heap.size+1),1,qa⟩=qb (.slice r.X r.n r.c):=(f.o.get 7 rfl).cell 1;have n9:wc.cell? ⟨(w.heap.size+1),2,qa⟩=qb (.slice r.Y r.m r.d):=(f.o.get 7 rfl).cell 2;have o0:wc.cell? ⟨(a3+1),0,qa⟩=qb (.slice A4 n4 n4):=(f.o.get 1 rfl).cell 0;have u9:=(f.o.get 2 rfl).lt;have v0:=(f.o.get 7 rfl).lt;have v1:=(f.o.get 1 rfl).lt;refine q02 (fun w'=>w'.cell? ⟨a3,0,qa⟩=qb (.slice A1 I I)/\w'.cell? ⟨(w.heap.size+1),0,qa⟩=qb (.bool r.b)/\w'.cell? ⟨(w.heap.size+1),1,qa⟩=qb (.slice r.X r.n r.c)/\w'.cell? ⟨(w.heap.size+1),2,qa⟩=qb (.slice r.Y r.m r.d)/\w'.cell? ⟨(a3+1),0,qa⟩=qb (.slice A4 n4 n4)) 9
     (.still 0 (.still 1 (.still 2 (.still 3 (.still 5 (.still 6 (.still 7 (.still 8 (.one 4 .done))))))))) (by kernel_rfl) (by kernel_rfl) (fun _ _ d _ _ h=>by cases d<;>exact h) ⟨c1,n7,n8,n9,o0⟩ (fun hS0=>?_)
    iterate 8
     refine q01 (v:=?_) rfl (by rfl) ?_ ?_;rotate_left
     ·intro w l9;go_simp;with_reducible rfl
     simp only[Act.put,sa,sb,sc]
    clear u9 v0 v1 c1 n7 n8 n9 o0;obtain⟨w56,b6⟩:=yx (wc.drew);have g:qi wc.heap.size wc w56:=by rw[b6];exact q05 (qg _ _)
    replace f:=vv (f.o.step g);replace q:=vv (q.o.below g);replace t:=vv (t.o.below g);replace z:=vv (z.o.below g);replace HG:=vv (HG.o.below g);rw[<- b6] at hS0 ⊢;clear b6 g;refine q03 rfl (by rfl) (fun K hK=>?_);go_simp;refine(m5.o _ _ _ z.o q.o t.o (f.o.std b3.o)).mono ?_;rintro e w57 ⟨E,rfl,hQ,g⟩;replace f:=vv (f.o.step g);replace q:=vv (q.o.below g);replace t:=vv (t.o.below g);replace z:=vv (z.o.below g);replace HG:=vv (HG.o.below g);have a8:=vv hQ;clear g hQ;go_wp2_with fail;refine hK.out _ _ ⟨(f.o.get 2 rfl).cell 0,(f.o.get 7 rfl).cell 0,(f.o.get 7 rfl).cell 1,(f.o.get 7 rfl).cell 2,(f.o.get 1 rfl).cell 0⟩ (fun a0=>?_);clear hK;refine q07 ?_;simp only[k0H,k0M];go_wp2_with fail;refine(m6.o _ _ _ HG.o q.o t.o (f.o.std b3.o)).mono ?_;rintro e w58 ⟨F,rfl,hQ,g⟩;replace f:=vv (f.o.step g);replace q:=vv (q.o.below g);replace t:=vv (t.o.below g);replace z:=vv (z.o.below g);replace HG:=vv (HG.o.below g);replace a8:=vv (a8.o.below g);have b9:=vv hQ;clear g hQ;have p:=vv (f.o.get 5 rfl);go_wp2_with (with_reducible refine q00 rfl 192 (.tmp 10) (.tmp 78) rfl u [.bool qe,.string Z,.int .i64 xf,.bool E.b,.slice E.X E.n E.c,.slice E.Y E.m E.d,.bool bf] rfl rfl 192 _ p.o (by kernel_rfl) rfl rfl ?_);intro w59 H x;clear p;have p:=vv (f.o.get 5 rfl);replace f:=vv (f.o.put 5 rfl H x);replace q:=vv (q.o.apart_ p.o rfl x);replace t:=vv (t.o.apart_ p.o rfl x);replace a8:=vv (a8.o.apart_ p.o rfl x);replace b9:=vv (b9.o.apart_ p.o rfl x);clear p H x;have p:=vv (f.o.get 4 rfl);go_wp2_with (with_reducible refine q00 rfl 192 (.tmp 11) (.tmp 83) rfl (u+1) [.bool qe,.string Sc,.int .i64 xc,.bool F.b,.slice F.X F.n F.c,.slice F.Y F.m F.d,.bool bc] rfl rfl 192 _ p.o (by kernel_rfl) rfl rfl ?_);intro a5 H x;clear p;have p:=vv (f.o.get 4 rfl);replace f:=vv (f.o.put 4 rfl H x);replace q:=vv (q.o.apart_ p.o rfl x);replace t:=vv (t.o.apart_ p.o rfl x);replace a8:=vv (a8.o.apart_ p.o rfl x);replace b9:=vv (b9.o.apart_ p.o rfl x);clear p H x;have g5:a5.cell? ⟨(u+1),0,qa⟩=qb (.bool qe):=(f.o.get 4 rfl).cell 0;have g6:a5.cell? ⟨(u+1),1,qa⟩=qb (.string Sc):=(f.o.get 4 rfl).cell 1;have g7:a5.cell? ⟨(u+1),2,qa⟩=qb (.int .i64 xc):=(f.o.get 4 rfl).cell 2;have g8:a5.cell? ⟨(u+1),3,qa⟩=qb (.bool F.b):=(f.o.get 4 rfl).cell 3;have g9:a5.cell? ⟨(u+1),4,qa⟩=qb (.slice F.X F.n F.c):=(f.o.get 4 rfl).cell 4;have i0:a5.cell? ⟨(u+1),5,qa⟩=qb (.slice F.Y F.m F.d):=(f.o.get 4 rfl).cell 5;have i1:a5.cell? ⟨(u+1),6,qa⟩=qb (.bool bc):=(f.o.get 4 rfl).cell 6;have i2:=(f.o.get 4 rfl).lt;have i3:a5.cell? ⟨u,0,qa⟩=qb (.bool qe):=(f.o.get 5 rfl).cell 0;have i4:a5.cell? ⟨u,1,qa⟩=qb (.string Z):=(f.o.get 5 rfl).cell 1;have i5:a5.cell? ⟨u,2,qa⟩=qb (.int .i64 xf):=(f.o.get 5 rfl).cell 2;have i6:a5.cell? ⟨u,3,qa⟩=qb (.bool E.b):=(f.o.get 5 rfl).cell 3;have i7:a5.cell? ⟨u,4,qa⟩=qb (.slice E.X E.n E.c):=(f.o.get 5 rfl).cell 4;have i8:a5.cell? ⟨u,5,qa⟩=qb (.slice E.Y E.m E.d):=(f.o.get 5 rfl).cell 5;have i9:a5.cell? ⟨u,6,qa⟩=qb (.bool bf):=(f.o.get 5 rfl).cell 6;have j0:=(f.o.get 5 rfl).lt;cases bf<;>cases bc
    focus
     have hjn:=b1.o rfl;have hjk:(tv-(j:Int))-1=tv-((j+1:Nat):Int):=by omega
     have hw1:IntKind.i64.wrap (e-1)=e-1:=qp _ (by omega);go_wp2;go_roundw
     case measure=>have:=w7.o;simp [intOf];omega
     case rel=>exact⟨j+1,Z,xf,E,qe,Sc,xc,F,qe,by rw[w7.o,hjk],hjn,q1A (q1A (q1A (q1A f.o))),q.o,t.o⟩
    focus
     have p:=vv (f.o.get 6 rfl);go_wp2_with (with_reducible refine q00 rfl 27 (.tmp 4) (.tmp 104) rfl (w.heap.size+2) [.bool qe,.string Sc,.int .i64 xc] rfl rfl 27 _ p.o (by kernel_rfl) rfl rfl ?_);intro O H x;clear p;have p:=vv (f.o.get 6 rfl);replace f:=vv (f.o.put 6 rfl H x);replace q:=vv (q.o.apart_ p.o rfl x);replace t:=vv (t.o.apart_ p.o rfl x);replace a8:=vv (a8.o.apart_ p.o rfl x);replace b9:=vv (b9.o.apart_ p.o rfl x);clear g5 g6 g7 g8 g9 i0 i1 i2 i3 i4 i5 i6 i7 i8 i9 j0 p H x;have U:pv=Nc:=by rw[g2.o];rfl
     have L:=r6.o U rfl;have V:=vv L;clear U L;go_wp2
     try rw[qm]
     have j1:O.cell? ⟨(w.heap.size+2),0,qa⟩=qb (.bool qe):=(f.o.get 6 rfl).cell 0;have j2:O.cell? ⟨(w.heap.size+2),1,qa⟩=qb (.string Sc):=(f.o.get 6 rfl).cell 1;have j3:O.cell? ⟨(w.heap.size+2),2,qa⟩=qb (.int .i64 xc):=(f.o.get 6 rfl).cell 2;exact qj (v:=.tuple #[decV qe Sc xc,.bool qk]) (by simp [results,results68,go_sem,j1,j2,j3]) rfl ⟨by rw[V.o.1,V.o.2],f.o.low⟩
    focus
     have p:=vv (f.o.get 6 rfl);go_wp2_with (with_reducible refine q00 rfl 27 (.tmp 4) (.tmp 98) rfl (w.heap.size+2) [.bool qe,.string Z,.int .i64 xf] rfl rfl 27 _ p.o (by kernel_rfl) rfl rfl ?_);intro O H x;clear p;have p:=vv (f.o.get 6 rfl);replace f:=vv (f.o.put 6 rfl H x);replace q:=vv (q.o.apart_ p.o rfl x);replace t:=vv (t.o.apart_ p.o rfl x);replace a8:=vv (a8.o.apart_ p.o rfl x);replace b9:=vv (b9.o.apart_ p.o rfl x);clear g5 g6 g7 g8 g9 i0 i1 i2 i3 i4 i5 i6 i7 i8 i9 j0 p H x;have U:pv=Nf:=by rw[g2.o];rfl
     have L:=p4.o U rfl;have V:=vv L;clear U L;go_wp2
     try rw[qm]
     have j1:O.cell? ⟨(w.heap.size+2),0,qa⟩=qb (.bool qe):=(f.o.get 6 rfl).cell 0;have j2:O.cell? ⟨(w.heap.size+2),1,qa⟩=qb (.string Z):=(f.o.get 6 rfl).cell 1;have j3:O.cell? ⟨(w.heap.size+2),2,qa⟩=qb (.int .i64 xf):=(f.o.get 6 rfl).cell 2;exact qj (v:=.tuple #[decV qe Z xf,.bool qk]) (by simp [results,results68,go_sem,j1,j2,j3]) rfl ⟨by rw[V.o.1,V.o.2],f.o.low⟩
    focus
     go_wp2_with fail;refine(b0.o _ _ _ b9.o a8.o (f.o.std b3.o)).mono ?_;rintro e O ⟨rfl,g⟩;replace f:=vv (f.o.step g);replace a8:=vv (a8.o.below g);replace b9:=vv (b9.o.below g);clear g5 g6 g7 g8 g9 i0 i1 i2 i3 i4 i5 i6 i7 i8 i9 j0 g;have j4:O.cell? ⟨(u+1),0,qa⟩=qb (.bool qe):=(f.o.get 4 rfl).cell 0;have j5:O.cell? ⟨(u+1),1,qa⟩=qb (.string Sc):=(f.o.get 4 rfl).cell 1;have j6:O.cell? ⟨(u+1),2,qa⟩=qb (.int .i64 xc):=(f.o.get 4 rfl).cell 2;have j7:O.cell? ⟨(u+1),3,qa⟩=qb (.bool F.b):=(f.o.get 4 rfl).cell 3;have j8:O.cell? ⟨(u+1),4,qa⟩=qb (.slice F.X F.n F.c):=(f.o.get 4 rfl).cell 4;have j9:O.cell? ⟨(u+1),5,qa⟩=qb (.slice F.Y F.m F.d):=(f.o.get 4 rfl).cell 5;have k4:O.cell? ⟨(u+1),6,qa⟩=qb (.bool qk):=(f.o.get 4 rfl).cell 6;have k5:=(f.o.get 4 rfl).lt;have k6:O.cell? ⟨u,0,qa⟩=qb (.bool qe):=(f.o.get 5 rfl).cell 0;have k7:O.cell? ⟨u,1,qa⟩=qb (.string Z):=(f.o.get 5 rfl).cell 1;have k8:O.cell? ⟨u,2,qa⟩=qb (.int .i64 xf):=(f.o.get 5 rfl).cell 2;have k9:O.cell? ⟨u,3,qa⟩=qb (.bool E.b):=(f.o.get 5 rfl).cell 3;have l0:O.cell? ⟨u,4,qa⟩=qb (.slice E.X E.n E.c):=(f.o.get 5 rfl).cell 4;have l1:O.cell? ⟨u,5,qa⟩=qb (.slice E.Y E.m E.d):=(f.o.get 5 rfl).cell 5;have l2:O.cell? ⟨u,6,qa⟩=qb (.bool qk):=(f.o.get 5 rfl).cell 6;have l3:=(f.o.get 5 rfl).lt;rcases z5.o with rfl|rfl|rfl
     focus
      have p:=vv (f.o.get 6 rfl);go_wp2_with (with_reducible refine q00 rfl 27 (.tmp 4) (.tmp 131) rfl (w.heap.size+2) [.bool qe,.string Sc,.int .i64 xc] rfl rfl 27 _ p.o (by kernel_rfl) rfl rfl ?_);intro P H x;clear p;have p:=vv (f.o.get 6 rfl);replace f:=vv (f.o.put 6 rfl H x);clear j4 j5 j6 j7 j8 j9 k4 k5 k6 k7 k8 k9 l0 l1 l2 l3 p H x;have U:pv=Nc:=by rw[g2.o];rfl
      have L:=r6.o U rfl;have V:=vv L;clear U L;go_wp2
      try rw[qm]
      have l4:P.cell? ⟨(w.heap.size+2),0,qa⟩=qb (.bool qe):=(f.o.get 6 rfl).cell 0;have l5:P.cell? ⟨(w.heap.size+2),1,qa⟩=qb (.string Sc):=(f.o.get 6 rfl).cell 1;have l6:P.cell? ⟨(w.heap.size+2),2,qa⟩=qb (.int .i64 xc):=(f.o.get 6 rfl).cell 2;exact qj (v:=.tuple #[decV qe Sc xc,.bool qk]) (by simp [results,results68,go_sem,l4,l5,l6]) rfl ⟨by rw[V.o.1,V.o.2],f.o.low⟩
     focus
      go_wp2_with fail;refine(p3.o _).mono ?_;rintro e P ⟨rfl,g⟩;replace f:=vv (f.o.step g);clear j4 j5 j6 j7 j8 j9 k4 k5 k6 k7 k8 k9 l0 l1 l2 l3 g;have o1:P.cell? ⟨(u+1),0,qa⟩=qb (.bool qe):=(f.o.get 4 rfl).cell 0;have o2:P.cell? ⟨(u+1),1,qa⟩=qb (.string Sc):=(f.o.get 4 rfl).cell 1;have o3:P.cell? ⟨(u+1),2,qa⟩=qb (.int .i64 xc):=(f.o.get 4 rfl).cell 2;have o4:P.cell? ⟨(u+1),3,qa⟩=qb (.bool F.b):=(f.o.get 4 rfl).cell 3;have o5:P.cell? ⟨(u+1),4,qa⟩=qb (.slice F.X F.n F.c):=(f.o.get 4 rfl).cell 4;have d0:P.cell? ⟨(u+1),5,qa⟩=qb (.slice F.Y F.m F.d):=(f.o.get 4 rfl).cell 5;have d3:P.cell? ⟨(u+1),6,qa⟩=qb (.bool qk):=(f.o.get 4 rfl).cell 6;have d4:=(f.o.get 4 rfl).lt;have d5:P.cell? ⟨u,0,qa⟩=qb (.bool qe):=(f.o.get 5 rfl).cell 0;have d6:P.cell? ⟨u,1,qa⟩=qb (.string Z):=(f.o.get 5 rfl).cell 1;have d7:P.cell? ⟨u,2,qa⟩=qb (.int .i64 xf):=(f.o.get 5 rfl).cell 2;have d8:P.cell? ⟨u,3,qa⟩=qb (.bool E.b):=(f.o.get 5 rfl).cell 3;have d9:P.cell? ⟨u,4,qa⟩=qb (.slice E.X E.n E.c):=(f.o.get 5 rfl).cell 4;have e0:P.cell? ⟨u,5,qa⟩=qb (.slice E.Y E.m E.d):=(f.o.get 5 rfl).cell 5;have e1:P.cell? ⟨u,6,qa⟩=qb (.bool qk):=(f.o.get 5 rfl).cell 6;have e2:=(f.o.get 5 rfl).lt;cases vc
      focus
       have p:=vv (f.o.get 6 rfl);go_wp2_with (with_reducible refine q00 rfl 27 (.tmp 4) (.tmp 133) rfl (w.heap.size+2) [.bool qe,.string Z,.int .i64 xf] rfl rfl 27 _ p.o (by kernel_rfl) rfl rfl ?_);intro a1 H x;clear p;have p:=vv (f.o.get 6 rfl);replace f:=vv (f.o.put 6 rfl H x);clear o1 o2 o3 o4 o5 d0 d3 d4 d5 d6 d7 d8 d9 e0 e1 e2 p H x;have U:pv=Nf:=by rw[g2.o];rfl
       have L:=p4.o U rfl;have V:=vv L;clear U L;go_wp2
       try rw[qm]
       have o6:a1.cell? ⟨(w.heap.size+2),0,qa⟩=qb (.bool qe):=(f.o.get 6 rfl).cell 0;have o7:a1.cell? ⟨(w.heap.size+2),1,qa⟩=qb (.string Z):=(f.o.get 6 rfl).cell 1;have o8:a1.cell? ⟨(w.heap.size+2),2,qa⟩=qb (.int .i64 xf):=(f.o.get 6 rfl).cell 2;exact qj (v:=.tuple #[decV qe Z xf,.bool qk]) (by simp [results,results68,go_sem,o6,o7,o8]) rfl ⟨by rw[V.o.1,V.o.2],f.o.low⟩
      focus
       go_wp2_with fail;refine(p2.o _).mono ?_;rintro e a1 ⟨rfl,g⟩;replace f:=vv (f.o.step g);clear o1 o2 o3 o4 o5 d0 d3 d4 d5 d6 d7 d8 d9 e0 e1 e2 g;have e3:a1.cell? ⟨(u+1),0,qa⟩=qb (.bool qe):=(f.o.get 4 rfl).cell 0;have e4:a1.cell? ⟨(u+1),1,qa⟩=qb (.string Sc):=(f.o.get 4 rfl).cell 1;have e5:a1.cell? ⟨(u+1),2,qa⟩=qb (.int .i64 xc):=(f.o.get 4 rfl).cell 2;have e6:a1.cell? ⟨(u+1),3,qa⟩=qb (.bool F.b):=(f.o.get 4 rfl).cell 3;have e7:a1.cell? ⟨(u+1),4,qa⟩=qb (.slice F.X F.n F.c):=(f.o.get 4 rfl).cell 4;have e8:a1.cell? ⟨(u+1),5,qa⟩=qb (.slice F.Y F.m F.d):=(f.o.get 4 rfl).cell 5;have e9:a1.cell? ⟨(u+1),6,qa⟩=qb (.bool qk):=(f.o.get 4 rfl).cell 6;have f0:=(f.o.get 4 rfl).lt;have f1:a1.cell? ⟨u,0,qa⟩=qb (.bool qe):=(f.o.get 5 rfl).cell 0;have f2:a1.cell? ⟨u,1,qa⟩=qb (.string Z):=(f.o.get 5 rfl).cell 1;have f3:a1.cell? ⟨u,2,qa⟩=qb (.int .i64 xf):=(f.o.get 5 rfl).cell 2;have f4:a1.cell? ⟨u,3,qa⟩=qb (.bool E.b):=(f.o.get 5 rfl).cell 3;have f5:a1.cell? ⟨u,4,qa⟩=qb (.slice E.X E.n E.c):=(f.o.get 5 rfl).cell 4;have f6:a1.cell? ⟨u,5,qa⟩=qb (.slice E.Y E.m E.d):=(f.o.get 5 rfl).cell 5;have f7:a1.cell? ⟨u,6,qa⟩=qb (.bool qk):=(f.o.get 5 rfl).cell 6;have f8:=(f.o.get 5 rfl).lt;cases vf
       focus
        have p:=vv (f.o.get 6 rfl);go_wp2_with (with_reducible refine q00 rfl 27 (.tmp 4) (.tmp 131) rfl (w.heap.size+2) [.bool qe,.string Sc,.int .i64 xc] rfl rfl 27 _ p.o (by kernel_rfl) rfl rfl ?_);intro a2 H x;clear p;have p:=vv (f.o.get 6 rfl);replace f:=vv (f.o.put 6 rfl H x);clear e3 e4 e5 e6 e7 e8 e9 f0 f1 f2 f3 f4 f5 f6 f7 f8 p H x;have U:pv=Nc:=by rw[g2.o];rfl
        have L:=r6.o U rfl;have V:=vv L;clear U L;go_wp2
        try rw[qm]
        have c2:a2.cell? ⟨(w.heap.size+2),0,qa⟩=qb (.bool qe):=(f.o.get 6 rfl).cell 0;have c3:a2.cell? ⟨(w.heap.size+2),1,qa⟩=qb (.string Sc):=(f.o.get 6 rfl).cell 1;have c4:a2.cell? ⟨(w.heap.size+2),2,qa⟩=qb (.int .i64 xc):=(f.o.get 6 rfl).cell 2;exact qj (v:=.tuple #[decV qe Sc xc,.bool qk]) (by simp [results,results68,go_sem,c2,c3,c4]) rfl ⟨by rw[V.o.1,V.o.2],f.o.low⟩
       focus
        have p:=vv (f.o.get 6 rfl);go_wp2_with (with_reducible refine q00 rfl 27 (.tmp 4) (.tmp 133) rfl (w.heap.size+2) [.bool qe,.string Z,.int .i64 xf] rfl rfl 27 _ p.o (by kernel_rfl) rfl rfl ?_);intro a2 H x;clear p;have p:=vv (f.o.get 6 rfl);replace f:=vv (f.o.put 6 rfl H x);clear e3 e4 e5 e6 e7 e8 e9 f0 f1 f2 f3 f4 f5 f6 f7 f8 p H x;have U:pv=Nf:=by rw[g2.o];rfl
        have L:=p4.o U rfl;have V:=vv L;clear U L;go_wp2
        try rw[qm]
        have c2:a2.cell? ⟨(w.heap.size+2),0,qa⟩=qb (.bool qe):=(f.o.get 6 rfl).cell 0;have c3:a2.cell? ⟨(w.heap.size+2),1,qa⟩=qb (.string Z):=(f.o.get 6 rfl).cell 1;have c4:a2.cell? ⟨(w.heap.size+2),2,qa⟩=qb (.int .i64 xf):=(f.o.get 6 rfl).cell 2;exact qj (v:=.tuple #[decV qe Z xf,.bool qk]) (by simp [results,results68,go_sem,c2,c3,c4]) rfl ⟨by rw[V.o.1,V.o.2],f.o.low⟩
     focus
      have p:=vv (f.o.get 6 rfl);go_wp2_with (with_reducible refine q00 rfl 27 (.tmp 4) (.tmp 133) rfl (w.heap.size+2) [.bool qe,.string Z,.int .i64 xf] rfl rfl 27 _ p.o (by kernel_rfl) rfl rfl ?_);intro P H x;clear p;have p:=vv (f.o.get 6 rfl);replace f:=vv (f.o.put 6 rfl H x);clear j4 j5 j6 j7 j8 j9 k4 k5 k6 k7 k8 k9 l0 l1 l2 l3 p H x;have U:pv=Nf:=by rw[g2.o];rfl
      have L:=p4.o U rfl;have V:=vv L;clear U L;go_wp2
      try rw[qm]
      have l4:P.cell? ⟨(w.heap.size+2),0,qa⟩=qb (.bool qe):=(f.o.get 6 rfl).cell 0;have l5:P.cell? ⟨(w.heap.size+2),1,qa⟩=qb (.string Z):=(f.o.get 6 rfl).cell 1;have l6:P.cell? ⟨(w.heap.size+2),2,qa⟩=qb (.int .i64 xf):=(f.o.get 6 rfl).cell 2;exact qj (v:=.tuple #[decV qe Z xf,.bool qk]) (by simp [results,results68,go_sem,l4,l5,l6]) rfl ⟨by rw[V.o.1,V.o.2],f.o.low⟩
structure Dcl where
 neg:Bool
 S:ByteArray
 x:Int
abbrev Dcl.v(d:Dcl):Value:=.agg #[.bool d.neg,.string d.S,.int .i64 d.x]
def q58(neg:Bool)(p:Nat × Int):Dcl:=⟨neg,q1g (q17 p.1),p.2+(Go.Proofs.YtabcgemembkkcaaGreatDoor.Sh.tz p.1:Int)⟩
def q1l(s:Span)(v:Rat):Dcl:=
 if s.has 0=qk then⟨qe,⟨#[]⟩,0⟩ else if v.num<0 then q58 qk (q1z s.flip (-v)) else q58 qe (q1z s v)
theorem RI.zero{A:Option Addr}(h:Rd w A 1 1 (toL 1)):RI w ⟨qe,qa,0,0,A,1,1⟩ 0:=⟨rfl,Rd.nil w,h⟩
theorem RI.sign{r:RV}{q:Rat}(h:RI w r q):r.b=qd (q.num<0):=RQ.s h
theorem q4N(r l h:RV)(v:Rat)(s:Span)(w:ql)(hr:RI w r v)(hs:SI w l h s)(h0:s.has 0=qk)(s1:Qb 2200 s.lo)(s2:Qb 2200 s.hi)(s3:Qb 2200 v)(hst:Std w):qo qh 26 #[spV l h s,r.v] w fun e w'=>e=.returned (.tuple #[(⟨qe,⟨#[]⟩,0⟩:Dcl).v,.bool qk])/\qi w.heap.size w w':=by
 obtain⟨g,t⟩:=yx (((w.alloc (.cells #[.bool l.b,.slice l.X l.n l.c,.slice l.Y l.m l.d,.bool h.b,.slice h.X h.n h.c,.slice h.Y h.m h.d,.bool s.li,.bool s.hn] 69)).alloc (.cells #[.bool r.b,.slice r.X r.n r.c,.slice r.Y r.m r.d] 39)).alloc (.cells #[.bool qe,.string ⟨#[]⟩,.int .i64 0] 27));have p:Cx w [(w.heap.size+2,27,[.bool qe,.string ⟨#[]⟩,.int .i64 0]),(w.heap.size+1,39,[.bool r.b,.slice r.X r.n r.c,.slice r.Y r.m r.d]),(w.heap.size,69,[.bool l.b,.slice l.X l.n l.c,.slice l.Y l.m l.d,.bool h.b,.slice h.X h.n h.c,.slice h.Y h.m h.d,.bool s.li,.bool s.hn])] g:=by rw[t];exact(((Cx.nil w).new _ [_,_,_,_,_,_,_,_] rfl).new _ [_,_,_] (by simp)).new _ [_,_,_] (by simp)
 have z:=vv fun A w' (k0:SI w' l h s) (k1:Rd w' A 1 1 (toL 1)) (hst:Std w')=>in_ l h s ⟨qe,qa,0,0,A,1,1⟩ 0 w' k0 (RI.zero k1) (s1.mono (by decide)) (s2.mono (by decide)) ⟨by decide,by decide⟩ hst
 rw[h0] at z;have j:=vv (hr.below p.low);have i:=vv (hs.below p.low);have N:=vv hst;have a:=vv p;have U:=vv t;clear t p hr hs h0 s1 s2 s3 hst;unfold spV;go_enter func26,ntmps26;go_wp2_with fail;rw[<- U.o];go_wp2_with fail;have C:g.cell? ⟨w.heap.size,0,qa⟩=qb (.bool l.b):=(a.o.get 2 rfl).cell 0;have D:g.cell? ⟨w.heap.size,1,qa⟩=qb (.slice l.X l.n l.c):=(a.o.get 2 rfl).cell 1;have E:g.cell? ⟨w.heap.size,2,qa⟩=qb (.slice l.Y l.m l.d):=(a.o.get 2 rfl).cell 2;have F:g.cell? ⟨w.heap.size,3,qa⟩=qb (.bool h.b):=(a.o.get 2 rfl).cell 3;have G:g.cell? ⟨w.heap.size,4,qa⟩=qb (.slice h.X h.n h.c):=(a.o.get 2 rfl).cell 4;have H:g.cell? ⟨w.heap.size,5,qa⟩=qb (.slice h.Y h.m h.d):=(a.o.get 2 rfl).cell 5;have I:g.cell? ⟨w.heap.size,6,qa⟩=qb (.bool s.li):=(a.o.get 2 rfl).cell 6;have J:g.cell? ⟨w.heap.size,7,qa⟩=qb (.bool s.hn):=(a.o.get 2 rfl).cell 7;have O:=(a.o.get 2 rfl).lt;refine q02 (fun w'=>w'.cell? ⟨w.heap.size,0,qa⟩=qb (.bool l.b)/\w'.cell? ⟨w.heap.size,1,qa⟩=qb (.slice l.X l.n l.c)/\w'.cell? ⟨w.heap.size,2,qa⟩=qb (.slice l.Y l.m l.d)/\w'.cell? ⟨w.heap.size,3,qa⟩=qb (.bool h.b)/\w'.cell? ⟨w.heap.size,4,qa⟩=qb (.slice h.X h.n h.c)/\w'.cell? ⟨w.heap.size,5,qa⟩=qb (.slice h.Y h.m h.d)/\w'.cell? ⟨w.heap.size,6,qa⟩=qb (.bool s.li)/\w'.cell? ⟨w.heap.size,7,qa⟩=qb (.bool s.hn)) 3
  (.still 0 (.one 1 (.still 2 .done))) (by kernel_rfl) (by kernel_rfl) (fun _ _ d _ _ h=>by cases d<;>exact h) ⟨C,D,E,F,G,H,I,J⟩ (fun hS0=>?_)
 iterate 1
  refine q01 (v:=?_) rfl (by rfl) ?_ ?_;rotate_left
  ·intro w P;go_simp;with_reducible rfl
  simp only[Act.put,sa,sb,sc]
 clear O C D E F G H I J;obtain⟨Q,u⟩:=yx (g.drew);have f:qi g.heap.size g Q:=by rw[u];exact q05 (qg _ _)
 replace a:=vv (a.o.step f);replace j:=vv (j.o.below f);replace i:=vv (i.o.below f);rw[<- u] at hS0 ⊢;clear u f;refine q03 rfl (by rfl) (fun K hK=>?_);go_simp;refine(Nat_.Of1 _).mono ?_;rintro e V ⟨A2,rfl,M,f⟩;replace a:=vv (a.o.step f);replace j:=vv (j.o.below f);replace i:=vv (i.o.below f);have y:=vv (RN.mk M);clear f M;go_wp2_with fail;refine hK.out _ _ ⟨(a.o.get 2 rfl).cell 0,(a.o.get 2 rfl).cell 1,(a.o.get 2 rfl).cell 2,(a.o.get 2 rfl).cell 3,(a.o.get 2 rfl).cell 4,(a.o.get 2 rfl).cell 5,(a.o.get 2 rfl).cell 6,(a.o.get 2 rfl).cell 7⟩ (fun W=>?_);clear hK
 iterate 1
  refine q01 (v:=?_) rfl (by rfl) ?_ ?_;rotate_left
  ·intro w P;go_simp;with_reducible rfl
  simp only[Act.put,sa,sb,sc]
 refine q07 ?_;simp only[k0H,k0M];go_wp2_with fail;refine(z.o _ _ i.o y.o.r (a.o.std N.o)).mono ?_;rintro e Z ⟨rfl,f⟩;replace a:=vv (a.o.step f);replace j:=vv (j.o.below f);replace i:=vv (i.o.below f);replace y:=vv (y.o.below f);clear f;have k:=vv (a.o.get 0 rfl);go_wp2_with (with_reducible refine q00 rfl 27 (.tmp 4) (.tmp 12) rfl (w.heap.size+2) [.bool qe,.string ⟨#[]⟩,.int .i64 0] rfl rfl 27 _ k.o (by kernel_rfl) rfl rfl ?_);intro x L q;clear k;have k:=vv (a.o.get 0 rfl);replace a:=vv (a.o.put 0 rfl L q);replace j:=vv (j.o.apart_ k.o rfl q);replace i:=vv (i.o.apart_ k.o rfl q);clear k L q;go_wp2;have R:x.cell? ⟨(w.heap.size+2),0,qa⟩=qb (.bool qe):=(a.o.get 0 rfl).cell 0;have S:x.cell? ⟨(w.heap.size+2),1,qa⟩=qb (.string ⟨#[]⟩):=(a.o.get 0 rfl).cell 1;have T:x.cell? ⟨(w.heap.size+2),2,qa⟩=qb (.int .i64 0):=(a.o.get 0 rfl).cell 2;exact qj (v:=.tuple #[.agg #[.bool qe,.string ⟨#[]⟩,.int .i64 0],.bool qk]) (by simp [results,results26,go_sem,R,S,T]) rfl ⟨rfl,a.o.low⟩
theorem q5T(r l h:RV)(v:Rat)(s:Span)(w:ql)(hr:RI w r v)(hs:SI w l h s)(h0:s.has 0=qe)(hv:0<v)(hlo:s.lo<s.hi)(hin:s.has v=qk)(s1:Qb 2200 s.lo)(s2:Qb 2200 s.hi)(s3:Qb 2200 v)(hst:Std w):qo qh 26 #[spV l h s,r.v] w fun e w'=>e=.returned (.tuple #[(q58 qe (q1z s v):Dcl).v,.bool qk])/\qi w.heap.size w w':=by
 obtain⟨g,y⟩:=yx (((w.alloc (.cells #[.bool l.b,.slice l.X l.n l.c,.slice l.Y l.m l.d,.bool h.b,.slice h.X h.n h.c,.slice h.Y h.m h.d,.bool s.li,.bool s.hn] 69)).alloc (.cells #[.bool r.b,.slice r.X r.n r.c,.slice r.Y r.m r.d] 39)).alloc (.cells #[.bool qe,.string ⟨#[]⟩,.int .i64 0] 27));have t:Cx w [(w.heap.size+2,27,[.bool qe,.string ⟨#[]⟩,.int .i64 0]),(w.heap.size+1,39,[.bool r.b,.slice r.X r.n r.c,.slice r.Y r.m r.d]),(w.heap.size,69,[.bool l.b,.slice l.X l.n l.c,.slice l.Y l.m l.d,.bool h.b,.slice h.X h.n h.c,.slice h.Y h.m h.d,.bool s.li,.bool s.hn])] g:=by rw[y];exact(((Cx.nil w).new _ [_,_,_,_,_,_,_,_] rfl).new _ [_,_,_] (by simp)).new _ [_,_,_] (by simp)
 have E:=vv fun A w' (k0:SI w' l h s) (k1:Rd w' A 1 1 (toL 1)) (hst:Std w')=>in_ l h s ⟨qe,qa,0,0,A,1,1⟩ 0 w' k0 (RI.zero k1) (s1.mono (by decide)) (s2.mono (by decide)) ⟨by decide,by decide⟩ hst
 rw[h0] at E;have F:=vv fun w' (k:RI w' r v) (k1:SI w' l h s) (hst:Std w')=>qbR r l h v s w' k k1 hv hlo hin s1 s2 s3 hst
 have G:r.b=qe:=hr.sign.trans (k00 (by have:=q1x hv;omega));have V:=vv G;clear G;unfold q58 Dcl.v;dsimp only;obtain⟨S,T⟩:=yx (q1g (q17 (q1z s v).1));obtain⟨x,hx⟩:=yx ((q1z s v).2+(Go.Proofs.YtabcgemembkkcaaGreatDoor.Sh.tz (q1z s v).1:Int));rw[<- T,<- hx] at F ⊢;clear T hx;have p:=vv (hr.below t.low);have i:=vv (hs.below t.low);have H:=vv hst;have a:=vv t;have HW:=vv y;clear y t hr hs h0 s1 s2 s3 hst hv hlo hin;unfold spV;go_enter func26,ntmps26;go_wp2_with fail;rw[<- HW.o];go_wp2_with fail;have I:g.cell? ⟨w.heap.size,0,qa⟩=qb (.bool l.b):=(a.o.get 2 rfl).cell 0;have J:g.cell? ⟨w.heap.size,1,qa⟩=qb (.slice l.X l.n l.c):=(a.o.get 2 rfl).cell 1;have L:g.cell? ⟨w.heap.size,2,qa⟩=qb (.slice l.Y l.m l.d):=(a.o.get 2 rfl).cell 2;have M:g.cell? ⟨w.heap.size,3,qa⟩=qb (.bool h.b):=(a.o.get 2 rfl).cell 3;have N:g.cell? ⟨w.heap.size,4,qa⟩=qb (.slice h.X h.n h.c):=(a.o.get 2 rfl).cell 4;have O:g.cell? ⟨w.heap.size,5,qa⟩=qb (.slice h.Y h.m h.d):=(a.o.get 2 rfl).cell 5;have P:g.cell? ⟨w.heap.size,6,qa⟩=qb (.bool s.li):=(a.o.get 2 rfl).cell 6;have Q:g.cell? ⟨w.heap.size,7,qa⟩=qb (.bool s.hn):=(a.o.get 2 rfl).cell 7;have W:=(a.o.get 2 rfl).lt;refine q02 (fun w'=>w'.cell? ⟨w.heap.size,0,qa⟩=qb (.bool l.b)/\w'.cell? ⟨w.heap.size,1,qa⟩=qb (.slice l.X l.n l.c)/\w'.cell? ⟨w.heap.size,2,qa⟩=qb (.slice l.Y l.m l.d)/\w'.cell? ⟨w.heap.size,3,qa⟩=qb (.bool h.b)/\w'.cell? ⟨w.heap.size,4,qa⟩=qb (.slice h.X h.n h.c)/\w'.cell? ⟨w.heap.size,5,qa⟩=qb (.slice h.Y h.m h.d)/\w'.cell? ⟨w.heap.size,6,qa⟩=qb (.bool s.li)/\w'.cell? ⟨w.heap.size,7,qa⟩=qb (.bool s.hn)) 3
  (.still 0 (.one 1 (.still 2 .done))) (by kernel_rfl) (by kernel_rfl) (fun _ _ d _ _ h=>by cases d<;>exact h) ⟨I,J,L,M,N,O,P,Q⟩ (fun hS0=>?_)
 iterate 1
  refine q01 (v:=?_) rfl (by rfl) ?_ ?_;rotate_left
  ·intro w Z;go_simp;with_reducible rfl
  simp only[Act.put,sa,sb,sc]
 clear W I J L M N O P Q;obtain⟨b7,z⟩:=yx (g.drew);have f:qi g.heap.size g b7:=by rw[z];exact q05 (qg _ _)
 replace a:=vv (a.o.step f);replace p:=vv (p.o.below f);replace i:=vv (i.o.below f);rw[<- z] at hS0 ⊢;clear z f;refine q03 rfl (by rfl) (fun K hK=>?_);go_simp;refine(Nat_.Of1 _).mono ?_;rintro e b8 ⟨A2,rfl,U,f⟩;replace a:=vv (a.o.step f);replace p:=vv (p.o.below f);replace i:=vv (i.o.below f);have D:=vv (RN.mk U);clear f U;go_wp2_with fail;refine hK.out _ _ ⟨(a.o.get 2 rfl).cell 0,(a.o.get 2 rfl).cell 1,(a.o.get 2 rfl).cell 2,(a.o.get 2 rfl).cell 3,(a.o.get 2 rfl).cell 4,(a.o.get 2 rfl).cell 5,(a.o.get 2 rfl).cell 6,(a.o.get 2 rfl).cell 7⟩ (fun b6=>?_);clear hK
 iterate 1
  refine q01 (v:=?_) rfl (by rfl) ?_ ?_;rotate_left
  ·intro w Z;go_simp;with_reducible rfl
  simp only[Act.put,sa,sb,sc]
 refine q07 ?_;simp only[k0H,k0M];go_wp2_with fail;refine(E.o _ _ i.o D.o.r (a.o.std H.o)).mono ?_;rintro e j ⟨rfl,f⟩;replace a:=vv (a.o.step f);replace p:=vv (p.o.below f);replace i:=vv (i.o.below f);replace D:=vv (D.o.below f);clear f;have a0:j.cell? ⟨(w.heap.size+1),0,qa⟩=qb (.bool r.b):=(a.o.get 1 rfl).cell 0;have a1:j.cell? ⟨(w.heap.size+1),1,qa⟩=qb (.slice r.X r.n r.c):=(a.o.get 1 rfl).cell 1;have a2:j.cell? ⟨(w.heap.size+1),2,qa⟩=qb (.slice r.Y r.m r.d):=(a.o.get 1 rfl).cell 2;have a3:=(a.o.get 1 rfl).lt;have a4:j.cell? ⟨w.heap.size,0,qa⟩=qb (.bool l.b):=(a.o.get 2 rfl).cell 0;have a5:j.cell? ⟨w.heap.size,1,qa⟩=qb (.slice l.X l.n l.c):=(a.o.get 2 rfl).cell 1;have a6:j.cell? ⟨w.heap.size,2,qa⟩=qb (.slice l.Y l.m l.d):=(a.o.get 2 rfl).cell 2;have a7:j.cell? ⟨w.heap.size,3,qa⟩=qb (.bool h.b):=(a.o.get 2 rfl).cell 3;have a8:j.cell? ⟨w.heap.size,4,qa⟩=qb (.slice h.X h.n h.c):=(a.o.get 2 rfl).cell 4;have a9:j.cell? ⟨w.heap.size,5,qa⟩=qb (.slice h.Y h.m h.d):=(a.o.get 2 rfl).cell 5;have b0:j.cell? ⟨w.heap.size,6,qa⟩=qb (.bool s.li):=(a.o.get 2 rfl).cell 6;have b1:j.cell? ⟨w.heap.size,7,qa⟩=qb (.bool s.hn):=(a.o.get 2 rfl).cell 7;have b2:=(a.o.get 2 rfl).lt;go_upto_if 15 with fail;rw[V.o,k2p];go_wp2_with fail;refine(F.o _ p.o i.o (a.o.std H.o)).mono ?_;rintro e b9 ⟨rfl,f⟩;replace a:=vv (a.o.step f);replace p:=vv (p.o.below f);replace i:=vv (i.o.below f);clear a0 a1 a2 a3 a4 a5 a6 a7 a8 a9 b0 b1 b2 f;have q:=vv (a.o.get 0 rfl);go_wp2_with (with_reducible refine q00 rfl 27 (.tmp 4) (.tmp 19) rfl (w.heap.size+2) [.bool qe,.string S,.int .i64 x] rfl rfl 27 _ q.o (by kernel_rfl) rfl rfl ?_);intro C R u;clear q;have q:=vv (a.o.get 0 rfl);replace a:=vv (a.o.put 0 rfl R u);replace p:=vv (p.o.apart_ q.o rfl u);replace i:=vv (i.o.apart_ q.o rfl u);clear q R u;go_wp2;have b3:C.cell? ⟨(w.heap.size+2),0,qa⟩=qb (.bool qe):=(a.o.get 0 rfl).cell 0;have b4:C.cell? ⟨(w.heap.size+2),1,qa⟩=qb (.string S):=(a.o.get 0 rfl).cell 1;have b5:C.cell? ⟨(w.heap.size+2),2,qa⟩=qb (.int .i64 x):=(a.o.get 0 rfl).cell 2;exact qj (v:=.tuple #[.agg #[.bool qe,.string S,.int .i64 x],.bool qk]) (by simp [results,results26,go_sem,b3,b4,b5]) rfl ⟨rfl,a.o.low⟩
theorem q5U(r l h:RV)(v:Rat)(s:Span)(w:ql)(hr:RI w r v)(hs:SI w l h s)(h0:s.has 0=qe)(hv:v<0)(hlo:s.lo<s.hi)(hin:s.has v=qk)(s1:Qb 2200 s.lo)(s2:Qb 2200 s.hi)(s3:Qb 2200 v)(hst:Std w):qo qh 26 #[spV l h s,r.v] w fun e w'=>e=.returned (.tuple #[(q58 qk (q1z s.flip (-v)):Dcl).v,.bool qk])/\qi w.heap.size w w':=by
 obtain⟨F,b2⟩:=yx (((w.alloc (.cells #[.bool l.b,.slice l.X l.n l.c,.slice l.Y l.m l.d,.bool h.b,.slice h.X h.n h.c,.slice h.Y h.m h.d,.bool s.li,.bool s.hn] 69)).alloc (.cells #[.bool r.b,.slice r.X r.n r.c,.slice r.Y r.m r.d] 39)).alloc (.cells #[.bool qe,.string ⟨#[]⟩,.int .i64 0] 27));have y:Cx w [(w.heap.size+2,27,[.bool qe,.string ⟨#[]⟩,.int .i64 0]),(w.heap.size+1,39,[.bool r.b,.slice r.X r.n r.c,.slice r.Y r.m r.d]),(w.heap.size,69,[.bool l.b,.slice l.X l.n l.c,.slice l.Y l.m l.d,.bool h.b,.slice h.X h.n h.c,.slice h.Y h.m h.d,.bool s.li,.bool s.hn])] F:=by rw[b2];exact(((Cx.nil w).new _ [_,_,_,_,_,_,_,_] rfl).new _ [_,_,_] (by simp)).new _ [_,_,_] (by simp)
 have c9:=vv fun A w' (Q:SI w' l h s) (M:Rd w' A 1 1 (toL 1)) (hst:Std w')=>in_ l h s ⟨qe,qa,0,0,A,1,1⟩ 0 w' Q (RI.zero M) (s1.mono (by decide)) (s2.mono (by decide)) ⟨by decide,by decide⟩ hst
 rw[h0] at c9;have e2:=vv fun w' (k:RI w' r v) (hst:Std w')=>qc7 r v w' k (s3.mono (by decide)) hst
 have d0:=vv fun w' (k:SI w' l h s) (hst:Std w')=>q8T l h s w' k (s1.mono (by decide)) (s2.mono (by decide)) hst
 have V:=vv fun t l2 h2 w' (k:RI w' t (-v)) (M:SI w' l2 h2 s.flip) (hst:Std w')=>qbR t l2 h2 (-v) s.flip w' k M (by grind) (by unfold Span.flip;dsimp only;grind) (by rw[Span.has_flip];exact hin) s2.neg s1.neg s3.neg hst
 have d1:r.b=qk:=hr.sign.trans (k03 (by have:=(Rat.lt_iff v 0).1 hv;simpa using this));have e3:=vv d1;clear d1;unfold q58 Dcl.v;dsimp only;obtain⟨S,hS⟩:=yx (q1g (q17 (q1z s.flip (-v)).1));obtain⟨x,hx⟩:=yx ((q1z s.flip (-v)).2+(Go.Proofs.YtabcgemembkkcaaGreatDoor.Sh.tz (q1z s.flip (-v)).1:Int));rw[<- hS,<- hx] at V ⊢;clear hS hx;have J:=vv (hr.below y.low);have g:=vv (hs.below y.low);have N:=vv hst;have a:=vv y;have HW:=vv b2;clear b2 y hr hs h0 s1 s2 s3 hst hv hlo hin;unfold spV;go_enter func26,ntmps26;go_wp2_with fail;rw[<- HW.o];go_wp2_with fail;have d2:F.cell? ⟨w.heap.size,0,qa⟩=qb (.bool l.b):=(a.o.get 2 rfl).cell 0;have d3:F.cell? ⟨w.heap.size,1,qa⟩=qb (.slice l.X l.n l.c):=(a.o.get 2 rfl).cell 1;have d4:F.cell? ⟨w.heap.size,2,qa⟩=qb (.slice l.Y l.m l.d):=(a.o.get 2 rfl).cell 2;have d5:F.cell? ⟨w.heap.size,3,qa⟩=qb (.bool h.b):=(a.o.get 2 rfl).cell 3;have d6:F.cell? ⟨w.heap.size,4,qa⟩=qb (.slice h.X h.n h.c):=(a.o.get 2 rfl).cell 4;have d7:F.cell? ⟨w.heap.size,5,qa⟩=qb (.slice h.Y h.m h.d):=(a.o.get 2 rfl).cell 5;have d8:F.cell? ⟨w.heap.size,6,qa⟩=qb (.bool s.li):=(a.o.get 2 rfl).cell 6;have d9:F.cell? ⟨w.heap.size,7,qa⟩=qb (.bool s.hn):=(a.o.get 2 rfl).cell 7;have e4:=(a.o.get 2 rfl).lt;refine q02 (fun w'=>w'.cell? ⟨w.heap.size,0,qa⟩=qb (.bool l.b)/\w'.cell? ⟨w.heap.size,1,qa⟩=qb (.slice l.X l.n l.c)/\w'.cell? ⟨w.heap.size,2,qa⟩=qb (.slice l.Y l.m l.d)/\w'.cell? ⟨w.heap.size,3,qa⟩=qb (.bool h.b)/\w'.cell? ⟨w.heap.size,4,qa⟩=qb (.slice h.X h.n h.c)/\w'.cell? ⟨w.heap.size,5,qa⟩=qb (.slice h.Y h.m h.d)/\w'.cell? ⟨w.heap.size,6,qa⟩=qb (.bool s.li)/\w'.cell? ⟨w.heap.size,7,qa⟩=qb (.bool s.hn)) 3
  (.still 0 (.one 1 (.still 2 .done))) (by kernel_rfl) (by kernel_rfl) (fun _ _ d _ _ h=>by cases d<;>exact h) ⟨d2,d3,d4,d5,d6,d7,d8,d9⟩ (fun hS0=>?_)
 iterate 1
  refine q01 (v:=?_) rfl (by rfl) ?_ ?_;rotate_left
  ·intro w R;go_simp;with_reducible rfl
  simp only[Act.put,sa,sb,sc]
 clear e4 d2 d3 d4 d5 d6 d7 d8 d9;obtain⟨e5,O⟩:=yx (F.drew);have f:qi F.heap.size F e5:=by rw[O];exact q05 (qg _ _)
 replace a:=vv (a.o.step f);replace J:=vv (J.o.below f);replace g:=vv (g.o.below f);rw[<- O] at hS0 ⊢;clear O f;refine q03 rfl (by rfl) (fun K hK=>?_);go_simp;refine(Nat_.Of1 _).mono ?_;rintro e f1 ⟨A2,rfl,hR,f⟩;replace a:=vv (a.o.step f);replace J:=vv (J.o.below f);replace g:=vv (g.o.below f);have HO:=vv (RN.mk hR);clear f hR;go_wp2_with fail;refine hK.out _ _ ⟨(a.o.get 2 rfl).cell 0,(a.o.get 2 rfl).cell 1,(a.o.get 2 rfl).cell 2,(a.o.get 2 rfl).cell 3,(a.o.get 2 rfl).cell 4,(a.o.get 2 rfl).cell 5,(a.o.get 2 rfl).cell 6,(a.o.get 2 rfl).cell 7⟩ (fun I=>?_);clear hK
 iterate 1
  refine q01 (v:=?_) rfl (by rfl) ?_ ?_;rotate_left
  ·intro w R;go_simp;with_reducible rfl
  simp only[Act.put,sa,sb,sc]
 refine q07 ?_;simp only[k0H,k0M];go_wp2_with fail;refine(c9.o _ _ g.o HO.o.r (a.o.std N.o)).mono ?_;rintro e b3 ⟨rfl,f⟩;replace a:=vv (a.o.step f);replace J:=vv (J.o.below f);replace g:=vv (g.o.below f);replace HO:=vv (HO.o.below f);clear f;have b5:b3.cell? ⟨(w.heap.size+1),0,qa⟩=qb (.bool r.b):=(a.o.get 1 rfl).cell 0;have b6:b3.cell? ⟨(w.heap.size+1),1,qa⟩=qb (.slice r.X r.n r.c):=(a.o.get 1 rfl).cell 1;have b7:b3.cell? ⟨(w.heap.size+1),2,qa⟩=qb (.slice r.Y r.m r.d):=(a.o.get 1 rfl).cell 2;have b8:=(a.o.get 1 rfl).lt;go_upto_if 15 with fail;rw[e3.o,k2C];go_wp2_with fail;refine(e2.o _ J.o (a.o.std N.o)).mono ?_;rintro e f2 ⟨t,rfl,hQ,f⟩;replace a:=vv (a.o.step f);replace J:=vv (J.o.below f);replace g:=vv (g.o.below f);have q:=vv hQ;clear b5 b6 b7 b8 f hQ;have z:=vv (a.o.get 1 rfl);go_wp2_with (with_reducible refine q00 rfl 39 (.tmp 3) (.tmp 24) rfl (w.heap.size+1) [.bool t.b,.slice t.X t.n t.c,.slice t.Y t.m t.d] rfl rfl 39 _ z.o (by kernel_rfl) rfl rfl ?_);intro C L E;clear z;have z:=vv (a.o.get 1 rfl);replace a:=vv (a.o.put 1 rfl L E);replace g:=vv (g.o.apart_ z.o rfl E);replace q:=vv (q.o.apart_ z.o rfl E);clear z L E;go_wp2_with fail;have a0:C.cell? ⟨w.heap.size,0,qa⟩=qb (.bool l.b):=(a.o.get 2 rfl).cell 0;have a1:C.cell? ⟨w.heap.size,1,qa⟩=qb (.slice l.X l.n l.c):=(a.o.get 2 rfl).cell 1;have a2:C.cell? ⟨w.heap.size,2,qa⟩=qb (.slice l.Y l.m l.d):=(a.o.get 2 rfl).cell 2;have a3:C.cell? ⟨w.heap.size,3,qa⟩=qb (.bool h.b):=(a.o.get 2 rfl).cell 3;have a4:C.cell? ⟨w.heap.size,4,qa⟩=qb (.slice h.X h.n h.c):=(a.o.get 2 rfl).cell 4;have a5:C.cell? ⟨w.heap.size,5,qa⟩=qb (.slice h.Y h.m h.d):=(a.o.get 2 rfl).cell 5;have a6:C.cell? ⟨w.heap.size,6,qa⟩=qb (.bool s.li):=(a.o.get 2 rfl).cell 6;have a7:C.cell? ⟨w.heap.size,7,qa⟩=qb (.bool s.hn):=(a.o.get 2 rfl).cell 7;have a8:C.cell? ⟨(w.heap.size+1),0,qa⟩=qb (.bool t.b):=(a.o.get 1 rfl).cell 0;have a9:C.cell? ⟨(w.heap.size+1),1,qa⟩=qb (.slice t.X t.n t.c):=(a.o.get 1 rfl).cell 1;have b0:C.cell? ⟨(w.heap.size+1),2,qa⟩=qb (.slice t.Y t.m t.d):=(a.o.get 1 rfl).cell 2;have b9:=(a.o.get 2 rfl).lt;have c0:=(a.o.get 1 rfl).lt;refine q02 (fun w'=>w'.cell? ⟨w.heap.size,0,qa⟩=qb (.bool l.b)/\w'.cell? ⟨w.heap.size,1,qa⟩=qb (.slice l.X l.n l.c)/\w'.cell? ⟨w.heap.size,2,qa⟩=qb (.slice l.Y l.m l.d)/\w'.cell? ⟨w.heap.size,3,qa⟩=qb (.bool h.b)/\w'.cell? ⟨w.heap.size,4,qa⟩=qb (.slice h.X h.n h.c)/\w'.cell? ⟨w.heap.size,5,qa⟩=qb (.slice h.Y h.m h.d)/\w'.cell? ⟨w.heap.size,6,qa⟩=qb (.bool s.li)/\w'.cell? ⟨w.heap.size,7,qa⟩=qb (.bool s.hn)/\w'.cell? ⟨(w.heap.size+1),0,qa⟩=qb (.bool t.b)/\w'.cell? ⟨(w.heap.size+1),1,qa⟩=qb (.slice t.X t.n t.c)/\w'.cell? ⟨(w.heap.size+1),2,qa⟩=qb (.slice t.Y t.m t.d)) 9
  (.still 0 (.still 2 (.two 1 (.two 3 (.still 4 (.still 5 (.still 6 (.one 7 (.one 8 .done))))) 7 (.one 3 (.still 4 (.still 5 (.still 6 (.one 8 .done)))))) 7 (.one 1 (.one 3 (.still 4 (.still 5 (.still 6 (.one 8 .done))))))))) (by kernel_rfl) (by kernel_rfl) (fun _ _ d _ _ h=>by cases d<;>exact h) ⟨a0,a1,a2,a3,a4,a5,a6,a7,a8,a9,b0⟩ (fun hS0=>?_)
 iterate 2
  refine q01 (v:=?_) rfl (by rfl) ?_ ?_;rotate_left
  ·intro w R;go_simp;with_reducible rfl
  simp only[Act.put,sa,sb,sc]
 clear b9 c0 a0 a1 a2 a3 a4 a5 a6 a7 a8 a9 b0;obtain⟨P,O⟩:=yx (C.drew);have f:qi C.heap.size C P:=by rw[O];exact q05 (qg _ _)
 replace a:=vv (a.o.step f);replace g:=vv (g.o.below f);replace q:=vv (q.o.below f);rw[<- O] at hS0 ⊢;clear O f;refine q0C rfl (by rfl) rfl (by rfl) (fun K hK=>?_) (fun K hK=>?_)
 focus
  go_simp;refine(d0.o P g.o (a.o.std N.o)).mono ?_;rintro e W ⟨l2,h2,rfl,T,f⟩;replace a:=vv (a.o.step f);replace g:=vv (g.o.below f);replace q:=vv (q.o.below f);have u:=vv T;clear f T;go_wp2_with fail;refine hK.out _ _ ⟨(a.o.get 2 rfl).cell 0,(a.o.get 2 rfl).cell 1,(a.o.get 2 rfl).cell 2,(a.o.get 2 rfl).cell 3,(a.o.get 2 rfl).cell 4,(a.o.get 2 rfl).cell 5,(a.o.get 2 rfl).cell 6,(a.o.get 2 rfl).cell 7,(a.o.get 1 rfl).cell 0,(a.o.get 1 rfl).cell 1,(a.o.get 1 rfl).cell 2⟩ (fun I=>?_);clear hK;refine q0C rfl (by rfl) rfl (by rfl) (fun K hK=>?_) (fun K hK=>?_)
  focus
   go_simp;refine(V.o _ _ _ _ q.o u.o (a.o.std N.o)).mono ?_;rintro e Z ⟨rfl,f⟩;replace a:=vv (a.o.step f);replace g:=vv (g.o.below f);replace q:=vv (q.o.below f);replace u:=vv (u.o.below f);clear f;go_wp2_with fail;refine hK.out _ _ ⟨(a.o.get 2 rfl).cell 0,(a.o.get 2 rfl).cell 1,(a.o.get 2 rfl).cell 2,(a.o.get 2 rfl).cell 3,(a.o.get 2 rfl).cell 4,(a.o.get 2 rfl).cell 5,(a.o.get 2 rfl).cell 6,(a.o.get 2 rfl).cell 7,(a.o.get 1 rfl).cell 0,(a.o.get 1 rfl).cell 1,(a.o.get 1 rfl).cell 2⟩ (fun I=>?_);clear hK
   iterate 3
    refine q01 (v:=?_) rfl (by rfl) ?_ ?_;rotate_left
    ·intro w R;go_simp;with_reducible rfl
    simp only[Act.put,sa,sb,sc]
   refine q03 rfl (by rfl) (fun K hK=>?_);go_simp;obtain⟨H,G⟩:=yx (Z.heap.size);obtain⟨e0,D⟩:=yx (Z.alloc (.cells #[.bool qe,.string ⟨#[]⟩,.int .i64 0] 27));have f:qi Z.heap.size Z e0:=by rw[D];exact(qg _ _).alloc lr _
   have y:=a.o.new 27 [.bool qe,.string ⟨#[]⟩,.int .i64 0] G;rw[<- D] at y
   try rw[<- D]
   try rw[<- G]
   replace a:=vv y;replace g:=vv (g.o.below f);replace q:=vv (q.o.below f);replace u:=vv (u.o.below f);clear f y D G;refine hK.out _ _ ⟨(a.o.get 3 rfl).cell 0,(a.o.get 3 rfl).cell 1,(a.o.get 3 rfl).cell 2,(a.o.get 3 rfl).cell 3,(a.o.get 3 rfl).cell 4,(a.o.get 3 rfl).cell 5,(a.o.get 3 rfl).cell 6,(a.o.get 3 rfl).cell 7,(a.o.get 2 rfl).cell 0,(a.o.get 2 rfl).cell 1,(a.o.get 2 rfl).cell 2⟩ (fun I=>?_);clear hK;obtain⟨wz,U⟩:=yx (e0);subst U
  rotate_left 1
  focus
   go_simp;obtain⟨H,G⟩:=yx (W.heap.size);obtain⟨e6,D⟩:=yx (W.alloc (.cells #[.bool qe,.string ⟨#[]⟩,.int .i64 0] 27));have f:qi W.heap.size W e6:=by rw[D];exact(qg _ _).alloc lr _
   have y:=a.o.new 27 [.bool qe,.string ⟨#[]⟩,.int .i64 0] G;rw[<- D] at y
   try rw[<- D]
   try rw[<- G]
   replace a:=vv y;replace g:=vv (g.o.below f);replace q:=vv (q.o.below f);replace u:=vv (u.o.below f);clear f y D G;refine hK.out _ _ ⟨(a.o.get 3 rfl).cell 0,(a.o.get 3 rfl).cell 1,(a.o.get 3 rfl).cell 2,(a.o.get 3 rfl).cell 3,(a.o.get 3 rfl).cell 4,(a.o.get 3 rfl).cell 5,(a.o.get 3 rfl).cell 6,(a.o.get 3 rfl).cell 7,(a.o.get 2 rfl).cell 0,(a.o.get 2 rfl).cell 1,(a.o.get 2 rfl).cell 2⟩ (fun I=>?_);clear hK;refine q03 rfl (by rfl) (fun K hK=>?_);go_simp;refine(V.o _ _ _ _ q.o u.o (a.o.std N.o)).mono ?_;rintro e e7 ⟨rfl,f⟩;replace a:=vv (a.o.step f);replace g:=vv (g.o.below f);replace q:=vv (q.o.below f);replace u:=vv (u.o.below f);clear f;go_wp2_with fail;refine hK.out _ _ ⟨(a.o.get 3 rfl).cell 0,(a.o.get 3 rfl).cell 1,(a.o.get 3 rfl).cell 2,(a.o.get 3 rfl).cell 3,(a.o.get 3 rfl).cell 4,(a.o.get 3 rfl).cell 5,(a.o.get 3 rfl).cell 6,(a.o.get 3 rfl).cell 7,(a.o.get 2 rfl).cell 0,(a.o.get 2 rfl).cell 1,(a.o.get 2 rfl).cell 2⟩ (fun I=>?_);clear hK
   iterate 3
    refine q01 (v:=?_) rfl (by rfl) ?_ ?_;rotate_left
    ·intro w R;go_simp;with_reducible rfl
    simp only[Act.put,sa,sb,sc]
   obtain⟨wz,U⟩:=yx (e7);subst U
 rotate_left 2
 focus
  go_simp;obtain⟨H,G⟩:=yx (P.heap.size);obtain⟨e1,D⟩:=yx (P.alloc (.cells #[.bool qe,.string ⟨#[]⟩,.int .i64 0] 27));have f:qi P.heap.size P e1:=by rw[D];exact(qg _ _).alloc lr _
  have y:=a.o.new 27 [.bool qe,.string ⟨#[]⟩,.int .i64 0] G;rw[<- D] at y
  try rw[<- D]
  try rw[<- G]
  replace a:=vv y;replace g:=vv (g.o.below f);replace q:=vv (q.o.below f);clear f y D G;refine hK.out _ _ ⟨(a.o.get 3 rfl).cell 0,(a.o.get 3 rfl).cell 1,(a.o.get 3 rfl).cell 2,(a.o.get 3 rfl).cell 3,(a.o.get 3 rfl).cell 4,(a.o.get 3 rfl).cell 5,(a.o.get 3 rfl).cell 6,(a.o.get 3 rfl).cell 7,(a.o.get 2 rfl).cell 0,(a.o.get 2 rfl).cell 1,(a.o.get 2 rfl).cell 2⟩ (fun I=>?_);clear hK;refine q03 rfl (by rfl) (fun K hK=>?_);go_simp;refine(d0.o e1 g.o (a.o.std N.o)).mono ?_;rintro e f3 ⟨l2,h2,rfl,T,f⟩;replace a:=vv (a.o.step f);replace g:=vv (g.o.below f);replace q:=vv (q.o.below f);have u:=vv T;clear f T;go_wp2_with fail;refine hK.out _ _ ⟨(a.o.get 3 rfl).cell 0,(a.o.get 3 rfl).cell 1,(a.o.get 3 rfl).cell 2,(a.o.get 3 rfl).cell 3,(a.o.get 3 rfl).cell 4,(a.o.get 3 rfl).cell 5,(a.o.get 3 rfl).cell 6,(a.o.get 3 rfl).cell 7,(a.o.get 2 rfl).cell 0,(a.o.get 2 rfl).cell 1,(a.o.get 2 rfl).cell 2⟩ (fun I=>?_);clear hK;refine q03 rfl (by rfl) (fun K hK=>?_);go_simp;refine(V.o _ _ _ _ q.o u.o (a.o.std N.o)).mono ?_;rintro e e8 ⟨rfl,f⟩;replace a:=vv (a.o.step f);replace g:=vv (g.o.below f);replace q:=vv (q.o.below f);replace u:=vv (u.o.below f);clear f;go_wp2_with fail;refine hK.out _ _ ⟨(a.o.get 3 rfl).cell 0,(a.o.get 3 rfl).cell 1,(a.o.get 3 rfl).cell 2,(a.o.get 3 rfl).cell 3,(a.o.get 3 rfl).cell 4,(a.o.get 3 rfl).cell 5,(a.o.get 3 rfl).cell 6,(a.o.get 3 rfl).cell 7,(a.o.get 2 rfl).cell 0,(a.o.get 2 rfl).cell 1,(a.o.get 2 rfl).cell 2⟩ (fun I=>?_);clear hK
  iterate 3
   refine q01 (v:=?_) rfl (by rfl) ?_ ?_;rotate_left
   ·intro w R;go_simp;with_reducible rfl
   simp only[Act.put,sa,sb,sc]
  obtain⟨wz,U⟩:=yx (e8);subst U
 all_goals
  refine q03 rfl (by rfl) (fun K hK=>?_);have z:=vv (a.o.get 0 rfl)
  with_reducible refine q0u 27 (.tmp 6) (.tmp 31) rfl H [.bool qe,.string S,.int .i64 x] rfl rfl 27 _ z.o (by kernel_rfl) rfl rfl ?_
  intro b1 L E;replace a:=vv (a.o.put 0 rfl L E);replace g:=vv (g.o.apart_ z.o rfl E);replace q:=vv (q.o.apart_ z.o rfl E);replace u:=vv (u.o.apart_ z.o rfl E);clear z L E;refine hK.out _ _ ⟨(a.o.get 3 rfl).cell 0,(a.o.get 3 rfl).cell 1,(a.o.get 3 rfl).cell 2,(a.o.get 3 rfl).cell 3,(a.o.get 3 rfl).cell 4,(a.o.get 3 rfl).cell 5,(a.o.get 3 rfl).cell 6,(a.o.get 3 rfl).cell 7,(a.o.get 2 rfl).cell 0,(a.o.get 2 rfl).cell 1,(a.o.get 2 rfl).cell 2⟩ (fun I=>?_);clear hK;refine q07 ?_;simp only[k0H,k0M];have c1:b1.cell? ⟨H,0,qa⟩=qb (.bool qe):=(a.o.get 0 rfl).cell 0;have c2:b1.cell? ⟨H,1,qa⟩=qb (.string S):=(a.o.get 0 rfl).cell 1;have c3:b1.cell? ⟨H,2,qa⟩=qb (.int .i64 x):=(a.o.get 0 rfl).cell 2;have c4:=(a.o.get 0 rfl).lt;have c5:=(a.o.get 0 rfl).fz 0;have c6:=(a.o.get 0 rfl).fz 1;have c7:=(a.o.get 0 rfl).fz 2;have z:=vv (a.o.get 1 rfl);have c8:qq (H≠w.heap.size+2):=vv (qbi a.o.pw (i:=0) (j:=1) (by decide) rfl rfl);have e9:qq (w.heap.size<=H):=vv (a.o.ge _ (.head _));have b4:qq (qi w.heap.size w (b1.setCell ⟨H,0,qa⟩ (.bool qk))):=vv (a.o.low.setCell (p:=⟨H,0,qa⟩) e9.o _);go_wp2_with (with_reducible refine q00 rfl 27 (.tmp 4) (.tmp 35) rfl (w.heap.size+2) [.bool qk,.string S,.int .i64 x] rfl rfl 27 _ (z.o.other (p:=⟨H,0,qa⟩) c8.o _) (by kernel_rfl) rfl rfl ?_);intro w7 L E;have f0:=vv (q0a b4.o E b4.o.size (Nat.le_add_right _ _));obtain⟨Q,M,k2⟩:=Go.Proofs.YtabcgemembkkcaaGreatDoor.Fms.blk3 L;have K:=vv (And.intro Q (And.intro M k2));clear L E Q M k2 b4 z;clear c1 c2 c3 c4 c5 c6 c7;go_wp2;obtain⟨Q,M,k2⟩:=K.o;exact qj (v:=.tuple #[.agg #[.bool qk,.string S,.int .i64 x],.bool qk]) (by simp [results,results26,go_sem,Q,M,k2]) rfl ⟨rfl,f0.o⟩
theorem q6v(r l h:RV)(v:Rat)(s:Span)(w:ql)(hr:RI w r v)(hs:SI w l h s)(hlo:s.lo<s.hi)(hin:s.has v=qk)(s1:Qb 2200 s.lo)(s2:Qb 2200 s.hi)(s3:Qb 2200 v)(hst:Std w):qo qh 26 #[spV l h s,r.v] w fun e w'=>e=.returned (.tuple #[(q1l s v).v,.bool qk])/\qi w.heap.size w w':=by
 unfold q1l;cases h0:s.has 0
 ·rw[k0o (by decide)];by_cases hn:v.num<0
  ·rw[k0n hn];exact q5U r l h v s w hr hs h0 ((Rat.lt_iff v 0).2 (by simpa using hn)) hlo hin s1 s2 s3 hst
  ·rw[k0o hn];have a:0<=v:=Rat.num_nonneg.1 (by omega);have b:v≠0:=fun e=>by rw[e,h0] at hin;exact absurd hin (by decide)
   exact q5T r l h v s w hr hs h0 (by grind) hlo hin s1 s2 s3 hst
 ·rw[k0n rfl];exact q4N r l h v s w hr hs h0 s1 s2 s3 hst
end Sho
namespace Sho
open Go Go.RowKit R5 Scn Sh Rtp Fms Exa Nea
def q0c(E F b mode:Nat):Dcl:=if q1h E F b=0 then⟨q1V E F b,⟨#[]⟩,0⟩ else q1l (q0R E F b mode) (q4J E F b)
def qaM(d:Dcl)(w:ql)(e:Ending)(w':ql):Prop:=e=.returned (.tuple #[d.v,.int .i64 0])/\qi w.heap.size w w'
theorem q79(hb:b<2^(1+E+F)):q2x E F b=q1V E F b:=by
 have a:=k0c (E+F);have c:(2:Nat)^(1+E+F)=2*2^(E+F):=by rw[show 1+E+F=(E+F)+1 by omega,k0a,k0b]
 unfold q2x q1V;rw[k11 F E];by_cases h:2^(E+F)<=b
 ·rw[k1A (k:=1) (by omega) (by omega),k03 h];rfl
 ·rw[k0N (by omega),k00 h];rfl
theorem qa6(E F b:Nat):q1h E F b%2^F=q0W F b:=by unfold q1h q0W;exact Nat.mod_mod_of_dvd _ ⟨2^E,by rw[<- k0h,k11]⟩
theorem qaR(E F b:Nat):sq (q1V E F b) (wv E F (q1h E F b))=q4J E F b:=rfl
theorem q9y(E F b:Nat)(w:ql)(h1:2<=E)(h2:E<=11)(h3:1<=F)(h4:F<=52)(hb:b<2^(1+E+F))(hf:q0E E F b≠2^E-1)(hst:Std w):qo qh 24 #[fm E F,.int .u64 (b:Int)] w fun e w'=>∃ng A n N x,e=.returned (.tuple #[q14 ng A n n x,.int .i64 0])/\DQ w' A n n N x (wv E F (q1h E F b))/\(q1h E F b=0->n=0/\ng=qe)/\(0<q1h E F b->0<N/\0<n/\ng=q1V E F b)/\qi w.heap.size w w':=by
 have p:q1h E F b<2^(E+F):=k0j _ (k0c _);have q:=q5z E F b;have r:=qa6 E F b;refine(Go.Proofs.YtabcgemembkkcaaGreatDoor.Exa.ValueF E F b w h1 h2 h3 h4 hb hf hst).mono ?_;rw[q79 hb,<- q,<- r];show ∀e w',q9b (q1V E F b) (mgN F (q1h E F b)) (mgX E F (q1h E F b)) w e w'->_;obtain⟨t,u⟩:=q4y h1 h2 h4 p;generalize q1h E F b=m at *
 have v:bl (mgN F m)<=60:=by have:=q0A (q5A F m);omega
 have o:Rb (wv E F m):=Rb.dq (by omega) (by omega) (by omega);intro e w' d;unfold q9b at d;split at d
 ·rename_i h0;obtain⟨f,k,rfl,a,-,g⟩:=d;have c:k=0:=by have:=a.words;rw[q0s] at this;exact this.symm
  have s:wv E F m=0:=by unfold wv;rw[h0,q25]
  rw[s];refine⟨qe,f,k,0,0,rfl,DQ.of_zero a (fun _=>c),fun _=>⟨c,rfl⟩,fun h=>?_,g⟩;have:=q7i (F:=F) h;omega
 ·rename_i h0;obtain⟨f,k,rfl,a,-,g⟩:=d;have i:(mgN F m/2^Go.Proofs.YtabcgemembkkcaaGreatDoor.tz (mgN F m))%2=1:=by
   have:=Hx.oddN_odd (M:=mgN F m) (by omega);unfold Hx.oddN at this
   rwa [k0o h0] at this
  have c:0<k:=by
   rcases k01 k with j|j
   ·have:=a.words;rw[j,q06] at this;omega
   ·exact j
  refine⟨q1V E F b,f,k,_,_,rfl,DQ.of_odd a i (q77 (by omega) _).symm o (fun e=>?_),fun h=>?_,fun _=>⟨k0G fun e=>by rw[e] at i;exact absurd i (by decide),c,rfl⟩,g⟩
  ·obtain⟨b,off,l,-⟩:=a.cell c;rw[e] at l;cases l
  ·exfalso;apply h0;rw[h];unfold mgN mantOf;simp
theorem q6n(E F b mode:Nat)(w:ql)(h1:2<=E)(h2:E<=11)(h3:1<=F)(h4:F<=52)(hb:b<2^(1+E+F))(hf:q0E E F b≠2^E-1)(hmo:mode<=4)(hm:0<q1h E F b)(hst:Std w):qo qh 8 #[fm E F,.int .u64 (b:Int),.int .u8 (mode:Int)] w (qaM (q0c E F b mode) w):=by
 obtain⟨T,O⟩:=yx ((w.alloc (.cells #[.int .i64 (E:Int),.int .i64 (F:Int)] 23)).alloc (.cells #[.bool qe,.string ⟨#[]⟩,.int .i64 0] 27));have i:Cx w [(w.heap.size+1,27,[.bool qe,.string ⟨#[]⟩,.int .i64 0]),(w.heap.size,23,[.int .i64 (E:Int),.int .i64 (F:Int)])] T:=by rw[O];exact((Cx.nil w).new _ [_,_] rfl).new _ [_,_,_] (by simp)
 have V:=vv fun w' hs=>q9C E F b mode w' h1 h2 h3 h4 hb hf hmo hs
 have I:=vv fun w'=>q7Y E F b w' h1 h2 h3 h4 hb
 rw[q79 hb] at I;have P:=vv fun w' hs=>q9y E F b w' h1 h2 h3 h4 hb hf hs
 obtain⟨xo,W⟩:=yx (q0E E F b);obtain⟨fo,Z⟩:=yx (q0W F b);rw[<- W,<- Z] at I;have J:qq (∀A n c N x w',DQ w' A n c N x (wv E F (q1h E F b))->0<N->qo qh 25 #[q14 (q1V E F b) A n c x] w' (RvP (q4J E F b) w')):=vv fun A n c N x w' k k0=>by
  have:=(q9D (q1V E F b) A n c N x _ w' k (fun _=>k0)).mono fun e w'' h=>RvP.of h
  rwa [qaR] at this
 obtain⟨q1,q2⟩:=q8y E F b mode hm;obtain⟨q3,q4,q5⟩:=q8z (E:=E) (F:=F) (b:=b) (mode:=mode) h1 h2 h4;have K:=vv fun r l h w' (hr:RI w' r (q4J E F b)) (hs:SI w' l h (q0R E F b mode)) (hst:Std w')=>q6v r l h _ _ w' hr hs q1 q2 q3 q4 q5 hst
 have b6:q0c E F b mode=q1l (q0R E F b mode) (q4J E F b):=by unfold q0c;rw[k0o (by omega)]
 obtain⟨d,U⟩:=yx (q1l (q0R E F b mode) (q4J E F b));rw[b6,<- U];rw[<- U] at K;obtain⟨v,hv⟩:=yx (q4J E F b);rw[<- hv] at J K;obtain⟨mg,b7⟩:=yx (wv E F (q1h E F b));rw[<- b7] at J P;have a0:qq (∀w',Std w'->qo qh 24 #[fm E F,.int .u64 (b:Int)] w' fun e w''=>∃A n N x,e=.returned (.tuple #[q14 (q1V E F b) A n n x,.int .i64 0])/\DQ w'' A n n N x mg/\0<N/\((n:Int)==0)=qe/\qi w'.heap.size w' w''):=vv fun w' hs=>(P.o w' hs).mono fun e w'' ⟨C,A,n,N,x,k1,k2,_,k3,k4⟩=>by obtain⟨j1,j2,j3⟩:=k3 hm;subst j3;exact⟨A,n,N,x,k1,k2,j1,k09.2 (by omega),k4⟩
 obtain⟨sp,b8⟩:=yx (q0R E F b mode);rw[<- b8] at V K;obtain⟨C,b9⟩:=yx (q1V E F b);rw[<- b9] at I a0 J;have Q:=vv hst;have a:=vv i;have HW:=vv O;clear O i hst W Z b6 U hv b7 b8 b9 P q1 q2 q3 q4 q5 hm hb hf hmo;have c1:T.cell? ⟨w.heap.size,0,qa⟩=qb (.int .i64 (E:Int)):=(a.o.get 1 rfl).cell 0;have c2:T.cell? ⟨w.heap.size,1,qa⟩=qb (.int .i64 (F:Int)):=(a.o.get 1 rfl).cell 1;have c3:=(a.o.get 1 rfl).lt;go_enter func8,ntmps8;go_wp2_with fail;rw[<- HW.o];go_wp2_with fail;refine(V.o _ (a.o.std Q.o)).mono ?_;rintro e y ⟨l,h,rfl,hS,f⟩;replace a:=vv (a.o.step f);have j:=vv hS;clear c1 c2 c3 f hS;have c4:y.cell? ⟨w.heap.size,0,qa⟩=qb (.int .i64 (E:Int)):=(a.o.get 1 rfl).cell 0;have c5:y.cell? ⟨w.heap.size,1,qa⟩=qb (.int .i64 (F:Int)):=(a.o.get 1 rfl).cell 1;have c6:=(a.o.get 1 rfl).lt;go_wp2_with fail;obtain⟨t,p⟩:=yx (y.heap.size);obtain⟨D,g⟩:=yx (y.alloc (.cells #[.bool l.b,.slice l.X l.n l.c,.slice l.Y l.m l.d] 39));have f:qi y.heap.size y D:=by rw[g];exact(qg _ _).alloc lr _
 have i:=a.o.new 39 [.bool l.b,.slice l.X l.n l.c,.slice l.Y l.m l.d] p;have a1:(t+1:Nat)=D.heap.size:=by rw[g,qn,<- p]
 rw[<- g] at i 
 try rw[<- g]
 try rw[<- p]
 replace a:=vv i;replace j:=vv (j.o.below f);clear c4 c5 c6 g f i p;obtain⟨c7,g⟩:=yx (D.alloc (.cells #[.bool h.b,.slice h.X h.n h.c,.slice h.Y h.m h.d] 39));have f:qi D.heap.size D c7:=by rw[g];exact(qg _ _).alloc lr _
 have i:=a.o.new 39 [.bool h.b,.slice h.X h.n h.c,.slice h.Y h.m h.d] a1;rw[<- g] at i 
 try rw[<- g]
 replace a:=vv i;replace j:=vv (j.o.below f);clear g f i a1;refine(I.o _).mono ?_;rintro e z ⟨rfl,f⟩;replace a:=vv (a.o.step f);replace j:=vv (j.o.below f);clear f;have a2:z.cell? ⟨w.heap.size,0,qa⟩=qb (.int .i64 (E:Int)):=(a.o.get 3 rfl).cell 0;have a3:z.cell? ⟨w.heap.size,1,qa⟩=qb (.int .i64 (F:Int)):=(a.o.get 3 rfl).cell 1;have a4:=(a.o.get 3 rfl).lt;go_wp2_with fail;obtain⟨d2,p⟩:=yx (z.heap.size);obtain⟨c8,g⟩:=yx (z.alloc (.cells #[.bool C,.int .i64 (xo:Int),.int .u64 (fo:Int)] 58));have f:qi z.heap.size z c8:=by rw[g];exact(qg _ _).alloc lr _
 have i:=a.o.new 58 [.bool C,.int .i64 (xo:Int),.int .u64 (fo:Int)] p;rw[<- g] at i 
 try rw[<- g]
 try rw[<- p]
 replace a:=vv i;replace j:=vv (j.o.below f);clear a2 a3 a4 g f i p;refine(a0.o _ (a.o.std Q.o)).mono ?_;rintro e L ⟨A,n,N,x,rfl,hD,hN,hn,f⟩;replace a:=vv (a.o.step f);replace j:=vv (j.o.below f);have G:=vv hD;have HN:=vv hN;clear f hD hN;go_wp2_with fail;obtain⟨d3,p⟩:=yx (L.heap.size);obtain⟨c9,g⟩:=yx (L.alloc (.cells #[.bool C,.slice A n n,.int .i64 x] 62));have f:qi L.heap.size L c9:=by rw[g];exact(qg _ _).alloc lr _
 have i:=a.o.new 62 [.bool C,.slice A n n,.int .i64 x] p;rw[<- g] at i 
 try rw[<- g]
 try rw[<- p]
 replace a:=vv i;replace j:=vv (j.o.below f);replace G:=vv (G.o.below f);clear g f i p;refine(J.o _ _ _ _ _ _ G.o HN.o).mono ?_;rintro e q ⟨r,rfl,hI,f⟩;replace a:=vv (a.o.step f);replace j:=vv (j.o.below f);replace G:=vv (G.o.below f);have s:=vv hI;clear f hI;have a5:q.cell? ⟨(t+1),0,qa⟩=qb (.bool h.b):=(a.o.get 2 rfl).cell 0;have a6:q.cell? ⟨(t+1),1,qa⟩=qb (.slice h.X h.n h.c):=(a.o.get 2 rfl).cell 1;have a7:q.cell? ⟨(t+1),2,qa⟩=qb (.slice h.Y h.m h.d):=(a.o.get 2 rfl).cell 2;have a8:=(a.o.get 2 rfl).lt;have a9:q.cell? ⟨t,0,qa⟩=qb (.bool l.b):=(a.o.get 3 rfl).cell 0;have b0:q.cell? ⟨t,1,qa⟩=qb (.slice l.X l.n l.c):=(a.o.get 3 rfl).cell 1;have b1:q.cell? ⟨t,2,qa⟩=qb (.slice l.Y l.m l.d):=(a.o.get 3 rfl).cell 2;have b2:=(a.o.get 3 rfl).lt;go_wp2_with fail;obtain⟨d4,p⟩:=yx (q.heap.size);obtain⟨d0,g⟩:=yx (q.alloc (.cells #[.bool r.b,.slice r.X r.n r.c,.slice r.Y r.m r.d] 39));have f:qi q.heap.size q d0:=by rw[g];exact(qg _ _).alloc lr _
 have i:=a.o.new 39 [.bool r.b,.slice r.X r.n r.c,.slice r.Y r.m r.d] p;rw[<- g] at i 
 try rw[<- g]
 try rw[<- p]
 replace a:=vv i;replace j:=vv (j.o.below f);replace s:=vv (s.o.below f);clear a5 a6 a7 a8 a9 b0 b1 b2 g f i p;refine(K.o _ _ _ _ s.o j.o (a.o.std Q.o)).mono ?_;rintro e M ⟨rfl,f⟩;replace a:=vv (a.o.step f);replace j:=vv (j.o.below f);replace s:=vv (s.o.below f);clear f;have u:=vv (a.o.get 5 rfl);go_wp2_with (with_reducible refine q00 rfl 27 (.tmp 6) (.tmp 76) rfl (w.heap.size+1) [.bool d.neg,.string d.S,.int .i64 d.x] rfl rfl 27 _ (u.o.alloc _) (by kernel_rfl) rfl rfl ?_);intro R c0 H;clear u;obtain⟨d5,p⟩:=yx (M.heap.size);obtain⟨d1,g⟩:=yx (M.alloc (.cells #[.bool d.neg,.string d.S,.int .i64 d.x] 27));have f:qi M.heap.size M d1:=by rw[g];exact(qg _ _).alloc lr _
 have i:=a.o.new 27 [.bool d.neg,.string d.S,.int .i64 d.x] p;rw[<- g] at i H
 try rw[<- g]
 try rw[<- p]
 replace a:=vv i;replace j:=vv (j.o.below f);replace s:=vv (s.o.below f);clear g f i p;have u:=vv (a.o.get 6 rfl);replace a:=vv (a.o.put 6 rfl c0 H);replace j:=vv (j.o.apart_ u.o rfl H);replace s:=vv (s.o.apart_ u.o rfl H);clear u c0 H;go_wp2;have b3:R.cell? ⟨(w.heap.size+1),0,qa⟩=qb (.bool d.neg):=(a.o.get 6 rfl).cell 0;have b4:R.cell? ⟨(w.heap.size+1),1,qa⟩=qb (.string d.S):=(a.o.get 6 rfl).cell 1;have b5:R.cell? ⟨(w.heap.size+1),2,qa⟩=qb (.int .i64 d.x):=(a.o.get 6 rfl).cell 2;exact qj (v:=.tuple #[d.v,.int .i64 0]) (by simp [results,results8,go_sem,b3,b4,b5]) rfl ⟨rfl,a.o.low⟩
theorem q5f(E F b mode:Nat)(w:ql)(h1:2<=E)(h2:E<=11)(h3:1<=F)(h4:F<=52)(hb:b<2^(1+E+F))(hf:q0E E F b≠2^E-1)(hmo:mode<=4)(hm:q1h E F b=0)(hst:Std w):qo qh 8 #[fm E F,.int .u64 (b:Int),.int .u8 (mode:Int)] w (qaM (q0c E F b mode) w):=by
 obtain⟨J,D⟩:=yx ((w.alloc (.cells #[.int .i64 (E:Int),.int .i64 (F:Int)] 23)).alloc (.cells #[.bool qe,.string ⟨#[]⟩,.int .i64 0] 27));have i:Cx w [(w.heap.size+1,27,[.bool qe,.string ⟨#[]⟩,.int .i64 0]),(w.heap.size,23,[.int .i64 (E:Int),.int .i64 (F:Int)])] J:=by rw[D];exact((Cx.nil w).new _ [_,_] rfl).new _ [_,_,_] (by simp)
 have M:=vv fun w' hs=>q9C E F b mode w' h1 h2 h3 h4 hb hf hmo hs
 have z:=vv fun w'=>q7Y E F b w' h1 h2 h3 h4 hb
 rw[q79 hb] at z;have G:=vv fun w' hs=>q9y E F b w' h1 h2 h3 h4 hb hf hs
 obtain⟨K,O⟩:=yx (q0E E F b);obtain⟨L,P⟩:=yx (q0W F b);rw[<- O,<- P] at z;have Q:q0c E F b mode=⟨q1V E F b,⟨#[]⟩,0⟩:=by unfold q0c;rw[k0n hm]
 rw[Q];obtain⟨mg,R⟩:=yx (wv E F (q1h E F b));rw[<- R] at G;have a0:qq (∀w',Std w'->qo qh 24 #[fm E F,.int .u64 (b:Int)] w' fun e w''=>∃A N x,e=.returned (.tuple #[q14 qe A 0 0 x,.int .i64 0])/\DQ w'' A 0 0 N x mg/\qi w'.heap.size w' w''):=vv fun w' hs=>(G.o w' hs).mono fun e w'' ⟨q,A,n,N,x,k1,k2,k3,_,k4⟩=>by obtain⟨j1,j2⟩:=k3 hm;subst j1 j2;exact⟨A,N,x,k1,k2,k4⟩
 obtain⟨sp,S⟩:=yx (q0R E F b mode);rw[<- S] at M;obtain⟨q,T⟩:=yx (q1V E F b);rw[<- T] at z ⊢;have U:=vv hst;have a:=vv i;have HW:=vv D;clear D i hst O P Q R S T G hm hb hf hmo;have b1:J.cell? ⟨w.heap.size,0,qa⟩=qb (.int .i64 (E:Int)):=(a.o.get 1 rfl).cell 0;have b2:J.cell? ⟨w.heap.size,1,qa⟩=qb (.int .i64 (F:Int)):=(a.o.get 1 rfl).cell 1;have b3:=(a.o.get 1 rfl).lt;go_enter func8,ntmps8;go_wp2_with fail;rw[<- HW.o];go_wp2_with fail;refine(M.o _ (a.o.std U.o)).mono ?_;rintro e s ⟨l,h,rfl,Z,f⟩;replace a:=vv (a.o.step f);have j:=vv Z;clear b1 b2 b3 f Z;have b4:s.cell? ⟨w.heap.size,0,qa⟩=qb (.int .i64 (E:Int)):=(a.o.get 1 rfl).cell 0;have b5:s.cell? ⟨w.heap.size,1,qa⟩=qb (.int .i64 (F:Int)):=(a.o.get 1 rfl).cell 1;have b6:=(a.o.get 1 rfl).lt;go_wp2_with fail;obtain⟨b7,k⟩:=yx (s.heap.size);obtain⟨u,g⟩:=yx (s.alloc (.cells #[.bool l.b,.slice l.X l.n l.c,.slice l.Y l.m l.d] 39));have f:qi s.heap.size s u:=by rw[g];exact(qg _ _).alloc lr _
 have i:=a.o.new 39 [.bool l.b,.slice l.X l.n l.c,.slice l.Y l.m l.d] k;have V:(b7+1:Nat)=u.heap.size:=by rw[g,qn,<- k]
 rw[<- g] at i 
 try rw[<- g]
 try rw[<- k]
 replace a:=vv i;replace j:=vv (j.o.below f);clear b4 b5 b6 g f i k;obtain⟨b8,g⟩:=yx (u.alloc (.cells #[.bool h.b,.slice h.X h.n h.c,.slice h.Y h.m h.d] 39));have f:qi u.heap.size u b8:=by rw[g];exact(qg _ _).alloc lr _
 have i:=a.o.new 39 [.bool h.b,.slice h.X h.n h.c,.slice h.Y h.m h.d] V;rw[<- g] at i 
 try rw[<- g]
 replace a:=vv i;replace j:=vv (j.o.below f);clear g f i V;refine(z.o _).mono ?_;rintro e t ⟨rfl,f⟩;replace a:=vv (a.o.step f);replace j:=vv (j.o.below f);clear f;have a1:t.cell? ⟨w.heap.size,0,qa⟩=qb (.int .i64 (E:Int)):=(a.o.get 3 rfl).cell 0;have a2:t.cell? ⟨w.heap.size,1,qa⟩=qb (.int .i64 (F:Int)):=(a.o.get 3 rfl).cell 1;have a3:=(a.o.get 3 rfl).lt;go_wp2_with fail;obtain⟨H,k⟩:=yx (t.heap.size);obtain⟨b9,g⟩:=yx (t.alloc (.cells #[.bool q,.int .i64 (K:Int),.int .u64 (L:Int)] 58));have f:qi t.heap.size t b9:=by rw[g];exact(qg _ _).alloc lr _
 have i:=a.o.new 58 [.bool q,.int .i64 (K:Int),.int .u64 (L:Int)] k;rw[<- g] at i 
 try rw[<- g]
 try rw[<- k]
 replace a:=vv i;replace j:=vv (j.o.below f);clear a1 a2 a3 g f i k;refine(a0.o _ (a.o.std U.o)).mono ?_;rintro e p ⟨A,N,x,rfl,hD,f⟩;replace a:=vv (a.o.step f);replace j:=vv (j.o.below f);have C:=vv hD;clear f hD;have a4:p.cell? ⟨H,0,qa⟩=qb (.bool q):=(a.o.get 0 rfl).cell 0;have a5:p.cell? ⟨H,1,qa⟩=qb (.int .i64 (K:Int)):=(a.o.get 0 rfl).cell 1;have a6:p.cell? ⟨H,2,qa⟩=qb (.int .u64 (L:Int)):=(a.o.get 0 rfl).cell 2;have a7:=(a.o.get 0 rfl).lt;have r:=vv (a.o.get 3 rfl);go_wp2_with (with_reducible refine q00 rfl 27 (.tmp 6) (.tmp 56) rfl (w.heap.size+1) [.bool q,.string ⟨#[]⟩,.int .i64 0] rfl rfl 27 _ (r.o.alloc _) (by kernel_rfl) rfl rfl ?_);intro I W y;clear r;obtain⟨c1,k⟩:=yx (p.heap.size);obtain⟨c0,g⟩:=yx (p.alloc (.cells #[.bool qe,.slice A 0 0,.int .i64 x] 62));have f:qi p.heap.size p c0:=by rw[g];exact(qg _ _).alloc lr _
 have i:=a.o.new 62 [.bool qe,.slice A 0 0,.int .i64 x] k;rw[<- g] at i y
 try rw[<- g]
 try rw[<- k]
 replace a:=vv i;replace j:=vv (j.o.below f);replace C:=vv (C.o.below f);clear a4 a5 a6 a7 g f i k;have r:=vv (a.o.get 4 rfl);replace a:=vv (a.o.put 4 rfl W y);replace j:=vv (j.o.apart_ r.o rfl y);replace C:=vv (C.o.apart_ r.o rfl y);clear r W y;go_wp2;have a8:I.cell? ⟨(w.heap.size+1),0,qa⟩=qb (.bool q):=(a.o.get 4 rfl).cell 0;have a9:I.cell? ⟨(w.heap.size+1),1,qa⟩=qb (.string ⟨#[]⟩):=(a.o.get 4 rfl).cell 1;have b0:I.cell? ⟨(w.heap.size+1),2,qa⟩=qb (.int .i64 0):=(a.o.get 4 rfl).cell 2;exact qj (v:=.tuple #[(⟨q,⟨#[]⟩,0⟩:Dcl).v,.int .i64 0]) (by simp [results,results8,go_sem,a8,a9,b0]) rfl ⟨rfl,a.o.low⟩
theorem q5g(E F b mode:Nat)(w:ql)(h1:2<=E)(h2:E<=11)(h3:1<=F)(h4:F<=52)(hb:b<2^(1+E+F))(hf:q0E E F b≠2^E-1)(hmo:mode<=4)(hst:Std w):qo qh 8 #[fm E F,.int .u64 (b:Int),.int .u8 (mode:Int)] w (qaM (q0c E F b mode) w):=by
 rcases k01 (q1h E F b) with h|h
 ·exact q5f E F b mode w h1 h2 h3 h4 hb hf hmo h hst
 ·exact q6n E F b mode w h1 h2 h3 h4 hb hf hmo h hst
end Sho
namespace Sho
open Go Go.RowKit R5 Scn Sh Rtp Dec Exa Fms
def qcF(E F:Int)(s:ByteArray)(x:Int)(b mode:Nat):Int:=
 if R3.chk E F≠0 then R3.chk E F else if q1j s x≠0 then q1j s x else if q09 E F b≠0 then q09 E F b else if 4<mode then 7 else 0
def q2o(E F:Nat)(neg:Bool)(s:ByteArray)(x:Int)(mode:Nat):Nat × Nat:=q0h E F neg neg mode (dvk s s.size*t10 x) (t10 (-x))
def q6i(E F:Nat)(neg:Bool)(s:ByteArray)(x:Int)(b mode:Nat):Bool:=
 (((q2o E F neg s x mode).1:Int)==(b:Int)) && (bits .and .u8 ((q2o E F neg s x mode).2:Int) 2==0)
def BkP(v:Bool)(er:Int)(w:ql)(e:Ending)(w':ql):Prop:=e=.returned (.tuple #[.bool v,.int .i64 er])/\qi w.heap.size w w'
theorem q4q(E F:Nat)(below neg:Bool)(mode a b:Nat)(h:0<a->below=neg):q0h E F below neg mode a b=q0h E F neg neg mode a b:=by
 unfold q0h;rcases k01 a with c|c
 ·rw[k0n c,k0n c]
 ·rw[h c]
theorem q2R{s:ByteArray}(h:q0G s x=qk):-1073741824<=x/\x<=1073741824/\q0G s 0=qk/\q86 s:=by
 have e:=h;unfold q0G at h;simp only[k0T,k0C] at h;obtain⟨⟨⟨c,d⟩,b⟩,a⟩:=h;refine⟨d,c,?_,?_⟩
 ·unfold q0G;by_cases h0:s.size=0
  ·rw[k0n h0,k03 b];rfl
  ·rw[k0o h0] at a ⊢;rw[a,k03 b];rfl
 ·by_cases h0:s.size=0
  ·intro k f;omega
  ·rw[k0o h0] at a;simp only[k0T] at a;exact q2c.1 a.1.1
theorem q98(neg:Bool)(N:Nat):(sq neg (wo N 0)).num=sg neg N/\(sq neg (wo N 0)).den=1:=by rw[Dcm.wo_mk];rw[show t10 0=1 from rfl,show t10 (-0)=1 from rfl,k0A,k2c];exact⟨rfl,rfl⟩
theorem q4r(neg:Bool)(N:Nat):0<N->qd (sg neg N<0)=neg:=by
 intro h;cases neg
 ·exact k00 (by unfold sg;simp)
 ·exact k03 (by unfold sg;simp;omega)
theorem q89(G F:Nat)(neg:Bool)(s:ByteArray)(x:Int)(b mode:Nat)(w:ql)(hs:s.size<=3000)(hb:b<18446744073709551616)(g1:1<=G)(g2:G<=10)(h3:1<=F)(h4:F<=52)(hd:q0G s x=qk)(hf:q09 ((G:Int)+1) F b=0)(hm:mode<=4)(hst:Std w):qo qh 10 #[fm ((G:Int)+1) F,decV neg s x,.int .u64 (b:Int),.int .u8 (mode:Int)] w (BkP (q6i (G+1) F neg s x b mode) 0 w):=by
 obtain⟨d2,d3,U,V⟩:=q2R hd;obtain⟨z,P⟩:=yx ((w.alloc (.cells #[.int .i64 ((G:Int)+1),.int .i64 (F:Int)] 23)).alloc (.cells #[.bool neg,.string s,.int .i64 x] 27));have g:Cx w [(w.heap.size+1,27,[.bool neg,.string s,.int .i64 x]),(w.heap.size,23,[.int .i64 ((G:Int)+1),.int .i64 (F:Int)])] z:=by rw[P];exact((Cx.nil w).new _ [_,_] rfl).new _ [_,_,_] (by simp)
 have W:=vv fun w'=>Fms.Check ((G:Int)+1) F w'
 have Z:=vv fun w'=>Dec.Check neg s x w' (by omega)
 have c7:=vv fun w'=>Fms.Fits ((G:Int)+1) F b w' hb
 have e1:R3.chk ((G:Int)+1) F=0:=by unfold R3.chk R3.formOk;rw[k03 (p:=2<=(G:Int)+1) (by omega),k03 (p:=(G:Int)+1<=11) (by omega),k03 (p:=1<=(F:Int)) (by omega),k03 (p:=(F:Int)<=52) (by omega)];rfl
 have e2:q1j s x=0:=decErr_yes (by omega) hd;rw[e1] at W;rw[e2] at Z;rw[hf] at c7;obtain⟨N,E⟩:=yx (dvk s s.size);obtain⟨u,K⟩:=yx (qd (sg neg N<0));have c8:0<N->u=neg:=fun h=>by rw[K];exact q4r neg N h
 have d4:qq (∀w',Std w'->qo qh 19 #[decV neg s 0] w' fun e L=>∃X n Y m,e=.returned (.tuple #[q0i u X n n Y m m,.int .i64 0])/\RN L X n n N/\RN L Y m m 1/\n<=16384/\qi w'.heap.size w' L):=vv fun w' Q=>by refine(Dcm.RatioE neg s 0 w' U (by omega) (by decide) (by decide) Q).mono ?_;rintro e L ⟨b',X,n,Y,m,rfl,k,f⟩;have q:=q98 neg (dvk s s.size);have M:=k.s;have C:=k.x;have O:=k.y;rw[q.1,q0z] at C;rw[q.1,<- E,<- K] at M;rw[q.2] at O;rw[<- E] at C;subst M;exact⟨X,n,Y,m,rfl,⟨C⟩,⟨O⟩,by rw[<- C.words];exact k06 (by rw[E];exact q7D s V _ lr) (by omega),f⟩
 have c9:qq (∀X n c Y m d w',RN w' X n c N->RN w' Y m d 1->n<=16384->Std w'->qo qh 34 #[fm ((G:Int)+1) F,q0i u X n c Y m d,.int .i64 x,.bool neg,.int .u8 (mode:Int)] w' (q2K (q2o (G+1) F neg s x mode) w')):=vv fun X n c Y m d w' M C O Q=>by
  have:=Rnd.Scaled G F u neg mode X n c Y m d N x w' g1 g2 h3 h4 hm M.r C.r O (fun h=>by
   rcases k01 N with v|v
   ·rw[K,v] at h;cases neg<;>exact absurd h (by decide)
   ·exact v) (by omega) (by omega) Q
  rw[q4q _ _ u neg _ _ _ (fun h=>c8 (by
   rcases k01 N with v|v
   ·rw[v,k1H] at h;omega
   ·exact v))] at this
  unfold q2o;rw[<- E];exact this
 have d0:q6i (G+1) F neg s x b mode=((((q2o (G+1) F neg s x mode).1:Int)==(b:Int)) && (bits .and .u8 ((q2o (G+1) F neg s x mode).2:Int) 2==0)):=rfl;obtain⟨o,T⟩:=yx (q2o (G+1) F neg s x mode);rw[d0,<- T];rw[<- T] at c9;obtain⟨o1,o2⟩:=o;obtain⟨u1,R⟩:=yx (((o1:Int)==(b:Int)));obtain⟨u2,S⟩:=yx ((bits .and .u8 (o2:Int) 2==0));dsimp only;rw[<- R,<- S];replace R:=R.symm;replace S:=S.symm;have t4:qd ((4:Int)<(mode:Int))=qe:=k00 (by omega);have d1:=vv hst;have a:=vv g;have HW:=vv P;clear P g hst hs hb hd hf hm e1 e2 d2 d3 U V d0 T K c8 E g1 g2 h3 h4;have d5:z.cell? ⟨(w.heap.size+1),0,qa⟩=qb (.bool neg):=(a.o.get 0 rfl).cell 0;have d6:z.cell? ⟨(w.heap.size+1),1,qa⟩=qb (.string s):=(a.o.get 0 rfl).cell 1;have d7:z.cell? ⟨(w.heap.size+1),2,qa⟩=qb (.int .i64 x):=(a.o.get 0 rfl).cell 2;have d8:=(a.o.get 0 rfl).lt;have d9:z.cell? ⟨w.heap.size,0,qa⟩=qb (.int .i64 ((G:Int)+1)):=(a.o.get 1 rfl).cell 0;have e0:z.cell? ⟨w.heap.size,1,qa⟩=qb (.int .i64 (F:Int)):=(a.o.get 1 rfl).cell 1;have e3:=(a.o.get 1 rfl).lt;go_enter func10,ntmps10;go_wp2_with fail;rw[<- HW.o];go_wp2_with fail;refine(W.o _).mono ?_;rintro e H ⟨rfl,f⟩;replace a:=vv (a.o.step f);clear d5 d6 d7 d8 d9 e0 e3 f;have e4:H.cell? ⟨(w.heap.size+1),0,qa⟩=qb (.bool neg):=(a.o.get 0 rfl).cell 0;have a0:H.cell? ⟨(w.heap.size+1),1,qa⟩=qb (.string s):=(a.o.get 0 rfl).cell 1;have a1:H.cell? ⟨(w.heap.size+1),2,qa⟩=qb (.int .i64 x):=(a.o.get 0 rfl).cell 2;have a2:=(a.o.get 0 rfl).lt;have a3:H.cell? ⟨w.heap.size,0,qa⟩=qb (.int .i64 ((G:Int)+1)):=(a.o.get 1 rfl).cell 0;have a4:H.cell? ⟨w.heap.size,1,qa⟩=qb (.int .i64 (F:Int)):=(a.o.get 1 rfl).cell 1;have a5:=(a.o.get 1 rfl).lt;go_wp2_with fail;refine(Z.o _).mono ?_;rintro e D ⟨rfl,f⟩;replace a:=vv (a.o.step f);clear e4 a0 a1 a2 a3 a4 a5 f;have a6:D.cell? ⟨(w.heap.size+1),0,qa⟩=qb (.bool neg):=(a.o.get 0 rfl).cell 0;have a7:D.cell? ⟨(w.heap.size+1),1,qa⟩=qb (.string s):=(a.o.get 0 rfl).cell 1;have a8:D.cell? ⟨(w.heap.size+1),2,qa⟩=qb (.int .i64 x):=(a.o.get 0 rfl).cell 2;have a9:=(a.o.get 0 rfl).lt;have b0:D.cell? ⟨w.heap.size,0,qa⟩=qb (.int .i64 ((G:Int)+1)):=(a.o.get 1 rfl).cell 0;have b1:D.cell? ⟨w.heap.size,1,qa⟩=qb (.int .i64 (F:Int)):=(a.o.get 1 rfl).cell 1;have b2:=(a.o.get 1 rfl).lt;go_wp2_with fail;refine(c7.o _).mono ?_;rintro e i ⟨rfl,f⟩;replace a:=vv (a.o.step f);clear a6 a7 a8 a9 b0 b1 b2 f;have b3:i.cell? ⟨(w.heap.size+1),0,qa⟩=qb (.bool neg):=(a.o.get 0 rfl).cell 0;have b4:i.cell? ⟨(w.heap.size+1),1,qa⟩=qb (.string s):=(a.o.get 0 rfl).cell 1;have b5:i.cell? ⟨(w.heap.size+1),2,qa⟩=qb (.int .i64 x):=(a.o.get 0 rfl).cell 2;have b6:=(a.o.get 0 rfl).lt;have b7:i.cell? ⟨w.heap.size,0,qa⟩=qb (.int .i64 ((G:Int)+1)):=(a.o.get 1 rfl).cell 0;have b8:i.cell? ⟨w.heap.size,1,qa⟩=qb (.int .i64 (F:Int)):=(a.o.get 1 rfl).cell 1;have b9:=(a.o.get 1 rfl).lt;go_wp2_with fail;obtain⟨e7,t⟩:=yx (i.heap.size);obtain⟨e5,j⟩:=yx (i.alloc (.cells #[.bool neg,.string s,.int .i64 0] 27));have f:qi i.heap.size i e5:=by rw[j];exact(qg _ _).alloc lr _
 have g:=a.o.new 27 [.bool neg,.string s,.int .i64 0] t;rw[<- j] at g 
 try rw[<- j]
 try rw[<- t]
 replace a:=vv g;clear b3 b4 b5 b6 b7 b8 b9 j f g t;refine(d4.o _ (a.o.std d1.o)).mono ?_;rintro e l ⟨X,n,Y,m,rfl,hX,hY,hn,f⟩;replace a:=vv (a.o.step f);have I:=vv hX;have J:=vv hY;have HN:=vv hn;clear f hX hY hn;have c0:l.cell? ⟨(w.heap.size+1),0,qa⟩=qb (.bool neg):=(a.o.get 1 rfl).cell 0;have c1:l.cell? ⟨(w.heap.size+1),1,qa⟩=qb (.string s):=(a.o.get 1 rfl).cell 1;have c2:l.cell? ⟨(w.heap.size+1),2,qa⟩=qb (.int .i64 x):=(a.o.get 1 rfl).cell 2;have c3:=(a.o.get 1 rfl).lt;have c4:l.cell? ⟨w.heap.size,0,qa⟩=qb (.int .i64 ((G:Int)+1)):=(a.o.get 2 rfl).cell 0;have c5:l.cell? ⟨w.heap.size,1,qa⟩=qb (.int .i64 (F:Int)):=(a.o.get 2 rfl).cell 1;have c6:=(a.o.get 2 rfl).lt;go_wp2_with fail;obtain⟨e8,t⟩:=yx (l.heap.size);obtain⟨e6,j⟩:=yx (l.alloc (.cells #[.bool u,.slice X n n,.slice Y m m] 39));have f:qi l.heap.size l e6:=by rw[j];exact(qg _ _).alloc lr _
 have g:=a.o.new 39 [.bool u,.slice X n n,.slice Y m m] t;rw[<- j] at g 
 try rw[<- j]
 try rw[<- t]
 replace a:=vv g;replace I:=vv (I.o.below f);replace J:=vv (J.o.below f);clear c0 c1 c2 c3 c4 c5 c6 j f g t;refine(c9.o _ _ _ _ _ _ _ I.o J.o HN.o (a.o.std d1.o)).mono ?_;rintro e e9 ⟨rfl,f⟩;replace a:=vv (a.o.step f);replace I:=vv (I.o.below f);replace J:=vv (J.o.below f);clear f;cases u1<;>cases u2
 all_goals
  go_wp2;go_ret2;exact⟨rfl,a.o.low⟩
end Sho
namespace Sho
open Go Go.RowKit R5 Scn Sh Rtp Exa
@[go_sem] theorem qdJ(v0 v1 v2 v3 v4 v5 v6 v7 v8:Go.Value)(w:ql):(Instr.index 89 (.agg #[v0,v1,v2,v3,v4,v5,v6,v7,v8]) (.int .i64 0)).run qh w=.ok (.agg #[v0,v1,v2]) w:=by kernel_rfl
@[go_sem] theorem qdI(v0 v1 v2 v3 v4 v5 v6 v7 v8:Go.Value)(w:ql):(Instr.index 89 (.agg #[v0,v1,v2,v3,v4,v5,v6,v7,v8]) (.int .i64 1)).run qh w=.ok (.agg #[v3,v4,v5]) w:=by kernel_rfl
@[go_sem] theorem qdH(v0 v1 v2 v3 v4 v5 v6 v7 v8:Go.Value)(w:ql):(Instr.index 89 (.agg #[v0,v1,v2,v3,v4,v5,v6,v7,v8]) (.int .i64 2)).run qh w=.ok (.agg #[v6,v7,v8]) w:=by kernel_rfl
def WiP(d:Dcl)(w:ql)(e:Ending)(w':ql):Prop:=e=.returned (.tuple #[d.v,.bool qk,.int .i64 0])/\qi w.heap.size w w'
theorem q7W(l h r:RV)(v:Rat)(s:Span)(w:ql)(hr:RI w r v)(hs:SI w l h s)(hlo:s.lo<s.hi)(hin:s.has v=qk)(s1:Qb 2200 s.lo)(s2:Qb 2200 s.hi)(s3:Qb 2200 v)
  (n1:max l.n l.m<=256) (n2:max h.n h.m<=256) (n3:max r.n r.m<=256) (hst:Std w) :
  qo qh 13 #[l.v,h.v,.bool s.li,.bool s.hn,r.v] w (WiP (q1l s v) w):=by
 obtain⟨z,N⟩:=yx (((((w.alloc (.cells #[.bool l.b,.slice l.X l.n l.c,.slice l.Y l.m l.d] 39)).alloc (.cells #[.bool h.b,.slice h.X h.n h.c,.slice h.Y h.m h.d] 39)).alloc (.cells #[.bool r.b,.slice r.X r.n r.c,.slice r.Y r.m r.d] 39)).alloc (.cells #[.bool qe,.string ⟨#[]⟩,.int .i64 0] 27)));have g:Cx w [((w.heap.size+1+1+1),27,[.bool qe,.string ⟨#[]⟩,.int .i64 0]),((w.heap.size+1+1),39,[.bool r.b,.slice r.X r.n r.c,.slice r.Y r.m r.d]),((w.heap.size+1),39,[.bool h.b,.slice h.X h.n h.c,.slice h.Y h.m h.d]),(w.heap.size,39,[.bool l.b,.slice l.X l.n l.c,.slice l.Y l.m l.d])] z:=by rw[N];exact((((Cx.nil w).new _ [_,_,_] rfl).new _ [_,_,_] (by simp)).new _ [_,_,_] (by simp)).new _ [_,_,_] (by simp)
 have a2:qq (∀y q w',RI w' y q->Qb 2200 q->Std w'->qo qh 43 #[y.v] w' fun e w''=>e=.returned (.int .i64 0)/\qi w'.heap.size w' w''):=vv fun y q w' k kq hs=>qc3 q _ _ _ _ _ _ _ w' k (kq.mono (by decide)) hs
 have d5:=vv fun w' (k1:SI w' l h s) (k2:RI w' r v) hs=>in_ l h s r v w' k1 k2 (s1.mono (by decide)) (s2.mono (by decide)) (s3.mono (by decide)) hs
 rw[hin] at d5;have d6:=vv fun w' (k1:SI w' l h s) (k2:RI w' r v) hs=>q6v r l h v s w' k2 k1 hlo hin s1 s2 s3 hs
 obtain⟨d,hd⟩:=yx (q1l s v);rw[<- hd];rw[<- hd] at d6;have e1:=vv s1;have e2:=vv s2;have e3:=vv s3;have t1:qd ((256:Int)<max (l.n:Int) (l.m:Int))=qe:=k00 (by omega);have t2:qd ((256:Int)<max (h.n:Int) (h.m:Int))=qe:=k00 (by omega);have t3:qd ((256:Int)<max (r.n:Int) (r.m:Int))=qe:=k00 (by omega);have H:=vv hst;have i:=vv (hs.below g.low);have j:=vv (hr.below g.low);have a:=vv g;have HW:=vv N;have e4:qq (w.heap.size+1+1+1+1=z.heap.size):=vv (by rw[N];simp);clear N g hst hs hr hlo hin s1 s2 s3 n1 n2 n3 hd;have e5:z.cell? ⟨(w.heap.size+1+1),0,qa⟩=qb (.bool r.b):=(a.o.get 1 rfl).cell 0;have e6:z.cell? ⟨(w.heap.size+1+1),1,qa⟩=qb (.slice r.X r.n r.c):=(a.o.get 1 rfl).cell 1;have e7:z.cell? ⟨(w.heap.size+1+1),2,qa⟩=qb (.slice r.Y r.m r.d):=(a.o.get 1 rfl).cell 2;have e8:=(a.o.get 1 rfl).lt;have e9:z.cell? ⟨(w.heap.size+1),0,qa⟩=qb (.bool h.b):=(a.o.get 2 rfl).cell 0;have f0:z.cell? ⟨(w.heap.size+1),1,qa⟩=qb (.slice h.X h.n h.c):=(a.o.get 2 rfl).cell 1;have f1:z.cell? ⟨(w.heap.size+1),2,qa⟩=qb (.slice h.Y h.m h.d):=(a.o.get 2 rfl).cell 2;have f2:=(a.o.get 2 rfl).lt;have f3:z.cell? ⟨w.heap.size,0,qa⟩=qb (.bool l.b):=(a.o.get 3 rfl).cell 0;have a4:z.cell? ⟨w.heap.size,1,qa⟩=qb (.slice l.X l.n l.c):=(a.o.get 3 rfl).cell 1;have a5:z.cell? ⟨w.heap.size,2,qa⟩=qb (.slice l.Y l.m l.d):=(a.o.get 3 rfl).cell 2;have a6:=(a.o.get 3 rfl).lt;go_enter func13,ntmps13;go_wp2_with fail;rw[<- HW.o,e4.o];obtain⟨C,u⟩:=yx (z.heap.size);obtain⟨f4,p⟩:=yx (z.alloc (.cells #[.bool l.b,.slice l.X l.n l.c,.slice l.Y l.m l.d,.bool h.b,.slice h.X h.n h.c,.slice h.Y h.m h.d,.bool r.b,.slice r.X r.n r.c,.slice r.Y r.m r.d] 89));have f:qi z.heap.size z f4:=by rw[p];exact(qg _ _).alloc lr _
 have g:=a.o.new 89 [.bool l.b,.slice l.X l.n l.c,.slice l.Y l.m l.d,.bool h.b,.slice h.X h.n h.c,.slice h.Y h.m h.d,.bool r.b,.slice r.X r.n r.c,.slice r.Y r.m r.d] u;rw[<- p] at g 
 try rw[<- p]
 try rw[<- u]
 replace a:=vv g;replace i:=vv (i.o.below f);replace j:=vv (j.o.below f);clear e5 e6 e7 e8 e9 f0 f1 f2 f3 a4 a5 a6 p f g u;go_loopw [27] (fun t wr=>∃k:Nat,k<=3/\t=.int .i64 (k:Int)/\Cx w [(C,89,[.bool l.b,.slice l.X l.n l.c,.slice l.Y l.m l.d,.bool h.b,.slice h.X h.n h.c,.slice h.Y h.m h.d,.bool r.b,.slice r.X r.n r.c,.slice r.Y r.m r.d]),((w.heap.size+1+1+1),27,[.bool qe,.string ⟨#[]⟩,.int .i64 0]),((w.heap.size+1+1),39,[.bool r.b,.slice r.X r.n r.c,.slice r.Y r.m r.d]),((w.heap.size+1),39,[.bool h.b,.slice h.X h.n h.c,.slice h.Y h.m h.d]),(w.heap.size,39,[.bool l.b,.slice l.X l.n l.c,.slice l.Y l.m l.d])] wr/\SI wr l h s/\RI wr r v) (fun t _=>(3-intOf t).toNat)
 case atStart=>exact⟨0,by decide,rfl,a.o,i.o,j.o⟩
 case round =>
  clear a i j;obtain⟨k,E,rfl,g,K,L⟩:=hrel;have a:=vv g;have i:=vv K;have j:=vv L;clear g K L;rcases(by omega:k=0\/k=1\/k=2\/k=3) with rfl|rfl|rfl|rfl
  ·clear E;go_wp2_with fail;obtain⟨d7,u⟩:=yx (wr.heap.size);obtain⟨I,p⟩:=yx (wr.alloc (.cells #[.bool l.b,.slice l.X l.n l.c,.slice l.Y l.m l.d] 39));have f:qi wr.heap.size wr I:=by rw[p];exact(qg _ _).alloc lr _
   have g:=a.o.new 39 [.bool l.b,.slice l.X l.n l.c,.slice l.Y l.m l.d] u;rw[<- p] at g 
   try rw[<- p]
   try rw[<- u]
   replace a:=vv g;replace i:=vv (i.o.below f);replace j:=vv (j.o.below f);clear p f g u;refine(a2.o l s.lo _ i.o.l e1.o (a.o.std H.o)).mono ?_;rintro e d8 ⟨rfl,f⟩;replace a:=vv (a.o.step f);replace i:=vv (i.o.below f);replace j:=vv (j.o.below f);clear f;go_wp2;go_roundw
   case rel=>exact⟨1,by decide,rfl,q1A a.o,i.o,j.o⟩
   case measure=>exact(by decide)
  ·clear E;go_wp2_with fail;obtain⟨d7,u⟩:=yx (wr.heap.size);obtain⟨I,p⟩:=yx (wr.alloc (.cells #[.bool h.b,.slice h.X h.n h.c,.slice h.Y h.m h.d] 39));have f:qi wr.heap.size wr I:=by rw[p];exact(qg _ _).alloc lr _
   have g:=a.o.new 39 [.bool h.b,.slice h.X h.n h.c,.slice h.Y h.m h.d] u;rw[<- p] at g 
   try rw[<- p]
   try rw[<- u]
   replace a:=vv g;replace i:=vv (i.o.below f);replace j:=vv (j.o.below f);clear p f g u;refine(a2.o h s.hi _ i.o.h e2.o (a.o.std H.o)).mono ?_;rintro e d8 ⟨rfl,f⟩;replace a:=vv (a.o.step f);replace i:=vv (i.o.below f);replace j:=vv (j.o.below f);clear f;go_wp2;go_roundw
   case rel=>exact⟨2,by decide,rfl,q1A a.o,i.o,j.o⟩
   case measure=>exact(by decide)
  ·clear E;go_wp2_with fail;obtain⟨d7,u⟩:=yx (wr.heap.size);obtain⟨I,p⟩:=yx (wr.alloc (.cells #[.bool r.b,.slice r.X r.n r.c,.slice r.Y r.m r.d] 39));have f:qi wr.heap.size wr I:=by rw[p];exact(qg _ _).alloc lr _
   have g:=a.o.new 39 [.bool r.b,.slice r.X r.n r.c,.slice r.Y r.m r.d] u;rw[<- p] at g 
   try rw[<- p]
   try rw[<- u]
   replace a:=vv g;replace i:=vv (i.o.below f);replace j:=vv (j.o.below f);clear p f g u;refine(a2.o r v _ j.o e3.o (a.o.std H.o)).mono ?_;rintro e d8 ⟨rfl,f⟩;replace a:=vv (a.o.step f);replace i:=vv (i.o.below f);replace j:=vv (j.o.below f);clear f;go_wp2;go_roundw
   case rel=>exact⟨3,by decide,rfl,q1A a.o,i.o,j.o⟩
   case measure=>exact(by decide)
  ·clear E;have O:wr.cell? ⟨C,0,qa⟩=qb (.bool l.b):=(a.o.get 0 rfl).cell 0;have P:wr.cell? ⟨C,1,qa⟩=qb (.slice l.X l.n l.c):=(a.o.get 0 rfl).cell 1;have Q:wr.cell? ⟨C,2,qa⟩=qb (.slice l.Y l.m l.d):=(a.o.get 0 rfl).cell 2;have R:wr.cell? ⟨C,3,qa⟩=qb (.bool h.b):=(a.o.get 0 rfl).cell 3;have T:wr.cell? ⟨C,4,qa⟩=qb (.slice h.X h.n h.c):=(a.o.get 0 rfl).cell 4;have U:wr.cell? ⟨C,5,qa⟩=qb (.slice h.Y h.m h.d):=(a.o.get 0 rfl).cell 5;have V:wr.cell? ⟨C,6,qa⟩=qb (.bool r.b):=(a.o.get 0 rfl).cell 6;have W:wr.cell? ⟨C,7,qa⟩=qb (.slice r.X r.n r.c):=(a.o.get 0 rfl).cell 7;have Z:wr.cell? ⟨C,8,qa⟩=qb (.slice r.Y r.m r.d):=(a.o.get 0 rfl).cell 8;have a0:=(a.o.get 0 rfl).lt;go_wp2;go_loopw [38] (fun t wr=>∃k:Nat,k<=3/\t=.int .i64 (k:Int)/\Cx w [(C,89,[.bool l.b,.slice l.X l.n l.c,.slice l.Y l.m l.d,.bool h.b,.slice h.X h.n h.c,.slice h.Y h.m h.d,.bool r.b,.slice r.X r.n r.c,.slice r.Y r.m r.d]),((w.heap.size+1+1+1),27,[.bool qe,.string ⟨#[]⟩,.int .i64 0]),((w.heap.size+1+1),39,[.bool r.b,.slice r.X r.n r.c,.slice r.Y r.m r.d]),((w.heap.size+1),39,[.bool h.b,.slice h.X h.n h.c,.slice h.Y h.m h.d]),(w.heap.size,39,[.bool l.b,.slice l.X l.n l.c,.slice l.Y l.m l.d])] wr/\SI wr l h s/\RI wr r v) (fun t _=>(3-intOf t).toNat)
   case atStart=>exact⟨0,by decide,rfl,a.o,i.o,j.o⟩
   case round =>
    clear a i j;obtain⟨k,E,rfl,g,K,L⟩:=hrel;have a:=vv g;have i:=vv K;have j:=vv L;clear g K L;rcases(by omega:k=0\/k=1\/k=2\/k=3) with rfl|rfl|rfl|rfl
    ·clear E;go_wp2;obtain⟨d9,u⟩:=yx (wr.heap.size);obtain⟨J,p⟩:=yx (wr.alloc (.cells #[.bool l.b,.slice l.X l.n l.c,.slice l.Y l.m l.d] 39));have f:qi wr.heap.size wr J:=by rw[p];exact(qg _ _).alloc lr _
     have g:=a.o.new 39 [.bool l.b,.slice l.X l.n l.c,.slice l.Y l.m l.d] u;rw[<- p] at g 
     try rw[<- p]
     try rw[<- u]
     replace a:=vv g;replace i:=vv (i.o.below f);replace j:=vv (j.o.below f);clear O P Q R T U V W Z a0 p f g u;go_roundw
     case rel=>exact⟨1,by decide,rfl,q1A a.o,i.o,j.o⟩
     case measure=>exact(by decide)
    ·clear E;go_wp2;obtain⟨d9,u⟩:=yx (wr.heap.size);obtain⟨J,p⟩:=yx (wr.alloc (.cells #[.bool h.b,.slice h.X h.n h.c,.slice h.Y h.m h.d] 39));have f:qi wr.heap.size wr J:=by rw[p];exact(qg _ _).alloc lr _
     have g:=a.o.new 39 [.bool h.b,.slice h.X h.n h.c,.slice h.Y h.m h.d] u;rw[<- p] at g 
     try rw[<- p]
     try rw[<- u]
     replace a:=vv g;replace i:=vv (i.o.below f);replace j:=vv (j.o.below f);clear O P Q R T U V W Z a0 p f g u;go_roundw
     case rel=>exact⟨2,by decide,rfl,q1A a.o,i.o,j.o⟩
     case measure=>exact(by decide)
    ·clear E;go_wp2;obtain⟨d9,u⟩:=yx (wr.heap.size);obtain⟨J,p⟩:=yx (wr.alloc (.cells #[.bool r.b,.slice r.X r.n r.c,.slice r.Y r.m r.d] 39));have f:qi wr.heap.size wr J:=by rw[p];exact(qg _ _).alloc lr _
     have g:=a.o.new 39 [.bool r.b,.slice r.X r.n r.c,.slice r.Y r.m r.d] u;rw[<- p] at g 
     try rw[<- p]
     try rw[<- u]
     replace a:=vv g;replace i:=vv (i.o.below f);replace j:=vv (j.o.below f);clear O P Q R T U V W Z a0 p f g u;go_roundw
     case rel=>exact⟨3,by decide,rfl,q1A a.o,i.o,j.o⟩
     case measure=>exact(by decide)
    ·clear E;have a7:wr.cell? ⟨(w.heap.size+1),0,qa⟩=qb (.bool h.b):=(a.o.get 3 rfl).cell 0;have a8:wr.cell? ⟨(w.heap.size+1),1,qa⟩=qb (.slice h.X h.n h.c):=(a.o.get 3 rfl).cell 1;have a9:wr.cell? ⟨(w.heap.size+1),2,qa⟩=qb (.slice h.Y h.m h.d):=(a.o.get 3 rfl).cell 2;have b0:=(a.o.get 3 rfl).lt;have b1:wr.cell? ⟨w.heap.size,0,qa⟩=qb (.bool l.b):=(a.o.get 4 rfl).cell 0;have b2:wr.cell? ⟨w.heap.size,1,qa⟩=qb (.slice l.X l.n l.c):=(a.o.get 4 rfl).cell 1;have b3:wr.cell? ⟨w.heap.size,2,qa⟩=qb (.slice l.Y l.m l.d):=(a.o.get 4 rfl).cell 2;have b4:=(a.o.get 4 rfl).lt;have b5:wr.cell? ⟨(w.heap.size+1+1),0,qa⟩=qb (.bool r.b):=(a.o.get 2 rfl).cell 0;have b6:wr.cell? ⟨(w.heap.size+1+1),1,qa⟩=qb (.slice r.X r.n r.c):=(a.o.get 2 rfl).cell 1;have b7:wr.cell? ⟨(w.heap.size+1+1),2,qa⟩=qb (.slice r.Y r.m r.d):=(a.o.get 2 rfl).cell 2;have b8:=(a.o.get 2 rfl).lt;go_wp2_with fail;obtain⟨F,u⟩:=yx (wr.heap.size);obtain⟨f5,p⟩:=yx (wr.alloc (.cells #[.bool l.b,.slice l.X l.n l.c,.slice l.Y l.m l.d,.bool h.b,.slice h.X h.n h.c,.slice h.Y h.m h.d,.bool s.li,.bool s.hn] 69));have f:qi wr.heap.size wr f5:=by rw[p];exact(qg _ _).alloc lr _
     have g:=a.o.new 69 [.bool l.b,.slice l.X l.n l.c,.slice l.Y l.m l.d,.bool h.b,.slice h.X h.n h.c,.slice h.Y h.m h.d,.bool s.li,.bool s.hn] u;rw[<- p] at g 
     try rw[<- p]
     try rw[<- u]
     replace a:=vv g;replace i:=vv (i.o.below f);replace j:=vv (j.o.below f);clear O P Q R T U V W Z a0 a7 a8 a9 b0 b1 b2 b3 b4 b5 b6 b7 b8 p f g u;refine(d5.o _ i.o j.o (a.o.std H.o)).mono ?_;rintro e D ⟨rfl,f⟩;replace a:=vv (a.o.step f);replace i:=vv (i.o.below f);replace j:=vv (j.o.below f);clear f;have b9:D.cell? ⟨F,0,qa⟩=qb (.bool l.b):=(a.o.get 0 rfl).cell 0;have c0:D.cell? ⟨F,1,qa⟩=qb (.slice l.X l.n l.c):=(a.o.get 0 rfl).cell 1;have c1:D.cell? ⟨F,2,qa⟩=qb (.slice l.Y l.m l.d):=(a.o.get 0 rfl).cell 2;have c2:D.cell? ⟨F,3,qa⟩=qb (.bool h.b):=(a.o.get 0 rfl).cell 3;have c3:D.cell? ⟨F,4,qa⟩=qb (.slice h.X h.n h.c):=(a.o.get 0 rfl).cell 4;have c4:D.cell? ⟨F,5,qa⟩=qb (.slice h.Y h.m h.d):=(a.o.get 0 rfl).cell 5;have c5:D.cell? ⟨F,6,qa⟩=qb (.bool s.li):=(a.o.get 0 rfl).cell 6;have c6:D.cell? ⟨F,7,qa⟩=qb (.bool s.hn):=(a.o.get 0 rfl).cell 7;have c7:=(a.o.get 0 rfl).lt;have c8:D.cell? ⟨(w.heap.size+1+1),0,qa⟩=qb (.bool r.b):=(a.o.get 3 rfl).cell 0;have c9:D.cell? ⟨(w.heap.size+1+1),1,qa⟩=qb (.slice r.X r.n r.c):=(a.o.get 3 rfl).cell 1;have d0:D.cell? ⟨(w.heap.size+1+1),2,qa⟩=qb (.slice r.Y r.m r.d):=(a.o.get 3 rfl).cell 2;have d1:=(a.o.get 3 rfl).lt;go_wp2_with fail;refine(d6.o _ i.o j.o (a.o.std H.o)).mono ?_;rintro e a1 ⟨rfl,f⟩;replace a:=vv (a.o.step f);replace i:=vv (i.o.below f);replace j:=vv (j.o.below f);clear b9 c0 c1 c2 c3 c4 c5 c6 c7 c8 c9 d0 d1 f;have G:=vv (a.o.get 2 rfl);go_wp2_with (with_reducible refine q00 rfl 27 (.tmp 10) (.tmp 69) rfl (w.heap.size+1+1+1) [.bool d.neg,.string d.S,.int .i64 d.x] rfl rfl 27 _ (G.o.alloc _) (by kernel_rfl) rfl rfl ?_);intro a3 e0 M;clear G;obtain⟨f7,u⟩:=yx (a1.heap.size);obtain⟨f6,p⟩:=yx (a1.alloc (.cells #[.bool d.neg,.string d.S,.int .i64 d.x] 27));have f:qi a1.heap.size a1 f6:=by rw[p];exact(qg _ _).alloc lr _
     have g:=a.o.new 27 [.bool d.neg,.string d.S,.int .i64 d.x] u;rw[<- p] at g M
     try rw[<- p]
     try rw[<- u]
     replace a:=vv g;replace i:=vv (i.o.below f);replace j:=vv (j.o.below f);clear p f g u;have G:=vv (a.o.get 3 rfl);replace a:=vv (a.o.put 3 rfl e0 M);replace i:=vv (i.o.apart_ G.o rfl M);replace j:=vv (j.o.apart_ G.o rfl M);clear G e0 M;go_wp2;have d2:a3.cell? ⟨(w.heap.size+1+1+1),0,qa⟩=qb (.bool d.neg):=(a.o.get 3 rfl).cell 0;have d3:a3.cell? ⟨(w.heap.size+1+1+1),1,qa⟩=qb (.string d.S):=(a.o.get 3 rfl).cell 1;have d4:a3.cell? ⟨(w.heap.size+1+1+1),2,qa⟩=qb (.int .i64 d.x):=(a.o.get 3 rfl).cell 2;exact qj (v:=.tuple #[d.v,.bool qk,.int .i64 0]) (by simp [results,results13,go_sem,d2,d3,d4]) rfl ⟨rfl,a.o.low⟩
end Sho
namespace Sho
open Go Go.RowKit R5 Scn Sh Rtp Fms Exa Nea
theorem aw1:(q0c 11 52 4591870180066957722 0).neg=qe/\(q0c 11 52 4591870180066957722 0).S=⟨#[49]⟩/\(q0c 11 52 4591870180066957722 0).x = -1:=by decide +kernel
theorem aw2:(q0c 5 10 15361 3).neg=qe/\(q0c 5 10 15361 3).S=⟨#[49,48,48,48,57]⟩/\(q0c 5 10 15361 3).x = -4:=by decide +kernel
theorem aw5:(q1l ⟨mkRat 1 3,1,qk,qe⟩ (mkRat 1 3)).neg=qe/\(q1l ⟨mkRat 1 3,1,qk,qe⟩ (mkRat 1 3)).S=⟨#[52]⟩/\(q1l ⟨mkRat 1 3,1,qk,qe⟩ (mkRat 1 3)).x = -1:=by decide +kernel
theorem aw3:q6i 5 10 qe ⟨#[54,53,53,51,53]⟩ 0 31743 2=qk:=by decide +kernel
theorem aw4:q6i 5 10 qe ⟨#[54,53,53,50]⟩ 1 31744 0=qe:=by decide +kernel
theorem qbT(w:ql)(hst:Std w):qo qh 8 #[fm 11 52,.int .u64 4591870180066957722,.int .u8 0] w fun e w'=>e=.returned (.tuple #[.agg #[.bool qe,.string ⟨#[49]⟩,.int .i64 (-1)],.int .i64 0])/\qi w.heap.size w w':=by have h:=q5g 11 52 4591870180066957722 0 w (by decide) (by decide) (by decide) (by decide) (by decide) (by decide +kernel) (by decide) hst;unfold qaM Dcl.v at h;rw[aw1.1,aw1.2.1,aw1.2.2] at h;exact h
theorem qbS(w:ql)(hst:Std w):qo qh 8 #[fm 5 10,.int .u64 15361,.int .u8 3] w fun e w'=>e=.returned (.tuple #[.agg #[.bool qe,.string ⟨#[49,48,48,48,57]⟩,.int .i64 (-4)],.int .i64 0])/\qi w.heap.size w w':=by have h:=q5g 5 10 15361 3 w (by decide) (by decide) (by decide) (by decide) (by decide) (by decide +kernel) (by decide) hst;unfold qaM Dcl.v at h;rw[aw2.1,aw2.2.1,aw2.2.2] at h;exact h
theorem qcH(w:ql)(hst:Std w):qo qh 10 #[fm 5 10,.agg #[.bool qe,.string ⟨#[54,53,53,51,53]⟩,.int .i64 0],.int .u64 31743,.int .u8 2] w fun e w'=>e=.returned (.tuple #[.bool qk,.int .i64 0])/\qi w.heap.size w w':=by have h:=q89 4 10 qe ⟨#[54,53,53,51,53]⟩ 0 31743 2 w (by decide) (by decide) (by decide) (by decide) (by decide) (by decide) (by decide +kernel) (by decide +kernel) (by decide) hst;unfold BkP at h;rw[show q6i (4+1) 10 qe ⟨#[54,53,53,51,53]⟩ 0 31743 2=qk from aw3] at h;exact h
theorem qcG(w:ql)(hst:Std w):qo qh 10 #[fm 5 10,.agg #[.bool qe,.string ⟨#[54,53,53,50]⟩,.int .i64 1],.int .u64 31744,.int .u8 0] w fun e w'=>e=.returned (.tuple #[.bool qe,.int .i64 0])/\qi w.heap.size w w':=by have h:=q89 4 10 qe ⟨#[54,53,53,50]⟩ 1 31744 0 w (by decide) (by decide) (by decide) (by decide) (by decide) (by decide) (by decide +kernel) (by decide +kernel) (by decide) hst;unfold BkP at h;rw[show q6i (4+1) 10 qe ⟨#[54,53,53,50]⟩ 1 31744 0=qe from aw4] at h;exact h
theorem q40(k:Nat)(hk:k<4294967296)(w:ql):Rd (w.alloc (.cells #[.int .u32 (k:Int)] 54)) (qb ⟨w.heap.size,0,qa⟩) 1 1 [k]:=(Own.lit (t:=54) [k] (q0y.2 ⟨hk,q0N⟩) rfl).rd rfl lr (by decide)
abbrev awR(g:Nat):List Go.Value:=[.bool qe,.slice (qb ⟨g,0,qa⟩) 1 1,.slice (qb ⟨g+1,0,qa⟩) 1 1]
abbrev awW(w:ql):ql:=((((((w.alloc (.cells #[.int .u32 1] 54)).alloc (.cells #[.int .u32 1] 54)).alloc (.cells #[.bool qe,.slice (qb ⟨w.heap.size,0,qa⟩) 1 1,.slice (qb ⟨w.heap.size+1,0,qa⟩) 1 1] 39)).alloc (.cells #[.int .u32 1] 54)).alloc (.cells #[.int .u32 3] 54)).alloc (.cells #[.bool qe,.slice (qb ⟨w.heap.size+1+1+1,0,qa⟩) 1 1,.slice (qb ⟨w.heap.size+1+1+1+1,0,qa⟩) 1 1] 39))
theorem al(w:ql)(o:Obj):qi w.heap.size w (w.alloc o):=(qg _ _).alloc lr _
theorem qaB(w:ql):∃o t:RV,o.v=.agg #[.bool qe,.slice (qb ⟨w.heap.size,0,qa⟩) 1 1,.slice (qb ⟨w.heap.size+1,0,qa⟩) 1 1]/\t.v=.agg #[.bool qe,.slice (qb ⟨w.heap.size+1+1+1,0,qa⟩) 1 1,.slice (qb ⟨w.heap.size+1+1+1+1,0,qa⟩) 1 1]/\RI (awW w) o 1/\RI (awW w) t (mkRat 1 3)/\max o.n o.m<=256/\max t.n t.m<=256/\qi w.heap.size w (awW w):=by
 refine⟨⟨qe,qb ⟨w.heap.size,0,qa⟩,1,1,qb ⟨w.heap.size+1,0,qa⟩,1,1⟩,⟨qe,qb ⟨w.heap.size+1+1+1,0,qa⟩,1,1,qb ⟨w.heap.size+1+1+1+1,0,qa⟩,1,1⟩,rfl,rfl,?_,?_,(show max 1 1<=256 by decide),(show max 1 1<=256 by decide),?_⟩
 ·have b:=q40 1 (by decide) w;have a:=q40 1 (by decide) (w.alloc (.cells #[.int .u32 1] 54));rw[qn] at a;have e:toL 1=[1]:=by decide +kernel
  refine⟨(show qe=qd ((1:Rat).num<0) by decide +kernel),?_,?_⟩
  ·show Rd _ _ _ _ (toL ((1:Rat).num.natAbs));rw[show(1:Rat).num.natAbs=1 by decide +kernel,e];exact((((b.below (al _ _) rfl).below (al _ _) rfl).below (al _ _) rfl).below (al _ _) rfl).below (al _ _) rfl
  ·show Rd _ _ _ _ (toL ((1:Rat).den));rw[show(1:Rat).den=1 by decide +kernel,e];exact(((a.below (al _ _) rfl).below (al _ _) rfl).below (al _ _) rfl).below (al _ _) rfl
 ·have b:=q40 1 (by decide) (((w.alloc (.cells #[.int .u32 1] 54)).alloc (.cells #[.int .u32 1] 54)).alloc (.cells #[.bool qe,.slice (qb ⟨w.heap.size,0,qa⟩) 1 1,.slice (qb ⟨w.heap.size+1,0,qa⟩) 1 1] 39));have a:=q40 3 (by decide) ((((w.alloc (.cells #[.int .u32 1] 54)).alloc (.cells #[.int .u32 1] 54)).alloc (.cells #[.bool qe,.slice (qb ⟨w.heap.size,0,qa⟩) 1 1,.slice (qb ⟨w.heap.size+1,0,qa⟩) 1 1] 39)).alloc (.cells #[.int .u32 1] 54));simp only[qn] at b a;have e:toL 1=[1]:=by decide +kernel
  have c:toL 3=[3]:=by decide +kernel
  refine⟨(show qe=qd ((mkRat 1 3).num<0) by decide +kernel),?_,?_⟩
  ·show Rd _ _ _ _ (toL ((mkRat 1 3).num.natAbs));rw[show(mkRat 1 3).num.natAbs=1 by decide +kernel,e];exact(b.below (al _ _) rfl).below (al _ _) rfl
  ·show Rd _ _ _ _ (toL ((mkRat 1 3).den));rw[show(mkRat 1 3).den=3 by decide +kernel,c];exact a.below (al _ _) rfl
 ·exact((((((qg _ _).alloc lr _).alloc (by simp) _).alloc (by simp;omega) _).alloc (by simp;omega) _).alloc (by simp;omega) _).alloc (by simp;omega) _
theorem q7S(w:ql)(hst:Std w):qo qh 13 #[.agg #[.bool qe,.slice (qb ⟨w.heap.size+1+1+1,0,qa⟩) 1 1,.slice (qb ⟨w.heap.size+1+1+1+1,0,qa⟩) 1 1],.agg #[.bool qe,.slice (qb ⟨w.heap.size,0,qa⟩) 1 1,.slice (qb ⟨w.heap.size+1,0,qa⟩) 1 1],.bool qk,.bool qe,.agg #[.bool qe,.slice (qb ⟨w.heap.size+1+1+1,0,qa⟩) 1 1,.slice (qb ⟨w.heap.size+1+1+1+1,0,qa⟩) 1 1]] (awW w) fun e w'=>e=.returned (.tuple #[.agg #[.bool qe,.string ⟨#[52]⟩,.int .i64 (-1)],.bool qk,.int .i64 0])/\qi w.heap.size w w':=by obtain⟨o,t,f,g,i,b,j,c,a⟩:=qaB w;have h:=q7W t o t (mkRat 1 3) ⟨mkRat 1 3,1,qk,qe⟩ (awW w) b ⟨b,i⟩ (by decide +kernel) (by decide +kernel) ⟨by decide +kernel,by decide +kernel⟩ ⟨by decide +kernel,by decide +kernel⟩ ⟨by decide +kernel,by decide +kernel⟩ c j c (hst.fs (Fs.of_nil a));rw[g,f] at h;refine h.mono ?_;rintro e w' ⟨rfl,d⟩;unfold Dcl.v;rw[aw5.1,aw5.2.1,aw5.2.2];exact⟨rfl,a.trans (d.mono a.size)⟩
theorem qbG(w:ql):qo qh 21 #[] w fun e w'=>e=.returned (fm 5 10)/\qi w.heap.size w w':=by have a:qi w.heap.size w (w.alloc (.cells #[.int .i64 5,.int .i64 10] 23)):=(qg _ _).alloc lr _;have b:=vv a;clear a;go_enter func21,ntmps21;go_wp2;exact qj (v:=fm 5 10) (by simp [results,results21,go_sem]) rfl ⟨rfl,b.o⟩
theorem q7R(w:ql)(hst:Std w):qo qh 7 #[] w fun e w'=>e=.returned (.bool qk)/\qi w.heap.size w w':=by
 have a:=vv (Cx.nil w);have h:=vv hst;have n:=vv qbT;have p:=vv qbS;have q:=vv qcH;have r:=vv qcG;have s:=vv q7S;have k:=vv qbG;clear hst;go_enter func7,ntmps7;go_wp2_with fail;refine(n.o _ (a.o.std h.o)).mono ?_;rintro e i ⟨rfl,b⟩;replace a:=vv (a.o.step b);clear b;go_wp2_with fail;obtain⟨l,d⟩:=yx (i.heap.size);obtain⟨t,c⟩:=yx (i.alloc (.cells #[.bool qe,.string ⟨#[49]⟩,.int .i64 (-1)] 27));have b:qi i.heap.size i t:=by rw[c];exact(qg _ _).alloc lr _
 have f:=a.o.new 27 [.bool qe,.string ⟨#[49]⟩,.int .i64 (-1)] d;rw[<- c] at f 
 try rw[<- c]
 try rw[<- d]
 replace a:=vv f;clear c b f d;refine(k.o _).mono ?_;rintro e I ⟨rfl,b⟩;replace a:=vv (a.o.step b);clear b;go_wp2_with fail;refine(p.o _ (a.o.std h.o)).mono ?_;rintro e j ⟨rfl,b⟩;replace a:=vv (a.o.step b);clear b;go_wp2_with fail;obtain⟨m,d⟩:=yx (j.heap.size);obtain⟨u,c⟩:=yx (j.alloc (.cells #[.bool qe,.string ⟨#[49,48,48,48,57]⟩,.int .i64 (-4)] 27));have b:qi j.heap.size j u:=by rw[c];exact(qg _ _).alloc lr _
 have f:=a.o.new 27 [.bool qe,.string ⟨#[49,48,48,48,57]⟩,.int .i64 (-4)] d;rw[<- c] at f 
 try rw[<- c]
 try rw[<- d]
 replace a:=vv f;clear c b f d;refine(k.o _).mono ?_;rintro e J ⟨rfl,b⟩;replace a:=vv (a.o.step b);clear b;go_wp2_with fail;refine(q.o _ (a.o.std h.o)).mono ?_;rintro e K ⟨rfl,b⟩;replace a:=vv (a.o.step b);clear b;go_wp2_with fail;refine(k.o _).mono ?_;rintro e v ⟨rfl,b⟩;replace a:=vv (a.o.step b);clear b;go_wp2_with fail;refine(r.o _ (a.o.std h.o)).mono ?_;rintro e x ⟨rfl,b⟩;replace a:=vv (a.o.step b);clear b;go_wp2_with fail;refine(s.o _ (a.o.std h.o)).mono ?_;rintro e g ⟨rfl,b⟩;replace a:=vv (a.o.step b);clear b;have y:g.cell? ⟨m,0,qa⟩=qb (.bool qe):=(a.o.get 0 rfl).cell 0;have z:g.cell? ⟨m,1,qa⟩=qb (.string ⟨#[49,48,48,48,57]⟩):=(a.o.get 0 rfl).cell 1;have C:g.cell? ⟨m,2,qa⟩=qb (.int .i64 (-4)):=(a.o.get 0 rfl).cell 2;have D:=(a.o.get 0 rfl).lt;have E:g.cell? ⟨l,0,qa⟩=qb (.bool qe):=(a.o.get 1 rfl).cell 0;have F:g.cell? ⟨l,1,qa⟩=qb (.string ⟨#[49]⟩):=(a.o.get 1 rfl).cell 1;have G:g.cell? ⟨l,2,qa⟩=qb (.int .i64 (-1)):=(a.o.get 1 rfl).cell 2;have H:=(a.o.get 1 rfl).lt;go_wp2;go_ret;exact⟨rfl,a.o.low.alloc a.o.low.size _⟩
end Sho
namespace Sho
open Go Go.RowKit R5 Sh Rtp Fms Exa Nea
theorem q8d{m:Nat}(mode:Nat)(hm:0<m):(q2F E F m mode).has 0=qe:=by
 cases h:(q2F E F m mode).has 0
 ·rfl
 ·exfalso;rw[Span.has_iff] at h;have a:=h.1;have c:=q3y (E:=E) (F:=F) hm;have d:0<=before E F m:=by unfold before;split<;>exact qca _ _ _
  unfold q2F q0T at a;have b:(m==0)=qe:=k09.2 (Nat.ne_of_gt hm);split at a
  ·dsimp only at a;rcases a with k|⟨k,-⟩<;>grind
  ·split at a
   ·dsimp only at a;rw[b] at a;rcases a with k|⟨-,k⟩
    ·grind
    ·exact absurd k (by decide)
   ·split at a
    ·dsimp only at a;rcases a with k|⟨k,-⟩<;>grind
    ·dsimp only at a;rcases a with k|⟨k,-⟩<;>grind
theorem q2J(mode:Nat)(hm:0<q1h E F b):q0c E F b mode=q58 (q1V E F b) (q1z (q2F E F (q1h E F b) (Go.Proofs.YtabcgemembkkcaaGreatDoor.Sh.seen mode (q1V E F b))) (wv E F (q1h E F b))):=by
 have e:=q3y (E:=E) (F:=F) hm;have a:=q8d (E:=E) (F:=F) (Go.Proofs.YtabcgemembkkcaaGreatDoor.Sh.seen mode (q1V E F b)) hm;unfold q0c;rw[k0o (by omega)];unfold q1l;cases hn:q1V E F b
 ·rw[hn] at a;have c:q0R E F b mode=q2F E F (q1h E F b) (Go.Proofs.YtabcgemembkkcaaGreatDoor.Sh.seen mode qe):=by unfold q0R q2F;rw[hn];rfl
  have d:q4J E F b=wv E F (q1h E F b):=by unfold q4J;rw[hn];rfl
  rw[c,d,a,k0o (by decide)];have:¬(wv E F (q1h E F b)).num<0:=by have:=q1x e;omega
  rw[k0o this]
 ·rw[hn] at a;have c:(q0R E F b mode).flip=q2F E F (q1h E F b) (Go.Proofs.YtabcgemembkkcaaGreatDoor.Sh.seen mode qk):=by unfold q0R q2F Span.flip;rw[hn];dsimp only;rw[k0n rfl];dsimp only;rw[Rat.neg_neg,Rat.neg_neg]
  have d:q4J E F b = -wv E F (q1h E F b):=by unfold q4J;rw[hn];rfl
  have f:(q0R E F b mode).has 0=qe:=by rw[<- Span.has_flip,c,Rat.neg_zero];exact a
  have g:(q4J E F b).num<0:=by rw[d,Rat.neg_num];have:=q1x e;omega
  rw[f,k0o (by decide),k0n g,c,d,Rat.neg_neg]
def q7h(mode:Nat):Nat:=if mode=3 then 4 else if mode=4 then 3 else mode
theorem qbs(h:mode<=4):q7h mode<=4:=by unfold q7h;split<;>(try split)<;>omega
theorem q8H(h:mode<=4)(ng:Bool):Go.Proofs.YtabcgemembkkcaaGreatDoor.Sh.seen (q7h mode) (!ng)=Go.Proofs.YtabcgemembkkcaaGreatDoor.Sh.seen mode ng:=by rcases(by omega:mode=0\/mode=1\/mode=2\/mode=3\/mode=4) with rfl|rfl|rfl|rfl|rfl<;>cases ng<;>decide
theorem q3m{b':Nat}(h:mode<=4)(h1:q1h E F b'=q1h E F b)(h2:q1V E F b'=!q1V E F b):(q0c E F b' (q7h mode)).neg=!(q0c E F b mode).neg/\(q0c E F b' (q7h mode)).S=(q0c E F b mode).S/\(q0c E F b' (q7h mode)).x=(q0c E F b mode).x:=by
 rcases k01 (q1h E F b) with a|a
 ·unfold q0c;rw[h1,k0n a,k0n a,h2];exact⟨rfl,rfl,rfl⟩
 ·rw[q2J mode a,q2J (q7h mode) (by rw[h1];exact a),h1,h2,q8H h];exact⟨rfl,rfl,rfl⟩
theorem q3l(mode:Nat)(hm:0<q1h E F b):(q0c E F b mode).S.size=q0t (q17 (q1z (q2F E F (q1h E F b) (Go.Proofs.YtabcgemembkkcaaGreatDoor.Sh.seen mode (q1V E F b))) (wv E F (q1h E F b))).1):=by rw[q2J mode hm];exact q0V _
theorem q4s(ng:Bool):Go.Proofs.YtabcgemembkkcaaGreatDoor.Sh.seen 0 ng=0:=by cases ng<;>decide
theorem q43(h4:F<=52):(q0c E F b 0).S.size<=q0t (2^(F+1))+1:=by
 rcases k01 (q1h E F b) with a|a
 ·unfold q0c;rw[k0n a];exact k0x _
 ·rw[q3l 0 a,q4s];have d:q0t (2^(F+1))<=100:=by have c:2^(F+1)<=2^53:=k04 (by decide) (by omega);exact k06 (q1e (k:=17) (k0F c (by decide)) (by decide)) (by decide)
  refine q5R (q3y a) (by omega) (by omega) ?_;rw[k1d];exact q6N a
theorem q9l(neg:Bool){r:Nat}(hr:r<q2P E F):q1h E F (sgb E F neg+r)=r:=by
 have a:r<2^(E+F):=by have:=k0c F;unfold q2P at hr;omega
 unfold q1h sgb;cases neg
 ·show(0+r)%_=r;rw[k0U,k0u a]
 ·show(2^(E+F)+r)%_=r;rw[Nat.add_mod_left,k0u a]
theorem q7V{below neg:Bool}{N:Nat}{q:Rat}(hE:2<=E)(hF:1<=F)(hq:q=wo N x)(hs:q0t N<=6000)(hfl:(bits .and .u8 (((q0h E F below neg 0 q.num.natAbs q.den).2:Nat):Int) 6==0)=qk):(q0h E F below neg 0 q.num.natAbs q.den).1<2^(1+E+F)/\q0E E F (q0h E F below neg 0 q.num.natAbs q.den).1≠2^E-1/\(0<N->(q0c E F (q0h E F below neg 0 q.num.natAbs q.den).1 0).S.size<=q0t N)/\(N=0->(q0c E F (q0h E F below neg 0 q.num.natAbs q.den).1 0).S.size=0):=by
 have p:0<q2P E F:=by unfold q2P;have K:=k1P (a:=2) (m:=F) (n:=E+F) (by decide) (by omega);omega
 have zero:∀ng:Bool,sgb E F ng<2^(1+E+F)/\q0E E F (sgb E F ng)≠2^E-1/\(q0c E F (sgb E F ng) 0).S.size=0:=fun ng=>by obtain⟨-,p2,-,l,i⟩:=Hx.parts_of (E:=E) (F:=F) (neg:=ng) (r:=0) p;rw[k14] at p2 i;refine⟨i,by rw[p2];exact Nat.ne_of_lt l,?_⟩;have:=q9l (E:=E) (F:=F) ng p;rw[k14] at this;unfold q0c;rw[k0n this];rfl
 rcases k01 N with o|o
 ·have w:q=0:=by rw[hq,o];unfold wo;rw[show((0:Nat):Rat)=0 from rfl,Rat.zero_mul]
  have e:q0h E F below neg 0 q.num.natAbs q.den=(sgb E F neg,0):=by rw[w];rfl
  rw[e];obtain⟨a,b,c⟩:=zero neg;exact⟨a,b,fun h=>by omega,fun _=>c⟩
 ·have y:0<q:=by rw[hq];exact Rat.mul_pos (by exact_mod_cast o) (q1f x)
  have L:=q1x y;have u:0<q.num.natAbs:=by omega
  have j:q*(q.den:Rat)=((q.num.natAbs:Nat):Rat):=by rw[q71 q,<- k0Y];congr 1;omega
  have v:=q.den_pos;obtain⟨a,z⟩:=yx (q.num.natAbs);obtain⟨d,C⟩:=yx (q.den);rw[<- z] at u j hfl ⊢;rw[<- C] at j v hfl ⊢;have e:q0h E F below neg 0 a d=(sgb E F below+(out E F below 0 a d).1,(out E F below 0 a d).2):=by unfold q0h;rw[k0o (by omega)]
  rw[e] at hfl ⊢;have g:over E F below 0 a d=qe:=by
   cases h:over E F below 0 a d
   ·rfl
   ·have:(out E F below 0 a d).2=3:=by unfold out;rw[k0n h]
    rw[this] at hfl;exact absurd hfl (by decide)
  have G:(out E F below 0 a d).1=q18 E F below 0 a d:=by unfold out;rw[k0o (by rw[g];decide)]
  dsimp only;rw[G];have s:q18 E F below 0 a d<q2P E F:=by unfold over at g;rw[Bool.or_eq_false_iff] at g;have:=of_decide_eq_false g.2;omega
  obtain⟨-,p2,-,l,i⟩:=Hx.parts_of (E:=E) (F:=F) (neg:=below) s;have k:=q9l (E:=E) (F:=F) below s;refine⟨i,by rw[p2];exact Nat.ne_of_lt l,fun _=>?_,fun h=>by omega⟩;rcases k01 (q18 E F below 0 a d) with f|f
  ·have:q0c E F (sgb E F below+q18 E F below 0 a d) 0=⟨q1V E F (sgb E F below+q18 E F below 0 a d),⟨#[]⟩,0⟩:=by unfold q0c;rw[k0n (by rw[k];exact f)]
   rw[this];exact k0x _
  ·have t:=q7a (neg:=below) hE hF u v j f;have D:(q2F E F (q18 E F below 0 a d) 0).has (wv E F (q18 E F below 0 a d))=qk:=by obtain⟨-,H,I⟩:=q5L E F (q18 E F below 0 a d) 0 f;exact(Span.has_iff _ _).2 ⟨H,I⟩
   rw[q3l 0 (by rw[k];exact f),k,q4s];rw[hq] at t;have J:=Lib.lt_pow_nDigits N;exact q5R (q3y f) (q13 N) hs (q9O (q3y f) D t J (q13 N))
end Sho
end Go.Proofs.YtabcgemembkkcaaGreatDoor
