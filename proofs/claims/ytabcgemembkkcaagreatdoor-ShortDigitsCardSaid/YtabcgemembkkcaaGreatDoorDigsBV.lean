/- Lemmas. -/
import Derived.Test.YtabcgemembkkcaaGreatDoorDigsBS
set_option linter.all false
set_option maxHeartbeats 8000000
set_option maxRecDepth 100000
open Go.Proofs.Tryz
open Bool renaming false->qa,true->qk
open Option renaming none->qb,some->qg
open Decidable renaming decide->qd
open Go renaming RowKit.Below.refl->qe,bodyPost_ret->qj,World->ql,Exit.noGoto_ret->qm,Calls->qn,World.size_alloc->qo,IntWalk.i64_in->qq
open Go.Proofs.Tryz renaming prog->qh
open Go.RowKit renaming Below->qi,Hid->qp
namespace Go.Proofs.YtabcgemembkkcaaGreatDoor
variable{w w':ql}{g k gx:Nat}{t:TypeId}
namespace Sho
open Go Go.RowKit R5 Scn Sh Rtp
theorem q1J{w1:ql}{b:q30}{bs:List q30}(h:Cx w (b::bs) w1):Cx w bs w1:=⟨⟨h.low,fun x hx=>h.all x (.tail _ hx)⟩,(List.pairwise_cons.1 h.pw).2,fun x hx=>h.ge x (.tail _ hx)⟩
def SdG(S:ByteArray)(z:Int)(b:Bool)(q:Rat)(w:ql)(e:Ending)(w':ql):Prop:=
 ∃r:RV,e=.returned (.agg #[.bool qa,.string S,.int .i64 z,.bool r.b,.slice r.X r.n r.c,.slice r.Y r.m r.d,.bool b])/\RI w' r q/\qi w.heap.size w w'
theorem qac(N:Nat)(x:Int)(w:ql)(hN:0<N)(hl:q0K N<=9000):qn qh 146 #[q3J qa (q0J (q0E N)) x] w fun e w'=>e=.returned (.bool (evD N))/\qi w.heap.size w w':=by
 have a:=q0z (q0E N);have c:=q1w hN;have d:=q16 (q0E N);have k:=qdE qa (q0J (q0E N)) x w (by omega) (by omega);have b:=q2v (q0E N) (by omega);have e:(q0J (q0E N))[(q0J (q0E N)).size-1].toNat%2=q0E N%2:=by simp only[a,b];omega
 rw[e,<- q8a hN] at k;exact k
theorem qcO(r l h:RV)(v:Rat)(s:Span)(w:ql)(hr:RI w r v)(hs:SI w l h s)(hv:0<v)(hlo:s.lo<s.hi)(hin:s.has v=qk)(s1:Qb 2200 s.lo)(s2:Qb 2200 s.hi)(s3:Qb 2200 v)(hst:Std w):qn qh 68 #[spV l h s,r.v] w fun e w'=>e=.returned (.tuple #[q3J qa (q0J (q0E (q0Q s v).1)) ((q0Q s v).2+(Go.Proofs.YtabcgemembkkcaaGreatDoor.Sh.tz (q0Q s v).1:Int)),.bool qk])/\qi w.heap.size w w':=by
 obtain⟨w0,p9⟩:=yx (((w.alloc (.cells #[.bool l.b,.slice l.X l.n l.c,.slice l.Y l.m l.d,.bool h.b,.slice h.X h.n h.c,.slice h.Y h.m h.d,.bool s.li,.bool s.hn] 69)).alloc (.cells #[.bool r.b,.slice r.X r.n r.c,.slice r.Y r.m r.d] 39)).alloc (.cells #[.bool qa,.string ⟨#[]⟩,.int .i64 0] 27));have z:Cx w [(w.heap.size+2,27,[.bool qa,.string ⟨#[]⟩,.int .i64 0]),(w.heap.size+1,39,[.bool r.b,.slice r.X r.n r.c,.slice r.Y r.m r.d]),(w.heap.size,69,[.bool l.b,.slice l.X l.n l.c,.slice l.Y l.m l.d,.bool h.b,.slice h.X h.n h.c,.slice h.Y h.m h.d,.bool s.li,.bool s.hn])] w0:=by rw[p9];exact(((Cx.nil w).new _ [_,_,_,_,_,_,_,_] rfl).new _ [_,_,_] (by simp)).new _ [_,_,_] (by simp)
 obtain⟨k0,w5,w6,w7⟩:=q6N hv hin hlo s1 s2 s3;obtain⟨t1,t2⟩:=q7i hv s3;have hc:q1s s.lo s.hi = -1:=by unfold q1s;rw[k0p hlo]
 have q0:=vv fun w' (k:SI w' l h s) (hst:Std w')=>qbC l s.lo h s.hi w' k.l k.h (s1.mono (by decide)) (s2.mono (by decide)) hst
 rw[hc] at q0;have q3:=vv fun w' (k:RI w' r v) (hst:Std w')=>qen r v w' k hv (s3.mono (by decide)) hst
 have w8:=vv fun(j:Nat) (Q:j<=6600) (e:Int) (L:e=top v-j) w' (k:RI w' r v) (hst:Std w')=>qal r v (-e) w' k (s3.mono (by decide)) hv (by omega) (by omega) hst
 have hY:∀(j:Nat),j<=6600->∀e:Int,e=top v-j->Qb 40000 (v*tp (-e)):=fun j Q e L=>(s3.mul (Qb.tp (-e))).mono (by omega)
 have w9:=vv fun(j:Nat) (Q:j<=6600) (e:Int) (L:e=top v-j) C w' (k:RI w' C (v*tp (-e))) (hst:Std w')=>qd2 C _ w' k ((hY j Q e L).mono (by decide)) (k1w (q3n hv e)) hst
 have q4:qp (∀(j:Nat),j<=6600->∀e:Int,e=top v-j->0<fl v e/\0<ce v e/\q0K (fl v e)<=9000/\q0K (ce v e)<=9000):=vv fun j Q e L=>by obtain⟨a,b⟩:=q7W hv (e:=e) (k:=j) (by omega);exact⟨q86 hv (by omega),qag hv (by omega),by omega,by omega⟩
 have x0:=vv fun(N:Nat) (hN:q0K N<=9000) A n B w' (k1:RN w' A n n N) (S:RN w' B 1 1 1) (hst:Std w')=>MakeQ qa A n n B 1 1 N 1 w' k1.r S.r (rd_le k1.r (by have:=bl_len N;omega)) (by decide) (by decide) hst
 have x3:∀N:Nat,mkRat (sg qa N) 1=((N:Nat):Rat):=fun N=>by rw[k2n];show(((N:Nat):Int):Rat)=_;rw[k0J]
 have x4:=vv fun(j:Nat) (Q:j<=6600) (e:Int) (L:e=top v-j) rt C w' (k1:RI w' rt ((fl v e:Nat):Rat)) (S:RI w' C (v*tp (-e))) (hst:Std w')=>qdp rt _ C _ w' k1 S (by have a:=(q4.o j Q e L).2.2.1;have b:=bl_len (fl v e);exact Qb.nat (by omega) (by decide) (by decide)) ((hY j Q e L).mono (by decide)) hst
 have x5:=vv fun(N:Nat) (hN:q0K N<=9000) A n B w' (k1:RN w' A n n N) (S:RN w' B 1 1 1)=>Pnt.Add A n n N B 1 1 1 w' k1.r S.r (rd_le k1.r (by have:=bl_len N;omega)) (by decide) (Pnt.words_bl' (by have:=bl_len N;have:=q20 N 1 36001 (by omega) (by decide);omega))
 have q5:qp (∀(N:Nat),0<N->q0K N<=9000->∀(j:Nat),j<=6600->∀e:Int,e=top v-j->∀A n w',RN w' A n n N->RI w' r v->SI w' l h s->Std w' ->qn qh 145 #[q0x A n n,.int .i64 e,r.v,.func (.func 44) #[spV l h s] #[]] w' (SdG (q0J (q0E N)) (e+(Go.Proofs.YtabcgemembkkcaaGreatDoor.Sh.tz N:Int)) (s.has (wo N e)) (Sh.far v N e) w')):=vv fun N hN hl j Q e L A n w' k1 S k3 hst =>qbn A n n N e r l h v s w' k1.r S k3 hN hl (by omega) (by omega) (s1.mono (by decide)) (s2.mono (by decide)) (s3.mono (by decide)) hst
 have q6:∀(N:Nat),q0K N<=9000->∀(j:Nat),j<=6600->∀e:Int,e=top v-j->Qb 80000 (Sh.far v N e):=fun N hN j Q e L=>((Qb.sub (wo_Qb hN (by omega) (by omega)) s3).abs).mono (by decide)
 have x6:=vv fun(N M:Nat) (hN:q0K N<=9000) (hM:q0K M<=9000) (j:Nat) (Q:j<=6600) (e:Int) (L:e=top v-j) ra rb w' (k1:RI w' ra (Sh.far v N e)) (S:RI w' rb (Sh.far v M e)) (hst:Std w')=>qbC ra _ rb _ w' k1 S ((q6 N hN j Q e L).mono (by decide)) ((q6 M hM j Q e L).mono (by decide)) hst
 have x7:qp (∀(j:Nat),j<=k0->∀e:Int,e=top v-j->q2s s v e=qk->q0Q s v=(q74 s v e,e)):=vv fun j Q e L hs=>by subst L;exact q8t (by omega) hs fun i hi=>w7 i (by omega)
 have x8:qp (∀(j:Nat),j<=k0->∀e:Int,e=top v-j->q2s s v e=qa->j<k0):=vv fun j Q e L hs=>by
  rcases k0A j k0 with k|k
  ·exact k
  ·rw[L,show j=k0 by omega,w6] at hs;exact absurd hs (by decide)
 obtain⟨SB,q7⟩:=yx (q0J (q0E (q0Q s v).1));obtain⟨XB,q8⟩:=yx ((q0Q s v).2+(Go.Proofs.YtabcgemembkkcaaGreatDoor.Sh.tz (q0Q s v).1:Int));rw[<- q7,<- q8];have z9:=vv (And.intro q7 q8);have q:=vv (hr.below z.low);have t:=vv (hs.below z.low);have HT:=vv (And.intro t1 t2);have HK:=vv w5;have x9:=vv x3;have a6:=vv hst;have g:=vv z;have HW:=vv p9;have ht0:((-1:Int)==0)=qa:=rfl;obtain⟨tv,q9⟩:=yx (top v);rw[<- q9] at q3;have r0:=vv q9;clear p9 z hr hs hv hlo hin s1 s2 s3 hst w5 w6 w7 t1 t2 hc hY x3 q6 q7 q8 q9;unfold spV;obtain⟨kc1,kc2,kc3,kc4,kc5,kc6,kc7,kc8,kl9⟩:=Blk.f8 (g.o.get 2 rfl);go_enter func68,ntmps68;go_wp2_with fail;rw[<- HW.o];go_step3;go_wp2_with fail;refine(q0.o _ t.o (g.o.std a6.o)).mono ?_;rintro e w10 ⟨rfl,f⟩;replace g:=vv (g.o.step f);replace q:=vv (q.o.below f);replace t:=vv (t.o.below f);clear kc1 kc2 kc3 kc4 kc5 kc6 kc7 kc8 kl9 f;obtain⟨r8,r9,s0,s4⟩:=Blk.f3 (g.o.get 1 rfl);obtain⟨s5,s6,s7,s8,s9,t0,t3,t4,t5⟩:=Blk.f8 (g.o.get 2 rfl);go_wp2_with fail;refine(q3.o _ q.o (g.o.std a6.o)).mono ?_;rintro e o8 ⟨rfl,f⟩;replace g:=vv (g.o.step f);replace q:=vv (q.o.below f);replace t:=vv (t.o.below f);clear r8 r9 s0 s4 s5 s6 s7 s8 s9 t0 t3 t4 t5 f;go_wp2_with fail;obtain⟨b8,W⟩:=yx (o8.heap.size);obtain⟨m0,F⟩:=yx (o8.alloc (.cells #[.bool qa,.string ⟨#[]⟩,.int .i64 0,.bool qa,.slice qb 0 0,.slice qb 0 0,.bool qa] 192));have f:qi o8.heap.size o8 m0:=by rw[F];exact(qe _ _).alloc lr _
 have z:=g.o.new 192 [.bool qa,.string ⟨#[]⟩,.int .i64 0,.bool qa,.slice qb 0 0,.slice qb 0 0,.bool qa] W;have b1:(b8+1:Nat)=m0.heap.size:=by rw[F,qo,<- W]
 rw[<- F] at z 
 try rw[<- F]
 try rw[<- W]
 replace g:=vv z;replace q:=vv (q.o.below f);replace t:=vv (t.o.below f);clear F f z W;obtain⟨w27,F⟩:=yx (m0.alloc (.cells #[.bool qa,.string ⟨#[]⟩,.int .i64 0,.bool qa,.slice qb 0 0,.slice qb 0 0,.bool qa] 192));have f:qi m0.heap.size m0 w27:=by rw[F];exact(qe _ _).alloc lr _
 have z:=g.o.new 192 [.bool qa,.string ⟨#[]⟩,.int .i64 0,.bool qa,.slice qb 0 0,.slice qb 0 0,.bool qa] b1;rw[<- F] at z 
 try rw[<- F]
 replace g:=vv z;replace q:=vv (q.o.below f);replace t:=vv (t.o.below f);clear F f z b1;go_step3;go_wp2_with fail;go_loopw [12] (fun y wr=>∃(j:Nat) (S1:ByteArray) (x1:Int) (H:RV) (d1:Bool) (S2:ByteArray) (x2:Int) (I:RV) (d2:Bool),y=.int .i64 (tv-(j:Int))/\j<=k0/\Cx w [((b8+1),192,[.bool qa,.string S2,.int .i64 x2,.bool I.b,.slice I.X I.n I.c,.slice I.Y I.m I.d,.bool d2]),(b8,192,[.bool qa,.string S1,.int .i64 x1,.bool H.b,.slice H.X H.n H.c,.slice H.Y H.m H.d,.bool d1]),(w.heap.size+2,27,[.bool qa,.string ⟨#[]⟩,.int .i64 0]),(w.heap.size+1,39,[.bool r.b,.slice r.X r.n r.c,.slice r.Y r.m r.d]),(w.heap.size,69,[.bool l.b,.slice l.X l.n l.c,.slice l.Y l.m l.d,.bool h.b,.slice h.X h.n h.c,.slice h.Y h.m h.d,.bool s.li,.bool s.hn])] wr/\RI wr r v/\SI wr l h s) (fun y _=>(intOf y-(tv-(k0:Int))).toNat)
 case atStart=>exact⟨0,⟨#[]⟩,0,⟨qa,qb,0,0,qb,0,0⟩,qa,⟨#[]⟩,0,⟨qa,qb,0,0,qb,0,0⟩,qa,by simp,k0x _,g.o,q.o,t.o⟩
 case round =>
  obtain⟨j,S1,x1,H,d1,S2,x2,I,d2,rfl,Q,z,m1,y0⟩:=hrel;replace g:=vv z;replace q:=vv m1;replace t:=vv y0;obtain⟨e,L⟩:=yx (tv-(j:Int));rw[<- L];have c5:j<=6600:=by have:=HK.o;omega
  have b7:e=top v-(j:Int):=by rw[L,r0.o]
  have eb1:-8800<=e:=by have:=HT.o;have:=r0.o;omega
  have eb2:e<=2200:=by have:=HT.o;have:=r0.o;omega
  have hwx:IntKind.i64.wrap (-e) = -e:=qq _ (by omega);have y1:=vv L;obtain⟨o9,p0,f9,m3⟩:=q4.o j c5 e b7;have y2:=vv (And.intro o9 (And.intro p0 (And.intro f9 m3)));have m9:=vv (w8.o j c5 e b7);have b9:=vv (w9.o j c5 e b7);have a2:=vv (x0.o (fl v e) f9);have c0:=vv (x4.o j c5 e b7);have g3:=vv (x5.o (fl v e) f9);have m4:=vv (q5.o (fl v e) o9 f9 j c5 e b7);have m5:=vv (q5.o (ce v e) p0 m3 j c5 e b7);have a3:=vv (x6.o (ce v e) (fl v e) m3 f9 j c5 e b7);have p1:=vv fun w'=>qac (fl v e) (e+(Go.Proofs.YtabcgemembkkcaaGreatDoor.Sh.tz (fl v e):Int)) w' o9 f9
  have p2:=vv fun w'=>qac (ce v e) (e+(Go.Proofs.YtabcgemembkkcaaGreatDoor.Sh.tz (ce v e):Int)) w' p0 m3
  have c2:=vv (x7.o j Q e b7);have a4:=vv (x8.o j Q e b7);rw[x9.o] at a2;have y3:fl v e=(v*tp (-e)).floor.natAbs:=rfl;rw[<- y3] at b9;have r1:ce v e=if((fl v e:Nat):Rat)=v*tp (-e) then fl v e else fl v e+1:=rfl;have y4:q2s s v e=(s.has (wo (fl v e) e) || s.has (wo (ce v e) e)):=rfl;have y5:up v e=(qd (q1s (Sh.far v (ce v e) e) (Sh.far v (fl v e) e)<0) || (q1s (Sh.far v (ce v e) e) (Sh.far v (fl v e) e)==0 && evD (ce v e) && !evD (fl v e))):=rfl;have Z:q74 s v e=if s.has (wo (ce v e) e)=qa then fl v e else if s.has (wo (fl v e) e)=qa then ce v e else if up v e then ce v e else fl v e:=rfl;rw[y5] at Z;rw[y4] at c2 a4;have g0:=cmp3 (Sh.far v (ce v e) e) (Sh.far v (fl v e) e);have n0:=vv z9.o;generalize hpv:q74 s v e=pv at Z c2;have g1:qp ((s.has (wo (fl v e) e) || s.has (wo (ce v e) e))=qk->SB=q0J (q0E pv)/\XB=e+(Go.Proofs.YtabcgemembkkcaaGreatDoor.Sh.tz pv:Int)):=vv fun k=>by have S:=c2.o k;obtain⟨a,b⟩:=n0.o;rw[S] at a b;exact⟨a,b⟩
  have l6:(q1s ((fl v e:Nat):Rat) (v*tp (-e))==0)=qk->ce v e=fl v e:=fun k=>by rw[r1,k0p (q5H.1 (by simpa using k))]
  have l7:(q1s ((fl v e:Nat):Rat) (v*tp (-e))==0)=qa->ce v e=fl v e+1:=fun k=>by rw[r1,k0r (fun a=>by rw[q5H.2 a] at k;exact absurd k (by decide))]
  obtain⟨U,y6⟩:=yx (fl v e);obtain⟨Nc,y7⟩:=yx (ce v e);obtain⟨y,hy⟩:=yx (v*tp (-e));rw[<- y6] at y2 b9 a2 c0 g3 m4 a3 p1 a4 g1 Z l6 l7 g0;rw[<- y7] at y2 m5 a3 p2 a4 g1 Z l6 l7 g0;rw[<- hy] at m9 b9 c0 l6 l7;obtain⟨sm,n5⟩:∃b,b=(q1s ((U:Nat):Rat) y==0):=⟨_,rfl⟩;rw[<- n5] at c0 l6 l7;obtain⟨bf,y8⟩:=yx (s.has (wo U e));obtain⟨bc,y9⟩:=yx (s.has (wo Nc e));rw[<- y8] at m4 a4 g1 Z;rw[<- y9] at m5 a4 g1 Z;obtain⟨qf,z0⟩:=yx (Sh.far v U e);obtain⟨qc,z1⟩:=yx (Sh.far v Nc e);rw[<- z0] at m4 a3 Z g0;rw[<- z1] at m5 a3 Z g0;obtain⟨cq,z2⟩:=yx (q1s qc qf);rw[<- z2] at a3 Z g0;obtain⟨Sf,r2⟩:=yx (q0J (q0E U));obtain⟨Sc,r3⟩:=yx (q0J (q0E Nc));obtain⟨xf,r4⟩:=yx (e+(Go.Proofs.YtabcgemembkkcaaGreatDoor.Sh.tz U:Int));obtain⟨xc,r5⟩:=yx (e+(Go.Proofs.YtabcgemembkkcaaGreatDoor.Sh.tz Nc:Int));rw[<- r2,<- r4] at m4 p1;rw[<- r3,<- r5] at m5 p2;obtain⟨vf,z3⟩:=yx (evD U);obtain⟨vc,z4⟩:=yx (evD Nc);rw[<- z3] at p1 Z;rw[<- z4] at p2 Z;have g2:=vv Z;have m6:=vv (And.intro l6 l7);have HCq:=vv g0;have p3:qp (pv=U->(bf || bc)=qk->SB=Sf/\XB=xf):=vv fun k1 S=>by rw[r2,r4,<- k1];exact g1.o S
  have r6:qp (pv=Nc->(bf || bc)=qk->SB=Sc/\XB=xc):=vv fun k1 S=>by rw[r3,r5,<- k1];exact g1.o S
  clear z m1 y0 L c5 b7 o9 p0 f9 m3 Q y3 r1 y4 y5 Z hpv l6 l7 y6 y7 hy n5 y8 y9 z0 z1 z2 r2 r3 r4 r5 z3 z4 g0;clear w8 w9 x0 x4 x5 q5 x6 x7 x8 c2 g1 n0 q4 x9 q3 q0;obtain⟨t6,t7,t8,t9⟩:=Blk.f3 (g.o.get 3 rfl);go_wp2_with fail;refine(m9.o _ q.o (g.o.std a6.o)).mono ?_;rintro e p4 ⟨C,rfl,hQ,f⟩;replace g:=vv (g.o.step f);replace q:=vv (q.o.below f);replace t:=vv (t.o.below f);have D:=vv hQ;clear t6 t7 t8 t9 f hQ;go_wp2_with fail;obtain⟨z5,W⟩:=yx (p4.heap.size);obtain⟨w34,F⟩:=yx (p4.alloc (.cells #[.bool C.b,.slice C.X C.n C.c,.slice C.Y C.m C.d] 39));have f:qi p4.heap.size p4 w34:=by rw[F];exact(qe _ _).alloc lr _
  have z:=g.o.new 39 [.bool C.b,.slice C.X C.n C.c,.slice C.Y C.m C.d] W;rw[<- F] at z 
  try rw[<- F]
  try rw[<- W]
  replace g:=vv z;replace q:=vv (q.o.below f);replace t:=vv (t.o.below f);replace D:=vv (D.o.below f);clear F f z W;refine(b9.o _ _ D.o (g.o.std a6.o)).mono ?_;rintro e p5 ⟨V,n1,rfl,m1,f⟩;replace g:=vv (g.o.step f);replace q:=vv (q.o.below f);replace t:=vv (t.o.below f);replace D:=vv (D.o.below f);have x:=vv (RN.mk m1);clear f m1;go_upto_region 12 with fail;obtain⟨a5,W⟩:=yx (p5.heap.size);obtain⟨m7,F⟩:=yx (p5.alloc (.cells #[.slice V n1 n1] 37));have f:qi p5.heap.size p5 m7:=by rw[F];exact(qe _ _).alloc lr _
  have z:=g.o.new 37 [.slice V n1 n1] W;have b1:(a5+1:Nat)=m7.heap.size:=by rw[F,qo,<- W]
  rw[<- F] at z 
  try rw[<- F]
  try rw[<- W]
  replace g:=vv z;replace q:=vv (q.o.below f);replace t:=vv (t.o.below f);replace D:=vv (D.o.below f);replace x:=vv (x.o.below f);clear F f z W;obtain⟨p6,F⟩:=yx (m7.alloc (.cells #[.slice V n1 n1] 37));have f:qi m7.heap.size m7 p6:=by rw[F];exact(qe _ _).alloc lr _
  have z:=g.o.new 37 [.slice V n1 n1] b1;rw[<- F] at z 
  try rw[<- F]
  replace g:=vv z;replace q:=vv (q.o.below f);replace t:=vv (t.o.below f);replace D:=vv (D.o.below f);replace x:=vv (x.o.below f);clear F f z b1;go_cut [19] (fun s19 wx=>∃(gt:Nat) (b2:Bool) (X2:Option Addr) (n2:Nat) (Y2:Option Addr) (m2:Nat),s19=.pointer (qg ⟨gt,0,qb⟩)/\Cx w [(gt,39,[.bool b2,.slice X2 n2 n2,.slice Y2 m2 m2]),((a5+1),37,[.slice V n1 n1]),(a5,37,[.slice V n1 n1]),(z5,39,[.bool C.b,.slice C.X C.n C.c,.slice C.Y C.m C.d]),((b8+1),192,[.bool qa,.string S2,.int .i64 x2,.bool I.b,.slice I.X I.n I.c,.slice I.Y I.m I.d,.bool d2]),(b8,192,[.bool qa,.string S1,.int .i64 x1,.bool H.b,.slice H.X H.n H.c,.slice H.Y H.m H.d,.bool d1]),(w.heap.size+2,27,[.bool qa,.string ⟨#[]⟩,.int .i64 0]),(w.heap.size+1,39,[.bool r.b,.slice r.X r.n r.c,.slice r.Y r.m r.d]),(w.heap.size,69,[.bool l.b,.slice l.X l.n l.c,.slice l.Y l.m l.d,.bool h.b,.slice h.X h.n h.c,.slice h.Y h.m h.d,.bool s.li,.bool s.hn])] wx/\RI wx r v/\SI wx l h s/\RI wx C y/\RN wx V n1 n1 U/\RI wx ⟨b2,X2,n2,n2,Y2,m2,m2⟩ ((U:Nat):Rat))
  case first =>
   go_wp2_with fail;obtain⟨c4,v0⟩:=Blk.f1 (g.o.get 1 rfl);refine q02 (fun w'=>w'.cell? ⟨a5,0,qb⟩=qg (.slice V n1 n1)) 8
    (.still 0 (.two 1 (.two 2 (.still 3 (.still 4 (.still 5 (.one 6 (.one 7 .done))))) 6 (.one 2 (.still 3 (.still 4 (.still 5 (.one 7 .done)))))) 6 (.one 1 (.one 2 (.still 3 (.still 4 (.still 5 (.one 7 .done)))))))) c4 (fun m8=>?_)
   iterate 1
    refine q03 ?_
   clear v0 c4;obtain⟨l8,a7⟩:=yx (p6.drew);have f:qi p6.heap.size p6 l8:=by rw[a7];exact q05 (qe _ _)
   replace g:=vv (g.o.step f);replace q:=vv (q.o.below f);replace t:=vv (t.o.below f);replace D:=vv (D.o.below f);replace x:=vv (x.o.below f);rw[<- a7] at m8 ⊢;clear a7 f;refine q0e rfl (by rfl) rfl (by rfl) (fun K hK=>?_) (fun K hK=>?_)
   focus
    go_simp;refine(Nat_.Of1 l8).mono ?_;rintro e p7 ⟨A2,rfl,R,f⟩;replace g:=vv (g.o.step f);replace q:=vv (q.o.below f);replace t:=vv (t.o.below f);replace D:=vv (D.o.below f);replace x:=vv (x.o.below f);have J:=vv (RN.mk R);clear f R;go_wp2_with fail;refine hK.out _ _ ((g.o.get 1 rfl).cell 0) (fun a0=>?_);clear hK;refine q0e rfl (by rfl) rfl (by rfl) (fun K hK=>?_) (fun K hK=>?_)
    focus
     go_simp;refine(a2.o _ _ _ _ x.o J.o (g.o.std a6.o)).mono ?_;rintro e p8 ⟨b2,X2,n2,Y2,m2,rfl,hq,f⟩;replace g:=vv (g.o.step f);replace q:=vv (q.o.below f);replace t:=vv (t.o.below f);replace D:=vv (D.o.below f);replace x:=vv (x.o.below f);replace J:=vv (J.o.below f);have a8:=vv hq;clear f hq;go_wp2_with fail;refine hK.out _ _ ((g.o.get 1 rfl).cell 0) (fun a0=>?_);clear hK
     iterate 3
      refine q03 ?_
     refine q01 rfl (by rfl) (fun K hK=>?_);go_simp;obtain⟨ga,a9⟩:=yx (p8.heap.size);obtain⟨z6,T⟩:=yx (p8.alloc (.cells #[.bool qa,.slice qb 0 0,.slice qb 0 0] 39));have f:qi p8.heap.size p8 z6:=by rw[T];exact(qe _ _).alloc lr _
     have z:=g.o.new 39 [.bool qa,.slice qb 0 0,.slice qb 0 0] a9;rw[<- T] at z
     try rw[<- T]
     try rw[<- a9]
     replace g:=vv z;replace q:=vv (q.o.below f);replace t:=vv (t.o.below f);replace D:=vv (D.o.below f);replace x:=vv (x.o.below f);replace J:=vv (J.o.below f);replace a8:=vv (a8.o.below f);clear f z T a9;refine hK.out _ _ ((g.o.get 2 rfl).cell 0) (fun a0=>?_);clear hK;obtain⟨wz,G⟩:=yx (z6);subst G
    rotate_left 1
    focus
     go_simp;obtain⟨ga,a9⟩:=yx (p7.heap.size);obtain⟨w45,T⟩:=yx (p7.alloc (.cells #[.bool qa,.slice qb 0 0,.slice qb 0 0] 39));have f:qi p7.heap.size p7 w45:=by rw[T];exact(qe _ _).alloc lr _
     have z:=g.o.new 39 [.bool qa,.slice qb 0 0,.slice qb 0 0] a9;rw[<- T] at z
     try rw[<- T]
     try rw[<- a9]
     replace g:=vv z;replace q:=vv (q.o.below f);replace t:=vv (t.o.below f);replace D:=vv (D.o.below f);replace x:=vv (x.o.below f);replace J:=vv (J.o.below f);clear f z T a9;refine hK.out _ _ ((g.o.get 2 rfl).cell 0) (fun a0=>?_);clear hK;refine q01 rfl (by rfl) (fun K hK=>?_);go_simp;refine(a2.o _ _ _ _ x.o J.o (g.o.std a6.o)).mono ?_;rintro e w46 ⟨b2,X2,n2,Y2,m2,rfl,hq,f⟩;replace g:=vv (g.o.step f);replace q:=vv (q.o.below f);replace t:=vv (t.o.below f);replace D:=vv (D.o.below f);replace x:=vv (x.o.below f);replace J:=vv (J.o.below f);have a8:=vv hq;clear f hq;go_wp2_with fail;refine hK.out _ _ ((g.o.get 2 rfl).cell 0) (fun a0=>?_);clear hK
     iterate 3
      refine q03 ?_
     obtain⟨wz,G⟩:=yx (w46);subst G
   rotate_left 2
   focus
    go_simp;obtain⟨ga,a9⟩:=yx (l8.heap.size);obtain⟨l9,T⟩:=yx (l8.alloc (.cells #[.bool qa,.slice qb 0 0,.slice qb 0 0] 39));have f:qi l8.heap.size l8 l9:=by rw[T];exact(qe _ _).alloc lr _
    have z:=g.o.new 39 [.bool qa,.slice qb 0 0,.slice qb 0 0] a9;rw[<- T] at z
    try rw[<- T]
    try rw[<- a9]
    replace g:=vv z;replace q:=vv (q.o.below f);replace t:=vv (t.o.below f);replace D:=vv (D.o.below f);replace x:=vv (x.o.below f);clear f z T a9;refine hK.out _ _ ((g.o.get 2 rfl).cell 0) (fun a0=>?_);clear hK;refine q01 rfl (by rfl) (fun K hK=>?_);go_simp;refine(Nat_.Of1 l9).mono ?_;rintro e w48 ⟨A2,rfl,R,f⟩;replace g:=vv (g.o.step f);replace q:=vv (q.o.below f);replace t:=vv (t.o.below f);replace D:=vv (D.o.below f);replace x:=vv (x.o.below f);have J:=vv (RN.mk R);clear f R;go_wp2_with fail;refine hK.out _ _ ((g.o.get 2 rfl).cell 0) (fun a0=>?_);clear hK;refine q01 rfl (by rfl) (fun K hK=>?_);go_simp;refine(a2.o _ _ _ _ x.o J.o (g.o.std a6.o)).mono ?_;rintro e w49 ⟨b2,X2,n2,Y2,m2,rfl,hq,f⟩;replace g:=vv (g.o.step f);replace q:=vv (q.o.below f);replace t:=vv (t.o.below f);replace D:=vv (D.o.below f);replace x:=vv (x.o.below f);replace J:=vv (J.o.below f);have a8:=vv hq;clear f hq;go_wp2_with fail;refine hK.out _ _ ((g.o.get 2 rfl).cell 0) (fun a0=>?_);clear hK
    iterate 3
     refine q03 ?_
    obtain⟨wz,G⟩:=yx (w49);subst G
   all_goals
    refine q01 rfl (by rfl) (fun K hK=>?_);have p:=vv (g.o.get 0 rfl)
    with_reducible refine q0b 39 (.tmp 19) (.tmp 62) rfl ga [.bool b2,.slice X2 n2 n2,.slice Y2 m2 m2] rfl rfl 39 _ p.o (by kernel_rfl) rfl rfl ?_
    intro r7 E u;replace g:=vv (g.o.put 0 rfl E u);replace q:=vv (q.o.apart_ p.o rfl u);replace t:=vv (t.o.apart_ p.o rfl u);replace D:=vv (D.o.apart_ p.o rfl u);replace x:=vv (x.o.apart_ p.o rfl u);replace J:=vv (J.o.apart_ p.o rfl u);replace a8:=vv (a8.o.apart_ p.o rfl u);clear p E u;refine hK.out _ _ ((g.o.get 2 rfl).cell 0) (fun a0=>?_);clear hK;refine q08 ?_;simp only[k0o,k0w];go_wp2_with fail;go_meet;exact⟨ga,b2,X2,n2,Y2,m2,rfl,g.o,q.o,t.o,D.o,x.o,a8.o⟩
  case rest =>
   obtain⟨gt,b2,X2,n2,Y2,m2,rfl,z,R,hS,hY,hF,hT⟩:=hcut;replace g:=vv z;replace q:=vv R;replace t:=vv hS;replace D:=vv hY;replace x:=vv hF;have a8:=vv hT;clear z R hS hY hF hT a2;obtain⟨c4,v1,v2,v3⟩:=Blk.f3 (g.o.get 0 rfl);obtain⟨v4,v5,v6,v7⟩:=Blk.f3 (g.o.get 3 rfl);go_wp2_with fail;refine(c0.o _ _ _ a8.o D.o (g.o.std a6.o)).mono ?_;rintro e l9 ⟨rfl,f⟩;replace g:=vv (g.o.step f);replace q:=vv (q.o.below f);replace t:=vv (t.o.below f);replace D:=vv (D.o.below f);replace x:=vv (x.o.below f);replace a8:=vv (a8.o.below f);clear c4 v1 v2 v3 v4 v5 v6 v7 f;go_upto_if 67 with fail;go_cut [68] (fun s68 wx=>∃(A4:Option Addr) (n4:Nat),Cx w [(gt,39,[.bool b2,.slice X2 n2 n2,.slice Y2 m2 m2]),((a5+1),37,[.slice A4 n4 n4]),(a5,37,[.slice V n1 n1]),(z5,39,[.bool C.b,.slice C.X C.n C.c,.slice C.Y C.m C.d]),((b8+1),192,[.bool qa,.string S2,.int .i64 x2,.bool I.b,.slice I.X I.n I.c,.slice I.Y I.m I.d,.bool d2]),(b8,192,[.bool qa,.string S1,.int .i64 x1,.bool H.b,.slice H.X H.n H.c,.slice H.Y H.m H.d,.bool d1]),(w.heap.size+2,27,[.bool qa,.string ⟨#[]⟩,.int .i64 0]),(w.heap.size+1,39,[.bool r.b,.slice r.X r.n r.c,.slice r.Y r.m r.d]),(w.heap.size,69,[.bool l.b,.slice l.X l.n l.c,.slice l.Y l.m l.d,.bool h.b,.slice h.X h.n h.c,.slice h.Y h.m h.d,.bool s.li,.bool s.hn])] wx/\RI wx r v/\SI wx l h s/\RN wx V n1 n1 U/\RN wx A4 n4 n4 Nc)
   case first =>
    cases sm
    ·have hn:=m6.o.2 rfl;clear m6;subst hn;rw[k2B];go_wp2_with fail;go_wp2_with fail;obtain⟨b3,v8⟩:=Blk.f1 (g.o.get 2 rfl);refine q02 (fun w'=>w'.cell? ⟨a5,0,qb⟩=qg (.slice V n1 n1)) 7
      (.still 0 (.one 1 (.one 2 (.still 3 (.still 4 (.still 5 (.one 6 .done))))))) b3 (fun m8=>?_)
     iterate 1
      refine q03 ?_
     clear v8 b3;obtain⟨r7,a7⟩:=yx (l9.drew);have f:qi l9.heap.size l9 r7:=by rw[a7];exact q05 (qe _ _)
     replace g:=vv (g.o.step f);replace q:=vv (q.o.below f);replace t:=vv (t.o.below f);replace x:=vv (x.o.below f);rw[<- a7] at m8 ⊢;clear a7 f;refine q01 rfl (by rfl) (fun K hK=>?_);go_simp;refine(Nat_.Of1 r7).mono ?_;rintro e w51 ⟨A2,rfl,R,f⟩;replace g:=vv (g.o.step f);replace q:=vv (q.o.below f);replace t:=vv (t.o.below f);replace x:=vv (x.o.below f);have J:=vv (RN.mk R);clear f R;go_wp2_with fail;refine hK.out _ _ ((g.o.get 2 rfl).cell 0) (fun a0=>?_);clear hK;refine q01 rfl (by rfl) (fun K hK=>?_);go_simp;refine(g3.o _ _ _ _ x.o J.o).mono ?_;rintro e w52 ⟨A4,n4,rfl,R,-,f⟩;replace g:=vv (g.o.step f);replace q:=vv (q.o.below f);replace t:=vv (t.o.below f);replace x:=vv (x.o.below f);replace J:=vv (J.o.below f);have HG:=vv (RN.mk R);clear f R;go_wp2_with fail;refine hK.out _ _ ((g.o.get 2 rfl).cell 0) (fun a0=>?_);clear hK
     iterate 3
      refine q03 ?_
     refine q01 rfl (by rfl) (fun K hK=>?_);have p:=vv (g.o.get 1 rfl)
     with_reducible refine q0b 37 (.tmp 18) (.tmp 72) rfl (a5+1) [.slice A4 n4 n4] rfl rfl 37 _ p.o (by kernel_rfl) rfl rfl ?_
     intro w53 E u;replace g:=vv (g.o.put 1 rfl E u);replace q:=vv (q.o.apart_ p.o rfl u);replace t:=vv (t.o.apart_ p.o rfl u);replace x:=vv (x.o.apart_ p.o rfl u);replace J:=vv (J.o.apart_ p.o rfl u);replace HG:=vv (HG.o.apart_ p.o rfl u);clear p E u;refine hK.out _ _ ((g.o.get 2 rfl).cell 0) (fun a0=>?_);clear hK;refine q08 ?_;simp only[k0o,k0w];go_wp2_with fail;go_meet;exact⟨A4,n4,g.o,q.o,t.o,x.o,HG.o⟩
    ·have hn:=m6.o.1 rfl;clear m6;subst hn;rw[k2M];go_wp2_with fail;go_meet;exact⟨V,n1,g.o,q.o,t.o,x.o,x.o⟩
   case rest =>
    obtain⟨A4,n4,z,R,hS,hF,hG⟩:=hcut;replace g:=vv z;replace q:=vv R;replace t:=vv hS;replace x:=vv hF;have HG:=vv hG;clear z R hS hF hG g3 m6;go_wp2_with fail;have b3:wc.cell? ⟨a5,0,qb⟩=qg (.slice V n1 n1):=(g.o.get 2 rfl).cell 0;obtain⟨n6,n7,n8⟩:=Blk.c3 (g.o.get 7 rfl);have n9:wc.cell? ⟨(a5+1),0,qb⟩=qg (.slice A4 n4 n4):=(g.o.get 1 rfl).cell 0;have v9:=(g.o.get 2 rfl).lt;have w1:=(g.o.get 7 rfl).lt;have w2:=(g.o.get 1 rfl).lt;refine q02 (fun w'=>w'.cell? ⟨a5,0,qb⟩=qg (.slice V n1 n1)/\w'.cell? ⟨(w.heap.size+1),0,qb⟩=qg (.bool r.b)/\w'.cell? ⟨(w.heap.size+1),1,qb⟩=qg (.slice r.X r.n r.c)/\w'.cell? ⟨(w.heap.size+1),2,qb⟩=qg (.slice r.Y r.m r.d)/\w'.cell? ⟨(a5+1),0,qb⟩=qg (.slice A4 n4 n4)) 9
     (.still 0 (.still 1 (.still 2 (.still 3 (.still 5 (.still 6 (.still 7 (.still 8 (.one 4 .done))))))))) ⟨b3,n6,n7,n8,n9⟩ (fun m8=>?_)
    iterate 8
     refine q03 ?_
    clear v9 w1 w2 b3 n6 n7 n8 n9;obtain⟨w56,a7⟩:=yx (wc.drew);have f:qi wc.heap.size wc w56:=by rw[a7];exact q05 (qe _ _)
    replace g:=vv (g.o.step f);replace q:=vv (q.o.below f);replace t:=vv (t.o.below f);replace x:=vv (x.o.below f);replace HG:=vv (HG.o.below f);rw[<- a7] at m8 ⊢;clear a7 f;refine q01 rfl (by rfl) (fun K hK=>?_);go_simp;refine(m4.o _ _ _ x.o q.o t.o (g.o.std a6.o)).mono ?_;rintro e w57 ⟨rf,rfl,hQ,f⟩;replace g:=vv (g.o.step f);replace q:=vv (q.o.below f);replace t:=vv (t.o.below f);replace x:=vv (x.o.below f);replace HG:=vv (HG.o.below f);have a1:=vv hQ;clear f hQ;go_wp2_with fail;refine hK.out _ _ (Blk.n1 (g.o.get 2 rfl) (Blk.n3 (g.o.get 7 rfl) (Blk.c1 (g.o.get 1 rfl)))) (fun a0=>?_);clear hK;refine q08 ?_;simp only[k0o,k0w];go_wp2_with fail;refine(m5.o _ _ _ HG.o q.o t.o (g.o.std a6.o)).mono ?_;rintro e w58 ⟨rg,rfl,hQ,f⟩;replace g:=vv (g.o.step f);replace q:=vv (q.o.below f);replace t:=vv (t.o.below f);replace x:=vv (x.o.below f);replace HG:=vv (HG.o.below f);replace a1:=vv (a1.o.below f);have b0:=vv hQ;clear f hQ;have p:=vv (g.o.get 5 rfl);go_wp2_with (with_reducible refine q00 rfl 192 (.tmp 10) (.tmp 78) rfl b8 [.bool qa,.string Sf,.int .i64 xf,.bool rf.b,.slice rf.X rf.n rf.c,.slice rf.Y rf.m rf.d,.bool bf] rfl rfl 192 _ p.o (by kernel_rfl) rfl rfl ?_);intro w59 E u;clear p;have p:=vv (g.o.get 5 rfl);replace g:=vv (g.o.put 5 rfl E u);replace q:=vv (q.o.apart_ p.o rfl u);replace t:=vv (t.o.apart_ p.o rfl u);replace a1:=vv (a1.o.apart_ p.o rfl u);replace b0:=vv (b0.o.apart_ p.o rfl u);clear p E u;have p:=vv (g.o.get 4 rfl);go_wp2_with (with_reducible refine q00 rfl 192 (.tmp 11) (.tmp 83) rfl (b8+1) [.bool qa,.string Sc,.int .i64 xc,.bool rg.b,.slice rg.X rg.n rg.c,.slice rg.Y rg.m rg.d,.bool bc] rfl rfl 192 _ p.o (by kernel_rfl) rfl rfl ?_);intro w60 E u;clear p;have p:=vv (g.o.get 4 rfl);replace g:=vv (g.o.put 4 rfl E u);replace q:=vv (q.o.apart_ p.o rfl u);replace t:=vv (t.o.apart_ p.o rfl u);replace a1:=vv (a1.o.apart_ p.o rfl u);replace b0:=vv (b0.o.apart_ p.o rfl u);clear p E u;obtain⟨g4,g5,g6,g7,g8,g9,i0,i1⟩:=Blk.f7 (g.o.get 4 rfl);obtain⟨i2,i3,i4,i5,i6,i7,i8,i9⟩:=Blk.f7 (g.o.get 5 rfl);cases bf<;>cases bc
    focus
     have hjn:=a4.o rfl;have hjk:(tv-(j:Int))-1=tv-((j+1:Nat):Int):=by omega
     have hw1:IntKind.i64.wrap (e-1)=e-1:=qq _ (by omega);go_wp2;go_roundw
     case measure=>have:=y1.o;simp [intOf];omega
     case rel=>exact⟨j+1,Sf,xf,rf,qa,Sc,xc,rg,qa,by rw[y1.o,hjk],hjn,q1J (q1J (q1J (q1J g.o))),q.o,t.o⟩
    focus
     have p:=vv (g.o.get 6 rfl);go_wp2_with (with_reducible refine q00 rfl 27 (.tmp 4) (.tmp 104) rfl (w.heap.size+2) [.bool qa,.string Sc,.int .i64 xc] rfl rfl 27 _ p.o (by kernel_rfl) rfl rfl ?_);intro z7 E u;clear p;have p:=vv (g.o.get 6 rfl);replace g:=vv (g.o.put 6 rfl E u);replace q:=vv (q.o.apart_ p.o rfl u);replace t:=vv (t.o.apart_ p.o rfl u);replace a1:=vv (a1.o.apart_ p.o rfl u);replace b0:=vv (b0.o.apart_ p.o rfl u);clear g4 g5 g6 g7 g8 g9 i0 i1 i2 i3 i4 i5 i6 i7 i8 i9 p E u;have O:pv=Nc:=by rw[g2.o];rfl
     have G:=r6.o O rfl;have P:=vv G;clear O G;go_wp2
     try rw[qm]
     obtain⟨j0,j1,j2⟩:=Blk.c3 (g.o.get 6 rfl);exact qj (v:=.tuple #[q3J qa Sc xc,.bool qk]) (by simp [results,results68,go_sem,j0,j1,j2]) rfl ⟨by rw[P.o.1,P.o.2],g.o.low⟩
    focus
     have p:=vv (g.o.get 6 rfl);go_wp2_with (with_reducible refine q00 rfl 27 (.tmp 4) (.tmp 98) rfl (w.heap.size+2) [.bool qa,.string Sf,.int .i64 xf] rfl rfl 27 _ p.o (by kernel_rfl) rfl rfl ?_);intro z7 E u;clear p;have p:=vv (g.o.get 6 rfl);replace g:=vv (g.o.put 6 rfl E u);replace q:=vv (q.o.apart_ p.o rfl u);replace t:=vv (t.o.apart_ p.o rfl u);replace a1:=vv (a1.o.apart_ p.o rfl u);replace b0:=vv (b0.o.apart_ p.o rfl u);clear g4 g5 g6 g7 g8 g9 i0 i1 i2 i3 i4 i5 i6 i7 i8 i9 p E u;have O:pv=U:=by rw[g2.o];rfl
     have G:=p3.o O rfl;have P:=vv G;clear O G;go_wp2
     try rw[qm]
     obtain⟨j0,j1,j2⟩:=Blk.c3 (g.o.get 6 rfl);exact qj (v:=.tuple #[q3J qa Sf xf,.bool qk]) (by simp [results,results68,go_sem,j0,j1,j2]) rfl ⟨by rw[P.o.1,P.o.2],g.o.low⟩
    focus
     go_wp2_with fail;refine(a3.o _ _ _ b0.o a1.o (g.o.std a6.o)).mono ?_;rintro e z7 ⟨rfl,f⟩;replace g:=vv (g.o.step f);replace a1:=vv (a1.o.below f);replace b0:=vv (b0.o.below f);clear g4 g5 g6 g7 g8 g9 i0 i1 i2 i3 i4 i5 i6 i7 i8 i9 f;obtain⟨j3,j4,j5,j6,j7,j8,j9,k4⟩:=Blk.f7 (g.o.get 4 rfl);obtain⟨k5,k6,k7,k8,k9,l0,l1,l2⟩:=Blk.f7 (g.o.get 5 rfl);rcases HCq.o with rfl|rfl|rfl
     focus
      have p:=vv (g.o.get 6 rfl);go_wp2_with (with_reducible refine q00 rfl 27 (.tmp 4) (.tmp 131) rfl (w.heap.size+2) [.bool qa,.string Sc,.int .i64 xc] rfl rfl 27 _ p.o (by kernel_rfl) rfl rfl ?_);intro z8 E u;clear p;have p:=vv (g.o.get 6 rfl);replace g:=vv (g.o.put 6 rfl E u);clear j3 j4 j5 j6 j7 j8 j9 k4 k5 k6 k7 k8 k9 l0 l1 l2 p E u;have O:pv=Nc:=by rw[g2.o];rfl
      have G:=r6.o O rfl;have P:=vv G;clear O G;go_wp2
      try rw[qm]
      obtain⟨l3,l4,l5⟩:=Blk.c3 (g.o.get 6 rfl);exact qj (v:=.tuple #[q3J qa Sc xc,.bool qk]) (by simp [results,results68,go_sem,l3,l4,l5]) rfl ⟨by rw[P.o.1,P.o.2],g.o.low⟩
     focus
      go_wp2_with fail;refine(p2.o _).mono ?_;rintro e z8 ⟨rfl,f⟩;replace g:=vv (g.o.step f);clear j3 j4 j5 j6 j7 j8 j9 k4 k5 k6 k7 k8 k9 l0 l1 l2 f;obtain⟨o0,o1,o2,o3,o4,c6,c7,c8⟩:=Blk.f7 (g.o.get 4 rfl);obtain⟨c9,d0,d3,d4,d5,d6,d7,d8⟩:=Blk.f7 (g.o.get 5 rfl);cases vc
      focus
       have p:=vv (g.o.get 6 rfl);go_wp2_with (with_reducible refine q00 rfl 27 (.tmp 4) (.tmp 133) rfl (w.heap.size+2) [.bool qa,.string Sf,.int .i64 xf] rfl rfl 27 _ p.o (by kernel_rfl) rfl rfl ?_);intro w3 E u;clear p;have p:=vv (g.o.get 6 rfl);replace g:=vv (g.o.put 6 rfl E u);clear o0 o1 o2 o3 o4 c6 c7 c8 c9 d0 d3 d4 d5 d6 d7 d8 p E u;have O:pv=U:=by rw[g2.o];rfl
       have G:=p3.o O rfl;have P:=vv G;clear O G;go_wp2
       try rw[qm]
       obtain⟨o5,o6,o7⟩:=Blk.c3 (g.o.get 6 rfl);exact qj (v:=.tuple #[q3J qa Sf xf,.bool qk]) (by simp [results,results68,go_sem,o5,o6,o7]) rfl ⟨by rw[P.o.1,P.o.2],g.o.low⟩
      focus
       go_wp2_with fail;refine(p1.o _).mono ?_;rintro e w3 ⟨rfl,f⟩;replace g:=vv (g.o.step f);clear o0 o1 o2 o3 o4 c6 c7 c8 c9 d0 d3 d4 d5 d6 d7 d8 f;obtain⟨d9,e0,e1,e2,e3,e4,e5,e6⟩:=Blk.f7 (g.o.get 4 rfl);obtain⟨e7,e8,e9,f0,f2,f4,f5,f6⟩:=Blk.f7 (g.o.get 5 rfl);cases vf
       focus
        have p:=vv (g.o.get 6 rfl);go_wp2_with (with_reducible refine q00 rfl 27 (.tmp 4) (.tmp 131) rfl (w.heap.size+2) [.bool qa,.string Sc,.int .i64 xc] rfl rfl 27 _ p.o (by kernel_rfl) rfl rfl ?_);intro w4 E u;clear p;have p:=vv (g.o.get 6 rfl);replace g:=vv (g.o.put 6 rfl E u);clear d9 e0 e1 e2 e3 e4 e5 e6 e7 e8 e9 f0 f2 f4 f5 f6 p E u;have O:pv=Nc:=by rw[g2.o];rfl
        have G:=r6.o O rfl;have P:=vv G;clear O G;go_wp2
        try rw[qm]
        obtain⟨b4,b5,b6⟩:=Blk.c3 (g.o.get 6 rfl);exact qj (v:=.tuple #[q3J qa Sc xc,.bool qk]) (by simp [results,results68,go_sem,b4,b5,b6]) rfl ⟨by rw[P.o.1,P.o.2],g.o.low⟩
       focus
        have p:=vv (g.o.get 6 rfl);go_wp2_with (with_reducible refine q00 rfl 27 (.tmp 4) (.tmp 133) rfl (w.heap.size+2) [.bool qa,.string Sf,.int .i64 xf] rfl rfl 27 _ p.o (by kernel_rfl) rfl rfl ?_);intro w4 E u;clear p;have p:=vv (g.o.get 6 rfl);replace g:=vv (g.o.put 6 rfl E u);clear d9 e0 e1 e2 e3 e4 e5 e6 e7 e8 e9 f0 f2 f4 f5 f6 p E u;have O:pv=U:=by rw[g2.o];rfl
        have G:=p3.o O rfl;have P:=vv G;clear O G;go_wp2
        try rw[qm]
        obtain⟨b4,b5,b6⟩:=Blk.c3 (g.o.get 6 rfl);exact qj (v:=.tuple #[q3J qa Sf xf,.bool qk]) (by simp [results,results68,go_sem,b4,b5,b6]) rfl ⟨by rw[P.o.1,P.o.2],g.o.low⟩
     focus
      have p:=vv (g.o.get 6 rfl);go_wp2_with (with_reducible refine q00 rfl 27 (.tmp 4) (.tmp 133) rfl (w.heap.size+2) [.bool qa,.string Sf,.int .i64 xf] rfl rfl 27 _ p.o (by kernel_rfl) rfl rfl ?_);intro z8 E u;clear p;have p:=vv (g.o.get 6 rfl);replace g:=vv (g.o.put 6 rfl E u);clear j3 j4 j5 j6 j7 j8 j9 k4 k5 k6 k7 k8 k9 l0 l1 l2 p E u;have O:pv=U:=by rw[g2.o];rfl
      have G:=p3.o O rfl;have P:=vv G;clear O G;go_wp2
      try rw[qm]
      obtain⟨l3,l4,l5⟩:=Blk.c3 (g.o.get 6 rfl);exact qj (v:=.tuple #[q3J qa Sf xf,.bool qk]) (by simp [results,results68,go_sem,l3,l4,l5]) rfl ⟨by rw[P.o.1,P.o.2],g.o.low⟩
structure Dcl where
 neg:Bool
 S:ByteArray
 x:Int
abbrev Dcl.v(d:Dcl):Value:=.agg #[.bool d.neg,.string d.S,.int .i64 d.x]
def q3K(neg:Bool)(p:Nat × Int):Dcl:=⟨neg,q0J (q0E p.1),p.2+(Go.Proofs.YtabcgemembkkcaaGreatDoor.Sh.tz p.1:Int)⟩
def q1f(s:Span)(v:Rat):Dcl:=
 if s.has 0=qk then⟨qa,⟨#[]⟩,0⟩ else if v.num<0 then q3K qk (q0Q s.flip (-v)) else q3K qa (q0Q s v)
theorem RI.zero{A:Option Addr}(h:Rd w A 1 1 (toL 1)):RI w ⟨qa,qb,0,0,A,1,1⟩ 0:=⟨rfl,Rd.nil w,h⟩
theorem RI.sign{r:RV}{q:Rat}(h:RI w r q):r.b=qd (q.num<0):=RQ.s h
theorem q5a(r l h:RV)(v:Rat)(s:Span)(w:ql)(hr:RI w r v)(hs:SI w l h s)(h0:s.has 0=qk)(s1:Qb 2200 s.lo)(s2:Qb 2200 s.hi)(s3:Qb 2200 v)(hst:Std w):qn qh 26 #[spV l h s,r.v] w fun e w'=>e=.returned (.tuple #[(⟨qa,⟨#[]⟩,0⟩:Dcl).v,.bool qk])/\qi w.heap.size w w':=by
 obtain⟨k,t⟩:=yx (((w.alloc (.cells #[.bool l.b,.slice l.X l.n l.c,.slice l.Y l.m l.d,.bool h.b,.slice h.X h.n h.c,.slice h.Y h.m h.d,.bool s.li,.bool s.hn] 69)).alloc (.cells #[.bool r.b,.slice r.X r.n r.c,.slice r.Y r.m r.d] 39)).alloc (.cells #[.bool qa,.string ⟨#[]⟩,.int .i64 0] 27));have p:Cx w [(w.heap.size+2,27,[.bool qa,.string ⟨#[]⟩,.int .i64 0]),(w.heap.size+1,39,[.bool r.b,.slice r.X r.n r.c,.slice r.Y r.m r.d]),(w.heap.size,69,[.bool l.b,.slice l.X l.n l.c,.slice l.Y l.m l.d,.bool h.b,.slice h.X h.n h.c,.slice h.Y h.m h.d,.bool s.li,.bool s.hn])] k:=by rw[t];exact(((Cx.nil w).new _ [_,_,_,_,_,_,_,_] rfl).new _ [_,_,_] (by simp)).new _ [_,_,_] (by simp)
 have y:=vv fun A w' (k0:SI w' l h s) (k1:Rd w' A 1 1 (toL 1)) (hst:Std w')=>in_ l h s ⟨qa,qb,0,0,A,1,1⟩ 0 w' k0 (RI.zero k1) (s1.mono (by decide)) (s2.mono (by decide)) ⟨by decide,by decide⟩ hst
 rw[h0] at y;have i:=vv (hr.below p.low);have g:=vv (hs.below p.low);have M:=vv hst;have a:=vv p;have T:=vv t;clear t p hr hs h0 s1 s2 s3 hst;unfold spV;go_enter func26,ntmps26;go_wp2_with fail;rw[<- T.o];go_wp2_with fail;obtain⟨z,C,D,E,F,G,H,I,N⟩:=Blk.f8 (a.o.get 2 rfl);refine q02 (fun w'=>w'.cell? ⟨w.heap.size,0,qb⟩=qg (.bool l.b)/\w'.cell? ⟨w.heap.size,1,qb⟩=qg (.slice l.X l.n l.c)/\w'.cell? ⟨w.heap.size,2,qb⟩=qg (.slice l.Y l.m l.d)/\w'.cell? ⟨w.heap.size,3,qb⟩=qg (.bool h.b)/\w'.cell? ⟨w.heap.size,4,qb⟩=qg (.slice h.X h.n h.c)/\w'.cell? ⟨w.heap.size,5,qb⟩=qg (.slice h.Y h.m h.d)/\w'.cell? ⟨w.heap.size,6,qb⟩=qg (.bool s.li)/\w'.cell? ⟨w.heap.size,7,qb⟩=qg (.bool s.hn)) 3
  (.still 0 (.one 1 (.still 2 .done))) ⟨z,C,D,E,F,G,H,I⟩ (fun O=>?_)
 iterate 1
  refine q03 ?_
 clear N z C D E F G H I;obtain⟨P,u⟩:=yx (k.drew);have f:qi k.heap.size k P:=by rw[u];exact q05 (qe _ _)
 replace a:=vv (a.o.step f);replace i:=vv (i.o.below f);replace g:=vv (g.o.below f);rw[<- u] at O ⊢;clear u f;refine q01 rfl (by rfl) (fun K hK=>?_);go_simp;refine(Nat_.Of1 _).mono ?_;rintro e U ⟨A2,rfl,L,f⟩;replace a:=vv (a.o.step f);replace i:=vv (i.o.below f);replace g:=vv (g.o.below f);have x:=vv (RN.mk L);clear f L;go_wp2_with fail;refine hK.out _ _ (Blk.c8 (a.o.get 2 rfl)) (fun V=>?_);clear hK
 iterate 1
  refine q03 ?_
 refine q08 ?_;simp only[k0o,k0w];go_wp2_with fail;refine(y.o _ _ g.o x.o.r (a.o.std M.o)).mono ?_;rintro e W ⟨rfl,f⟩;replace a:=vv (a.o.step f);replace i:=vv (i.o.below f);replace g:=vv (g.o.below f);replace x:=vv (x.o.below f);clear f;have j:=vv (a.o.get 0 rfl);go_wp2_with (with_reducible refine q00 rfl 27 (.tmp 4) (.tmp 12) rfl (w.heap.size+2) [.bool qa,.string ⟨#[]⟩,.int .i64 0] rfl rfl 27 _ j.o (by kernel_rfl) rfl rfl ?_);intro Z J q;clear j;have j:=vv (a.o.get 0 rfl);replace a:=vv (a.o.put 0 rfl J q);replace i:=vv (i.o.apart_ j.o rfl q);replace g:=vv (g.o.apart_ j.o rfl q);clear j J q;go_wp2;obtain⟨Q,R,S⟩:=Blk.c3 (a.o.get 0 rfl);exact qj (v:=.tuple #[.agg #[.bool qa,.string ⟨#[]⟩,.int .i64 0],.bool qk]) (by simp [results,results26,go_sem,Q,R,S]) rfl ⟨rfl,a.o.low⟩
theorem q6v(r l h:RV)(v:Rat)(s:Span)(w:ql)(hr:RI w r v)(hs:SI w l h s)(h0:s.has 0=qa)(hv:0<v)(hlo:s.lo<s.hi)(hin:s.has v=qk)(s1:Qb 2200 s.lo)(s2:Qb 2200 s.hi)(s3:Qb 2200 v)(hst:Std w):qn qh 26 #[spV l h s,r.v] w fun e w'=>e=.returned (.tuple #[(q3K qa (q0Q s v):Dcl).v,.bool qk])/\qi w.heap.size w w':=by
 obtain⟨p,u⟩:=yx (((w.alloc (.cells #[.bool l.b,.slice l.X l.n l.c,.slice l.Y l.m l.d,.bool h.b,.slice h.X h.n h.c,.slice h.Y h.m h.d,.bool s.li,.bool s.hn] 69)).alloc (.cells #[.bool r.b,.slice r.X r.n r.c,.slice r.Y r.m r.d] 39)).alloc (.cells #[.bool qa,.string ⟨#[]⟩,.int .i64 0] 27));have q:Cx w [(w.heap.size+2,27,[.bool qa,.string ⟨#[]⟩,.int .i64 0]),(w.heap.size+1,39,[.bool r.b,.slice r.X r.n r.c,.slice r.Y r.m r.d]),(w.heap.size,69,[.bool l.b,.slice l.X l.n l.c,.slice l.Y l.m l.d,.bool h.b,.slice h.X h.n h.c,.slice h.Y h.m h.d,.bool s.li,.bool s.hn])] p:=by rw[u];exact(((Cx.nil w).new _ [_,_,_,_,_,_,_,_] rfl).new _ [_,_,_] (by simp)).new _ [_,_,_] (by simp)
 have C:=vv fun A w' (k0:SI w' l h s) (k1:Rd w' A 1 1 (toL 1)) (hst:Std w')=>in_ l h s ⟨qa,qb,0,0,A,1,1⟩ 0 w' k0 (RI.zero k1) (s1.mono (by decide)) (s2.mono (by decide)) ⟨by decide,by decide⟩ hst
 rw[h0] at C;have D:=vv fun w' (k:RI w' r v) (k1:SI w' l h s) (hst:Std w')=>qcO r l h v s w' k k1 hv hlo hin s1 s2 s3 hst
 have E:r.b=qa:=hr.sign.trans (k02 (by have:=q18 hv;omega));have T:=vv E;clear E;unfold q3K Dcl.v;dsimp only;obtain⟨S,Q⟩:=yx (q0J (q0E (q0Q s v).1));obtain⟨x,hx⟩:=yx ((q0Q s v).2+(Go.Proofs.YtabcgemembkkcaaGreatDoor.Sh.tz (q0Q s v).1:Int));rw[<- Q,<- hx] at D ⊢;clear Q hx;have i:=vv (hr.below q.low);have g:=vv (hs.below q.low);have F:=vv hst;have a:=vv q;have HW:=vv u;clear u q hr hs h0 s1 s2 s3 hst hv hlo hin;unfold spV;go_enter func26,ntmps26;go_wp2_with fail;rw[<- HW.o];go_wp2_with fail;obtain⟨G,H,I,J,L,M,N,O,U⟩:=Blk.f8 (a.o.get 2 rfl);refine q02 (fun w'=>w'.cell? ⟨w.heap.size,0,qb⟩=qg (.bool l.b)/\w'.cell? ⟨w.heap.size,1,qb⟩=qg (.slice l.X l.n l.c)/\w'.cell? ⟨w.heap.size,2,qb⟩=qg (.slice l.Y l.m l.d)/\w'.cell? ⟨w.heap.size,3,qb⟩=qg (.bool h.b)/\w'.cell? ⟨w.heap.size,4,qb⟩=qg (.slice h.X h.n h.c)/\w'.cell? ⟨w.heap.size,5,qb⟩=qg (.slice h.Y h.m h.d)/\w'.cell? ⟨w.heap.size,6,qb⟩=qg (.bool s.li)/\w'.cell? ⟨w.heap.size,7,qb⟩=qg (.bool s.hn)) 3
  (.still 0 (.one 1 (.still 2 .done))) ⟨G,H,I,J,L,M,N,O⟩ (fun V=>?_)
 iterate 1
  refine q03 ?_
 clear U G H I J L M N O;obtain⟨W,y⟩:=yx (p.drew);have f:qi p.heap.size p W:=by rw[y];exact q05 (qe _ _)
 replace a:=vv (a.o.step f);replace i:=vv (i.o.below f);replace g:=vv (g.o.below f);rw[<- y] at V ⊢;clear y f;refine q01 rfl (by rfl) (fun K hK=>?_);go_simp;refine(Nat_.Of1 _).mono ?_;rintro e b6 ⟨A2,rfl,R,f⟩;replace a:=vv (a.o.step f);replace i:=vv (i.o.below f);replace g:=vv (g.o.below f);have z:=vv (RN.mk R);clear f R;go_wp2_with fail;refine hK.out _ _ (Blk.c8 (a.o.get 2 rfl)) (fun b5=>?_);clear hK
 iterate 1
  refine q03 ?_
 refine q08 ?_;simp only[k0o,k0w];go_wp2_with fail;refine(C.o _ _ g.o z.o.r (a.o.std F.o)).mono ?_;rintro e b7 ⟨rfl,f⟩;replace a:=vv (a.o.step f);replace i:=vv (i.o.below f);replace g:=vv (g.o.below f);replace z:=vv (z.o.below f);clear f;obtain⟨Z,a0,a1,a2⟩:=Blk.f3 (a.o.get 1 rfl);obtain⟨a3,a4,a5,a6,a7,a8,a9,b0,b1⟩:=Blk.f8 (a.o.get 2 rfl);go_upto_if 15 with fail;rw[T.o,k2B];go_wp2_with fail;refine(D.o _ i.o g.o (a.o.std F.o)).mono ?_;rintro e b8 ⟨rfl,f⟩;replace a:=vv (a.o.step f);replace i:=vv (i.o.below f);replace g:=vv (g.o.below f);clear Z a0 a1 a2 a3 a4 a5 a6 a7 a8 a9 b0 b1 f;have j:=vv (a.o.get 0 rfl);go_wp2_with (with_reducible refine q00 rfl 27 (.tmp 4) (.tmp 19) rfl (w.heap.size+2) [.bool qa,.string S,.int .i64 x] rfl rfl 27 _ j.o (by kernel_rfl) rfl rfl ?_);intro b9 P t;clear j;have j:=vv (a.o.get 0 rfl);replace a:=vv (a.o.put 0 rfl P t);replace i:=vv (i.o.apart_ j.o rfl t);replace g:=vv (g.o.apart_ j.o rfl t);clear j P t;go_wp2;obtain⟨b2,b3,b4⟩:=Blk.c3 (a.o.get 0 rfl);exact qj (v:=.tuple #[.agg #[.bool qa,.string S,.int .i64 x],.bool qk]) (by simp [results,results26,go_sem,b2,b3,b4]) rfl ⟨rfl,a.o.low⟩
theorem q6w(r l h:RV)(v:Rat)(s:Span)(w:ql)(hr:RI w r v)(hs:SI w l h s)(h0:s.has 0=qa)(hv:v<0)(hlo:s.lo<s.hi)(hin:s.has v=qk)(s1:Qb 2200 s.lo)(s2:Qb 2200 s.hi)(s3:Qb 2200 v)(hst:Std w):qn qh 26 #[spV l h s,r.v] w fun e w'=>e=.returned (.tuple #[(q3K qk (q0Q s.flip (-v)):Dcl).v,.bool qk])/\qi w.heap.size w w':=by
 obtain⟨V,b1⟩:=yx (((w.alloc (.cells #[.bool l.b,.slice l.X l.n l.c,.slice l.Y l.m l.d,.bool h.b,.slice h.X h.n h.c,.slice h.Y h.m h.d,.bool s.li,.bool s.hn] 69)).alloc (.cells #[.bool r.b,.slice r.X r.n r.c,.slice r.Y r.m r.d] 39)).alloc (.cells #[.bool qa,.string ⟨#[]⟩,.int .i64 0] 27));have y:Cx w [(w.heap.size+2,27,[.bool qa,.string ⟨#[]⟩,.int .i64 0]),(w.heap.size+1,39,[.bool r.b,.slice r.X r.n r.c,.slice r.Y r.m r.d]),(w.heap.size,69,[.bool l.b,.slice l.X l.n l.c,.slice l.Y l.m l.d,.bool h.b,.slice h.X h.n h.c,.slice h.Y h.m h.d,.bool s.li,.bool s.hn])] V:=by rw[b1];exact(((Cx.nil w).new _ [_,_,_,_,_,_,_,_] rfl).new _ [_,_,_] (by simp)).new _ [_,_,_] (by simp)
 have d1:=vv fun A w' (O:SI w' l h s) (I:Rd w' A 1 1 (toL 1)) (hst:Std w')=>in_ l h s ⟨qa,qb,0,0,A,1,1⟩ 0 w' O (RI.zero I) (s1.mono (by decide)) (s2.mono (by decide)) ⟨by decide,by decide⟩ hst
 rw[h0] at d1;have e4:=vv fun w' (k:RI w' r v) (hst:Std w')=>qdd r v w' k (s3.mono (by decide)) hst
 have d2:=vv fun w' (k:SI w' l h s) (hst:Std w')=>q9v l h s w' k (s1.mono (by decide)) (s2.mono (by decide)) hst
 have R:=vv fun t W Z w' (k:RI w' t (-v)) (I:SI w' W Z s.flip) (hst:Std w')=>qcO t W Z (-v) s.flip w' k I (by grind) (by unfold Span.flip;dsimp only;grind) (by rw[Span.has_flip];exact hin) s2.neg s1.neg s3.neg hst
 have d3:r.b=qk:=hr.sign.trans (k04 (by have:=(k3a v 0).1 hv;simpa using this));have e5:=vv d3;clear d3;unfold q3K Dcl.v;dsimp only;obtain⟨S,hS⟩:=yx (q0J (q0E (q0Q s.flip (-v)).1));obtain⟨x,hx⟩:=yx ((q0Q s.flip (-v)).2+(Go.Proofs.YtabcgemembkkcaaGreatDoor.Sh.tz (q0Q s.flip (-v)).1:Int));rw[<- hS,<- hx] at R ⊢;clear hS hx;have G:=vv (hr.below y.low);have g:=vv (hs.below y.low);have L:=vv hst;have a:=vv y;have HW:=vv b1;clear b1 y hr hs h0 s1 s2 s3 hst hv hlo hin;unfold spV;go_enter func26,ntmps26;go_wp2_with fail;rw[<- HW.o];go_wp2_with fail;obtain⟨d4,d5,d6,d7,d8,d9,e0,e1,e6⟩:=Blk.f8 (a.o.get 2 rfl);refine q02 (fun w'=>w'.cell? ⟨w.heap.size,0,qb⟩=qg (.bool l.b)/\w'.cell? ⟨w.heap.size,1,qb⟩=qg (.slice l.X l.n l.c)/\w'.cell? ⟨w.heap.size,2,qb⟩=qg (.slice l.Y l.m l.d)/\w'.cell? ⟨w.heap.size,3,qb⟩=qg (.bool h.b)/\w'.cell? ⟨w.heap.size,4,qb⟩=qg (.slice h.X h.n h.c)/\w'.cell? ⟨w.heap.size,5,qb⟩=qg (.slice h.Y h.m h.d)/\w'.cell? ⟨w.heap.size,6,qb⟩=qg (.bool s.li)/\w'.cell? ⟨w.heap.size,7,qb⟩=qg (.bool s.hn)) 3
  (.still 0 (.one 1 (.still 2 .done))) ⟨d4,d5,d6,d7,d8,d9,e0,e1⟩ (fun b2=>?_)
 iterate 1
  refine q03 ?_
 clear e6 d4 d5 d6 d7 d8 d9 e0 e1;obtain⟨e7,M⟩:=yx (V.drew);have f:qi V.heap.size V e7:=by rw[M];exact q05 (qe _ _)
 replace a:=vv (a.o.step f);replace G:=vv (G.o.below f);replace g:=vv (g.o.below f);rw[<- M] at b2 ⊢;clear M f;refine q01 rfl (by rfl) (fun K hK=>?_);go_simp;refine(Nat_.Of1 _).mono ?_;rintro e f5 ⟨A2,rfl,hR,f⟩;replace a:=vv (a.o.step f);replace G:=vv (G.o.below f);replace g:=vv (g.o.below f);have HO:=vv (RN.mk hR);clear f hR;go_wp2_with fail;refine hK.out _ _ (Blk.c8 (a.o.get 2 rfl)) (fun F=>?_);clear hK
 iterate 1
  refine q03 ?_
 refine q08 ?_;simp only[k0o,k0w];go_wp2_with fail;refine(d1.o _ _ g.o HO.o.r (a.o.std L.o)).mono ?_;rintro e f6 ⟨rfl,f⟩;replace a:=vv (a.o.step f);replace G:=vv (G.o.below f);replace g:=vv (g.o.below f);replace HO:=vv (HO.o.below f);clear f;obtain⟨b5,b6,b7,b8⟩:=Blk.f3 (a.o.get 1 rfl);go_upto_if 15 with fail;rw[e5.o,k2M];go_wp2_with fail;refine(e4.o _ G.o (a.o.std L.o)).mono ?_;rintro e f7 ⟨t,rfl,hQ,f⟩;replace a:=vv (a.o.step f);replace G:=vv (G.o.below f);replace g:=vv (g.o.below f);have q:=vv hQ;clear b5 b6 b7 b8 f hQ;have z:=vv (a.o.get 1 rfl);go_wp2_with (with_reducible refine q00 rfl 39 (.tmp 3) (.tmp 24) rfl (w.heap.size+1) [.bool t.b,.slice t.X t.n t.c,.slice t.Y t.m t.d] rfl rfl 39 _ z.o (by kernel_rfl) rfl rfl ?_);intro b3 H D;clear z;have z:=vv (a.o.get 1 rfl);replace a:=vv (a.o.put 1 rfl H D);replace g:=vv (g.o.apart_ z.o rfl D);replace q:=vv (q.o.apart_ z.o rfl D);clear z H D;go_wp2_with fail;obtain⟨a0,a1,a2,a3,a4,a5,a6,a7⟩:=Blk.c8 (a.o.get 2 rfl);obtain⟨a8,a9,b0⟩:=Blk.c3 (a.o.get 1 rfl);have b9:=(a.o.get 2 rfl).lt;have c0:=(a.o.get 1 rfl).lt;refine q02 (fun w'=>w'.cell? ⟨w.heap.size,0,qb⟩=qg (.bool l.b)/\w'.cell? ⟨w.heap.size,1,qb⟩=qg (.slice l.X l.n l.c)/\w'.cell? ⟨w.heap.size,2,qb⟩=qg (.slice l.Y l.m l.d)/\w'.cell? ⟨w.heap.size,3,qb⟩=qg (.bool h.b)/\w'.cell? ⟨w.heap.size,4,qb⟩=qg (.slice h.X h.n h.c)/\w'.cell? ⟨w.heap.size,5,qb⟩=qg (.slice h.Y h.m h.d)/\w'.cell? ⟨w.heap.size,6,qb⟩=qg (.bool s.li)/\w'.cell? ⟨w.heap.size,7,qb⟩=qg (.bool s.hn)/\w'.cell? ⟨(w.heap.size+1),0,qb⟩=qg (.bool t.b)/\w'.cell? ⟨(w.heap.size+1),1,qb⟩=qg (.slice t.X t.n t.c)/\w'.cell? ⟨(w.heap.size+1),2,qb⟩=qg (.slice t.Y t.m t.d)) 9
  (.still 0 (.still 2 (.two 1 (.two 3 (.still 4 (.still 5 (.still 6 (.one 7 (.one 8 .done))))) 7 (.one 3 (.still 4 (.still 5 (.still 6 (.one 8 .done)))))) 7 (.one 1 (.one 3 (.still 4 (.still 5 (.still 6 (.one 8 .done))))))))) ⟨a0,a1,a2,a3,a4,a5,a6,a7,a8,a9,b0⟩ (fun b2=>?_)
 iterate 2
  refine q03 ?_
 clear b9 c0 a0 a1 a2 a3 a4 a5 a6 a7 a8 a9 b0;obtain⟨N,M⟩:=yx (b3.drew);have f:qi b3.heap.size b3 N:=by rw[M];exact q05 (qe _ _)
 replace a:=vv (a.o.step f);replace g:=vv (g.o.below f);replace q:=vv (q.o.below f);rw[<- M] at b2 ⊢;clear M f;refine q0e rfl (by rfl) rfl (by rfl) (fun K hK=>?_) (fun K hK=>?_)
 focus
  go_simp;refine(d2.o N g.o (a.o.std L.o)).mono ?_;rintro e T ⟨W,Z,rfl,P,f⟩;replace a:=vv (a.o.step f);replace g:=vv (g.o.below f);replace q:=vv (q.o.below f);have u:=vv P;clear f P;go_wp2_with fail;refine hK.out _ _ (Blk.n8 (a.o.get 2 rfl) (Blk.c3 (a.o.get 1 rfl))) (fun F=>?_);clear hK;refine q0e rfl (by rfl) rfl (by rfl) (fun K hK=>?_) (fun K hK=>?_)
  focus
   go_simp;refine(R.o _ _ _ _ q.o u.o (a.o.std L.o)).mono ?_;rintro e U ⟨rfl,f⟩;replace a:=vv (a.o.step f);replace g:=vv (g.o.below f);replace q:=vv (q.o.below f);replace u:=vv (u.o.below f);clear f;go_wp2_with fail;refine hK.out _ _ (Blk.n8 (a.o.get 2 rfl) (Blk.c3 (a.o.get 1 rfl))) (fun F=>?_);clear hK
   iterate 3
    refine q03 ?_
   refine q01 rfl (by rfl) (fun K hK=>?_);go_simp;obtain⟨J,E⟩:=yx (U.heap.size);obtain⟨e2,C⟩:=yx (U.alloc (.cells #[.bool qa,.string ⟨#[]⟩,.int .i64 0] 27));have f:qi U.heap.size U e2:=by rw[C];exact(qe _ _).alloc lr _
   have y:=a.o.new 27 [.bool qa,.string ⟨#[]⟩,.int .i64 0] E;rw[<- C] at y
   try rw[<- C]
   try rw[<- E]
   replace a:=vv y;replace g:=vv (g.o.below f);replace q:=vv (q.o.below f);replace u:=vv (u.o.below f);clear f y C E;refine hK.out _ _ (Blk.n8 (a.o.get 3 rfl) (Blk.c3 (a.o.get 2 rfl))) (fun F=>?_);clear hK;obtain⟨wz,Q⟩:=yx (e2);subst Q
  rotate_left 1
  focus
   go_simp;obtain⟨J,E⟩:=yx (T.heap.size);obtain⟨e8,C⟩:=yx (T.alloc (.cells #[.bool qa,.string ⟨#[]⟩,.int .i64 0] 27));have f:qi T.heap.size T e8:=by rw[C];exact(qe _ _).alloc lr _
   have y:=a.o.new 27 [.bool qa,.string ⟨#[]⟩,.int .i64 0] E;rw[<- C] at y
   try rw[<- C]
   try rw[<- E]
   replace a:=vv y;replace g:=vv (g.o.below f);replace q:=vv (q.o.below f);replace u:=vv (u.o.below f);clear f y C E;refine hK.out _ _ (Blk.n8 (a.o.get 3 rfl) (Blk.c3 (a.o.get 2 rfl))) (fun F=>?_);clear hK;refine q01 rfl (by rfl) (fun K hK=>?_);go_simp;refine(R.o _ _ _ _ q.o u.o (a.o.std L.o)).mono ?_;rintro e e9 ⟨rfl,f⟩;replace a:=vv (a.o.step f);replace g:=vv (g.o.below f);replace q:=vv (q.o.below f);replace u:=vv (u.o.below f);clear f;go_wp2_with fail;refine hK.out _ _ (Blk.n8 (a.o.get 3 rfl) (Blk.c3 (a.o.get 2 rfl))) (fun F=>?_);clear hK
   iterate 3
    refine q03 ?_
   obtain⟨wz,Q⟩:=yx (e9);subst Q
 rotate_left 2
 focus
  go_simp;obtain⟨J,E⟩:=yx (N.heap.size);obtain⟨e3,C⟩:=yx (N.alloc (.cells #[.bool qa,.string ⟨#[]⟩,.int .i64 0] 27));have f:qi N.heap.size N e3:=by rw[C];exact(qe _ _).alloc lr _
  have y:=a.o.new 27 [.bool qa,.string ⟨#[]⟩,.int .i64 0] E;rw[<- C] at y
  try rw[<- C]
  try rw[<- E]
  replace a:=vv y;replace g:=vv (g.o.below f);replace q:=vv (q.o.below f);clear f y C E;refine hK.out _ _ (Blk.n8 (a.o.get 3 rfl) (Blk.c3 (a.o.get 2 rfl))) (fun F=>?_);clear hK;refine q01 rfl (by rfl) (fun K hK=>?_);go_simp;refine(d2.o e3 g.o (a.o.std L.o)).mono ?_;rintro e f9 ⟨W,Z,rfl,P,f⟩;replace a:=vv (a.o.step f);replace g:=vv (g.o.below f);replace q:=vv (q.o.below f);have u:=vv P;clear f P;go_wp2_with fail;refine hK.out _ _ (Blk.n8 (a.o.get 3 rfl) (Blk.c3 (a.o.get 2 rfl))) (fun F=>?_);clear hK;refine q01 rfl (by rfl) (fun K hK=>?_);go_simp;refine(R.o _ _ _ _ q.o u.o (a.o.std L.o)).mono ?_;rintro e f0 ⟨rfl,f⟩;replace a:=vv (a.o.step f);replace g:=vv (g.o.below f);replace q:=vv (q.o.below f);replace u:=vv (u.o.below f);clear f;go_wp2_with fail;refine hK.out _ _ (Blk.n8 (a.o.get 3 rfl) (Blk.c3 (a.o.get 2 rfl))) (fun F=>?_);clear hK
  iterate 3
   refine q03 ?_
  obtain⟨wz,Q⟩:=yx (f0);subst Q
 all_goals
  refine q01 rfl (by rfl) (fun K hK=>?_);have z:=vv (a.o.get 0 rfl)
  with_reducible refine q0b 27 (.tmp 6) (.tmp 31) rfl J [.bool qa,.string S,.int .i64 x] rfl rfl 27 _ z.o (by kernel_rfl) rfl rfl ?_
  intro f1 H D;replace a:=vv (a.o.put 0 rfl H D);replace g:=vv (g.o.apart_ z.o rfl D);replace q:=vv (q.o.apart_ z.o rfl D);replace u:=vv (u.o.apart_ z.o rfl D);clear z H D;refine hK.out _ _ (Blk.n8 (a.o.get 3 rfl) (Blk.c3 (a.o.get 2 rfl))) (fun F=>?_);clear hK;refine q08 ?_;simp only[k0o,k0w];obtain⟨c1,c2,c4,c5⟩:=Blk.f3 (a.o.get 0 rfl);have c6:=(a.o.get 0 rfl).fz 0;have c7:=(a.o.get 0 rfl).fz 1;have c9:=(a.o.get 0 rfl).fz 2;have z:=vv (a.o.get 1 rfl);have d0:qp (J≠w.heap.size+2):=vv (qcc a.o.pw (i:=0) (j:=1) (by decide) rfl rfl);have f2:qp (w.heap.size<=J):=vv (a.o.ge _ (.head _));have b4:qp (qi w.heap.size w (f1.setCell ⟨J,0,qb⟩ (.bool qk))):=vv (a.o.low.setCell (p:=⟨J,0,qb⟩) f2.o _);go_wp2_with (with_reducible refine q00 rfl 27 (.tmp 4) (.tmp 35) rfl (w.heap.size+2) [.bool qk,.string S,.int .i64 x] rfl rfl 27 _ (z.o.other (p:=⟨J,0,qb⟩) d0.o _) (by kernel_rfl) rfl rfl ?_);intro w7 H D;have f4:=vv (q0a b4.o D b4.o.size (Nat.le_add_right _ _));obtain⟨O,I,k2⟩:=Go.Proofs.YtabcgemembkkcaaGreatDoor.Fms.blk3 H;have K:=vv (And.intro O (And.intro I k2));clear H D O I k2 b4 z;clear c1 c2 c4 c5 c6 c7 c9;go_wp2;obtain⟨O,I,k2⟩:=K.o;exact qj (v:=.tuple #[.agg #[.bool qk,.string S,.int .i64 x],.bool qk]) (by simp [results,results26,go_sem,O,I,k2]) rfl ⟨rfl,f4.o⟩
theorem q79(r l h:RV)(v:Rat)(s:Span)(w:ql)(hr:RI w r v)(hs:SI w l h s)(hlo:s.lo<s.hi)(hin:s.has v=qk)(s1:Qb 2200 s.lo)(s2:Qb 2200 s.hi)(s3:Qb 2200 v)(hst:Std w):qn qh 26 #[spV l h s,r.v] w fun e w'=>e=.returned (.tuple #[(q1f s v).v,.bool qk])/\qi w.heap.size w w':=by
 unfold q1f;cases h0:s.has 0
 ·rw[k0r (by decide)];by_cases hn:v.num<0
  ·rw[k0p hn];exact q6w r l h v s w hr hs h0 ((k3a v 0).2 (by simpa using hn)) hlo hin s1 s2 s3 hst
  ·rw[k0r hn];have a:0<=v:=Rat.num_nonneg.1 (by omega);have b:v≠0:=fun e=>by rw[e,h0] at hin;exact absurd hin (by decide)
   exact q6v r l h v s w hr hs h0 (by grind) hlo hin s1 s2 s3 hst
 ·rw[k0p rfl];exact q5a r l h v s w hr hs h0 s1 s2 s3 hst
end Sho
namespace R18
open Go Go.RowKit R5 Scn Sh Rtp Sho
def qa1(cs:List Go.Value):Bool:=match cs with|.bool _::.slice _ _ _::.slice _ _ _::_=>qa|_=>qk
theorem q0l.apart_{q:Rat}(h:q0l w g q){cs:List Go.Value}(hb:Blk w k t cs)(hcs:(cs.all (fun v=>match v with|.int .u32 _=>qa|_=>qk) && qa1 cs)=qk)(hg:w.grownBy w' (qg k)):q0l w' g q:=by
 have f:RatAt w g q.num q.den:=h;obtain⟨A,n,c,i,c1,u,y⟩:=f.num.ex;obtain⟨B,m,d,c2,s⟩:=f.den;rw[k13] at hcs;have o:g≠k:=by
  rintro rfl;rw[hb.cell] at i c1 c2;have:=hcs.2;rcases cs with _|⟨z,_|⟨C,_|⟨D,r⟩⟩⟩
  ·cases i
  ·cases c1
  ·cases c2
  ·simp at i c1 c2;subst i c1 c2;cases this
 have l:=f.num.lt;have cell:∀j,w'.cell? ⟨g,j,qb⟩=w.cell? ⟨g,j,qb⟩:=fun j=>q1o hg (p:=⟨g,j,qb⟩) l o
 obtain⟨x,hx⟩:=f.num.head;exact⟨⟨k03 l hg.size,⟨x,(cell 0).trans hx⟩,fun j=>(q0S (p:=⟨g,j,qb⟩) (hg.block g l (fun e=>o (by injection e)))).trans (f.num.fz j),A,n,c,(cell 0).trans i,(cell 1).trans c1,u.apart_ hb hcs.1 hg,y⟩,⟨B,m,d,(cell 2).trans c2,s.1.imp id (fun⟨a,b⟩=>⟨a,b.apart_ hb hcs.1 hg⟩),s.2⟩,f.pos⟩
theorem IvA.apart_{gl gh:Nat}{s:Span}(h:IvA w gl gh s){cs:List Go.Value}(hb:Blk w k t cs)(hcs:(cs.all (fun v=>match v with|.int .u32 _=>qa|_=>qk) && qa1 cs)=qk)(hg:w.grownBy w' (qg k)):IvA w' gl gh s:=⟨h.l.apart_ hb hcs hg,h.h.apart_ hb hcs hg⟩
structure N2(w:ql)(bs:List q30)(gl gh gv:Nat)(s:Span)(v:Rat)(K:Nat)(t:TypeId)(cs:List Go.Value)(ga gb gd:Option Nat)(x y:Rat)(wx:ql):Prop where
 c:Cx w bs wx
 i:IvA wx gl gh s
 v:q0l wx gv v
 k:K<=wx.heap.size
 kb:∀z∈bs,z.1<K
 kw:w.heap.size<=K
 kl:gl<K
 kh:gh<K
 kv:gv<K
 a:∀g,ga=qg g->q0l wx g x/\K<=g
 b:∀g,gb=qg g->q0l wx g y/\K<=g
 d:∀g,gd=qg g->Blk wx g t cs/\K<=g
 ab:∀g,ga=qg g->gb≠qg g
 ad:∀g,ga=qg g->gd≠qg g
 bd:∀g,gb=qg g->gd≠qg g
section
variable {w wx : ql} {bs : List q30} {gl gh gv : Nat} {s : Span} {v : Rat} {K : Nat} {t : TypeId} {cs : List Go.Value} {ga gb gd : Option Nat} {x y : Rat}
theorem N2.start(h:Cx w bs wx)(hi:IvA wx gl gh s)(hv:q0l wx gv v):N2 w bs gl gh gv s v wx.heap.size t cs qb qb qb 0 0 wx:=⟨h,hi,hv,lr,h.lt,h.low.size,hi.l.lt,hi.h.lt,hv.lt,fun _ e=>(by cases e),fun _ e=>(by cases e),fun _ e=>(by cases e),fun _ e=>(by cases e),fun _ e=>(by cases e),fun _ e=>(by cases e)⟩
theorem N2.step(h:N2 w bs gl gh gv s v K t cs ga gb gd x y wx)(hb:qi wx.heap.size wx w'):N2 w bs gl gh gv s v K t cs ga gb gd x y w':=⟨h.c.step hb,h.i.below hb,h.v.below hb,k07 h.k hb.size,h.kb,h.kw,h.kl,h.kh,h.kv,fun g e=>⟨(h.a g e).1.below hb,(h.a g e).2⟩,fun g e=>⟨(h.b g e).1.below hb,(h.b g e).2⟩,fun g e=>⟨(h.d g e).1.below hb,(h.d g e).2⟩,h.ab,h.ad,h.bd⟩
theorem N2.allocA(h:N2 w bs gl gh gv s v K t cs qb gb gd x y wx)(T:TypeId):∃g wn,wn=wx.alloc (.cells #[.bool qa,.slice qb 0 0,.slice qb 0 0] T)/\g=wx.heap.size/\N2 w bs gl gh gv s v K t cs (qg g) gb gd 0 y wn:=by
 have k:=h.step ((qe wx.heap.size wx).alloc (o:=.cells #[.bool qa,.slice qb 0 0,.slice qb 0 0] T) lr);refine⟨_,_,rfl,rfl,⟨k.c,k.i,k.v,k.k,k.kb,k.kw,k.kl,k.kh,k.kv,fun g e=>?_,k.b,k.d,fun g e q=>?_,fun g e q=>?_,k.bd⟩⟩
 ·cases e;exact⟨q0l.zero wx T,h.k⟩
 ·cases e;exact absurd (h.b _ q).1.lt (k2A _)
 ·cases e;exact absurd (h.d _ q).1.lt (k2A _)
theorem N2.allocB(h:N2 w bs gl gh gv s v K t cs ga qb gd x y wx)(T:TypeId):∃g wn,wn=wx.alloc (.cells #[.bool qa,.slice qb 0 0,.slice qb 0 0] T)/\g=wx.heap.size/\N2 w bs gl gh gv s v K t cs ga (qg g) gd x 0 wn:=by
 have k:=h.step ((qe wx.heap.size wx).alloc (o:=.cells #[.bool qa,.slice qb 0 0,.slice qb 0 0] T) lr);refine⟨_,_,rfl,rfl,⟨k.c,k.i,k.v,k.k,k.kb,k.kw,k.kl,k.kh,k.kv,k.a,fun g e=>?_,k.d,fun g e q=>?_,k.ad,fun g e q=>?_⟩⟩
 ·cases e;exact⟨q0l.zero wx T,h.k⟩
 ·cases q;exact absurd (h.a _ e).1.lt (k2A _)
 ·cases e;exact absurd (h.d _ q).1.lt (k2A _)
theorem N2.allocD(h:N2 w bs gl gh gv s v K t cs ga gb qb x y wx):∃g wn,wn=wx.alloc (.cells cs.toArray t)/\g=wx.heap.size/\N2 w bs gl gh gv s v K t cs ga gb (qg g) x y wn:=by
 have k:=h.step ((qe wx.heap.size wx).alloc (o:=.cells cs.toArray t) lr);refine⟨_,_,rfl,rfl,⟨k.c,k.i,k.v,k.k,k.kb,k.kw,k.kl,k.kh,k.kv,k.a,k.b,fun g e=>?_,k.ab,fun g e q=>?_,fun g e q=>?_⟩⟩
 ·cases e;exact⟨Blk.made wx t cs,h.k⟩
 ·cases q;exact absurd (h.a _ e).1.lt (k2A _)
 ·cases q;exact absurd (h.b _ e).1.lt (k2A _)
theorem q62(g:Nat)(q:Rat)(w':ql)(h:RatAt w' g (-q.num) q.den):q0l w' g (-q):=q0l.of h (by
 have k1:=q3j q;rw[Rat.intCast_neg,<- k1]
 grind)
theorem N2.negA{q:Rat}(h:N2 w bs gl gh gv s v K t cs (qg g) gb gd x y wx)(hx:q0l wx gx q):qn qh 81 #[.pointer (qg ⟨g,0,qb⟩),.pointer (qg ⟨gx,0,qb⟩)] wx fun e w'=>e=.returned (.pointer (qg ⟨g,0,qb⟩))/\N2 w bs gl gh gv s v K t cs (qg g) gb gd (-q) y w':=by
 have f:=h.a g rfl;refine(B.NegR g gx _ _ wx (RatAt.sh f.1) hx).mono ?_;rintro e w' ⟨o,u,j⟩;have m:∀{g':Nat} {r:Rat},g≠g'->q0l wx g' r->q0l w' g' r:=fun n hr=>RatAt.fs1 hr j n
 refine⟨o,⟨h.c.fs j (fun z hz=>k03 (h.kb z hz) f.2) (k07 h.kw f.2),⟨m (by have:=h.kl;omega) h.i.l,m (by have:=h.kh;omega) h.i.h⟩,m (by have:=h.kv;omega) h.v,k07 h.k j.size,h.kb,h.kw,h.kl,h.kh,h.kv,fun g' e=>?_,fun g' e=>⟨m (fun e'=>h.ab g rfl (by rw[e,e'])) (h.b g' e).1,(h.b g' e).2⟩,fun g' e=>⟨?_,(h.d g' e).2⟩,h.ab,h.ad,h.bd⟩⟩
 ·cases e;exact⟨q62 _ _ _ u,f.2⟩
 ·exact(j.block g' (h.d g' e).1.lt (fun p hp e'=>by rw[k09.1 hp] at e';exact h.ad g rfl (by rw[e];exact k0z qg e'.symm))).trans (h.d g' e).1
theorem N2.negB{q:Rat}(h:N2 w bs gl gh gv s v K t cs ga (qg g) gd x y wx)(hx:q0l wx gx q):qn qh 81 #[.pointer (qg ⟨g,0,qb⟩),.pointer (qg ⟨gx,0,qb⟩)] wx fun e w'=>e=.returned (.pointer (qg ⟨g,0,qb⟩))/\N2 w bs gl gh gv s v K t cs ga (qg g) gd x (-q) w':=by
 have f:=h.b g rfl;refine(B.NegR g gx _ _ wx (RatAt.sh f.1) hx).mono ?_;rintro e w' ⟨o,u,j⟩;have m:∀{g':Nat} {r:Rat},g≠g'->q0l wx g' r->q0l w' g' r:=fun n hr=>RatAt.fs1 hr j n
 refine⟨o,⟨h.c.fs j (fun z hz=>k03 (h.kb z hz) f.2) (k07 h.kw f.2),⟨m (by have:=h.kl;omega) h.i.l,m (by have:=h.kh;omega) h.i.h⟩,m (by have:=h.kv;omega) h.v,k07 h.k j.size,h.kb,h.kw,h.kl,h.kh,h.kv,fun g' e=>⟨m (fun e'=>h.ab g' e (by rw[e'])) (h.a g' e).1,(h.a g' e).2⟩,fun g' e=>?_,fun g' e=>⟨?_,(h.d g' e).2⟩,h.ab,h.ad,h.bd⟩⟩
 ·cases e;exact⟨q62 _ _ _ u,f.2⟩
 ·exact(j.block g' (h.d g' e).1.lt (fun p hp e'=>by rw[k09.1 hp] at e';exact h.bd g rfl (by rw[e];exact k0z qg e'.symm))).trans (h.d g' e).1
theorem N2.fin(h:N2 w bs gl gh gv s v K t cs ga gb (qg g) x y wx):Cx w ((g,t,cs)::bs) wx:=by
 have b:=h.d g rfl;refine⟨⟨h.c.low,fun z a=>?_⟩,?_,fun z a=>?_⟩
 ·rcases k0R.1 a with rfl|a
  ·exact b.1
  ·exact h.c.all z a
 ·rw[List.map_cons];refine List.Pairwise.cons (fun q hq=>?_) h.c.pw;obtain⟨z,a,rfl⟩:=k3g.1 hq;exact k03 (h.kb z a) b.2
 ·rcases k0R.1 a with rfl|a
  ·exact k07 h.kw b.2
  ·exact h.c.ge z a
end
section
variable {P : Program} {Q : Exit -> Act -> ql -> Prop} {S : ql -> Prop}
theorem q4N{l:List Oper}{K:Act->ql->Prop}{i j:Nat}{t u x:Sch}{o p q:Oper}{a:Act}(ho:l[i]?=qg o)(hw:Region.wanted o (yielded l.toArray a.tmps)=qk)(hp:l[j]?=qg p)(hx:Region.wanted p (yielded l.toArray a.tmps)=qk)(hq:l[k]?=qg q)(hy:Region.wanted q (yielded l.toArray a.tmps)=qk)
  (h1:∀K':Act->ql->Prop,q9S (∀a w,S w->(S w->q1l P l.toArray Q S K t a w)->K' a w)->o.wp P a w K' Q)
  (h2:∀K':Act->ql->Prop,q9S (∀a w,S w->(S w->q1l P l.toArray Q S K u a w)->K' a w)->p.wp P a w K' Q)
  (h3:∀K':Act->ql->Prop,q9S (∀a w,S w->(S w->q1l P l.toArray Q S K x a w)->K' a w)->q.wp P a w K' Q):q1l P l.toArray Q S K (.three i t j u k x) a w:=⟨q3S ho hw h1,q3S hp hx h2,q3S hq hy h3⟩
end
theorem q46(gl gh gv:Nat)(s:Span)(v:Rat)(w:ql)(hs:IvA w gl gh s)(hv:q0l w gv v)(h0:s.has 0=qk)(s1:Qb 2200 s.lo)(s2:Qb 2200 s.hi):qn qh 30 #[ivV gl gh s,.pointer (qg ⟨gv,0,qb⟩)] w fun e w'=>e=.returned (.tuple #[(⟨qa,⟨#[]⟩,0⟩:Dcl).v,.bool qk])/\qi w.heap.size w w':=by
 obtain⟨u,q⟩:=yx (s.li);obtain⟨x,r⟩:=yx (s.hn);show qn qh 30 #[.agg #[.pointer (qg ⟨gl,0,qb⟩),.pointer (qg ⟨gh,0,qb⟩),.bool s.li,.bool s.hn],.pointer (qg ⟨gv,0,qb⟩)] w _;rw[<- q,<- r];obtain⟨f,l⟩:=yx ((w.alloc (.cells #[.pointer (qg ⟨gl,0,qb⟩),.pointer (qg ⟨gh,0,qb⟩),.bool u,.bool x] 73)).alloc (.cells #[.bool qa,.string ⟨#[]⟩,.int .i64 0] 27));have p:Cx w [((w.heap.size+1),27,[.bool qa,.string ⟨#[]⟩,.int .i64 0]),(w.heap.size,73,[.pointer (qg ⟨gl,0,qb⟩),.pointer (qg ⟨gh,0,qb⟩),.bool u,.bool x])] f:=by rw[l];exact((Cx.nil w).new _ [_,_,_,_] rfl).new _ [_,_,_] (by simp)
 have C:qp (∀g w',IvA w' gl gh s->q0l w' g 0->qn qh 47 #[.agg #[.pointer (qg ⟨gl,0,qb⟩),.pointer (qg ⟨gh,0,qb⟩),.bool u,.bool x],.pointer (qg ⟨g,0,qb⟩)] w' fun e w''=>e=.returned (.bool (s.has 0))/\qi w'.heap.size w' w''):=vv fun g w' a b=>by rw[q,r];exact qd9 gl gh g s 0 w' a b (s1.mono (by decide)) (s2.mono (by decide)) ⟨by decide,by decide⟩
 rw[h0] at C;have F:qp (w.heap.size+1+1=f.heap.size):=vv (by rw[l];simp);have h:=vv (hs.below p.low);have k:=vv (hv.below p.low);have c:=vv p;have T:=vv l;clear l p hs hv s1 s2 q r h0;obtain⟨G,H,I,J,K⟩:=Blk.f4 (c.o.get 1 rfl);go_enter func30,ntmps30;go_wp2_with fail;rw[<- T.o,F.o];have L:=h;have M:=k;have N:=c;obtain⟨y,i⟩:=yx (f.heap.size);obtain⟨z,j⟩:=yx (f.alloc (.cells #[.bool qa,.slice qb 0 0,.slice qb 0 0] 87));have d:qi f.heap.size f z:=by rw[j];exact(qe _ _).alloc lr _
 have m:qp (q0l z y 0):=vv (by rw[j,i];exact q0l.zero _ _);have O:qp (f.heap.size<=y):=vv (by rw[i];exact lr);replace c:=vv (c.o.step d);replace h:=vv (h.o.below d);replace k:=vv (k.o.below d);have t:=vv d;have P:qp (y+1=z.heap.size):=vv (by rw[j,qo,<- i]);rw[<- j]
 try rw[<- i]
 clear G H I J K j i d;refine(C.o _ _ h.o m.o).mono ?_;rintro e V ⟨rfl,d⟩;replace c:=vv (c.o.step d);replace h:=vv (h.o.below d);replace k:=vv (k.o.below d);replace m:=vv (m.o.below d);replace t:=vn t d;clear d;clear m O t N L M
 try clear P
 have n:=vv (c.o.get 0 rfl);go_wp2_with (with_reducible refine q00 rfl 27 (.tmp 4) (.tmp 12) rfl (w.heap.size+1) [.bool qa,.string ⟨#[]⟩,.int .i64 0] rfl rfl 27 _ n.o (by kernel_rfl) rfl rfl ?_);intro U D E;clear n;have n:=vv (c.o.get 0 rfl);replace c:=vv (c.o.put 0 rfl D E);clear n D E;go_wp2;obtain⟨Q,R,S⟩:=Blk.c3 (c.o.get 0 rfl);exact qj (v:=.tuple #[(⟨qa,⟨#[]⟩,0⟩:Dcl).v,.bool qk]) (by simp [results,results30,go_sem,Q,R,S]) rfl ⟨rfl,c.o.low⟩
theorem q4E(gl gh gv:Nat)(s:Span)(v:Rat)(w:ql)(hs:IvA w gl gh s)(hv:q0l w gv v)(K:Nat)(h0:s.has 0=qa)(hpos:0<v)(hlo:s.lo<s.hi)(s1:Qb 2200 s.lo)(s2:Qb 2200 s.hi)(s3:Qb 1280 v)(hK:K<=300)(hstop:q2s s v (top v-(K:Int))=qk)(hst:Std w):qn qh 30 #[ivV gl gh s,.pointer (qg ⟨gv,0,qb⟩)] w fun e w'=>e=.returned (.tuple #[(q3K qa (q0Q s v):Dcl).v,.bool qk])/\qi w.heap.size w w':=by
 have n:=vv fun w' (k:IvA w' gl gh s) (k2:q0l w' gv v) (h:Std w')=>qai gl gh gv s v K w' k k2 hpos hlo s1 s2 s3 hK hstop h
 unfold q3K;obtain⟨x,p⟩:=yx (s.li);obtain⟨y,q⟩:=yx (s.hn);show qn qh 30 #[.agg #[.pointer (qg ⟨gl,0,qb⟩),.pointer (qg ⟨gh,0,qb⟩),.bool s.li,.bool s.hn],.pointer (qg ⟨gv,0,qb⟩)] w _;rw[<- p,<- q];obtain⟨j,r⟩:=yx ((w.alloc (.cells #[.pointer (qg ⟨gl,0,qb⟩),.pointer (qg ⟨gh,0,qb⟩),.bool x,.bool y] 73)).alloc (.cells #[.bool qa,.string ⟨#[]⟩,.int .i64 0] 27));have z:Cx w [((w.heap.size+1),27,[.bool qa,.string ⟨#[]⟩,.int .i64 0]),(w.heap.size,73,[.pointer (qg ⟨gl,0,qb⟩),.pointer (qg ⟨gh,0,qb⟩),.bool x,.bool y])] j:=by rw[r];exact((Cx.nil w).new _ [_,_,_,_] rfl).new _ [_,_,_] (by simp)
 have F:qp (∀g w',IvA w' gl gh s->q0l w' g 0->qn qh 47 #[.agg #[.pointer (qg ⟨gl,0,qb⟩),.pointer (qg ⟨gh,0,qb⟩),.bool x,.bool y],.pointer (qg ⟨g,0,qb⟩)] w' fun e w''=>e=.returned (.bool (s.has 0))/\qi w'.heap.size w' w''):=vv fun g w' a b=>by rw[p,q];exact qd9 gl gh g s 0 w' a b (s1.mono (by decide)) (s2.mono (by decide)) ⟨by decide,by decide⟩
 rw[h0] at F;have N:qp (w.heap.size+1+1=j.heap.size):=vv (by rw[r];simp);have f:=vv (hs.below z.low);have i:=vv (hv.below z.low);have d:=vv z;have HW:=vv r;have O:qp (∀w',q0l w' gv v->qn qh 79 #[.pointer (qg ⟨gv,0,qb⟩)] w' fun e w''=>e=.returned (.int .i64 (1))/\w'=w''):=vv fun w' k=>by
  have:=B.RSign gv _ _ w' k
  rwa [k0M (q18 hpos)] at this
 have n:qp (∀w',IvA w' gl gh s->q0l w' gv v->Std w'->qn qh 80 #[.agg #[.pointer (qg ⟨gl,0,qb⟩),.pointer (qg ⟨gh,0,qb⟩),.bool x,.bool y],.pointer (qg ⟨gv,0,qb⟩)] w' fun e w''=>e=.returned (.tuple #[.agg #[.bool qa,.string (q0J (q0E (q0Q s v).1)),.int .i64 ((q0Q s v).2+(Go.Proofs.YtabcgemembkkcaaGreatDoor.Sh.tz (q0Q s v).1:Int))],.bool qk])/\qi w'.heap.size w' w''):=vv (by rw[p,q];exact n.o);obtain⟨J,G⟩:=yx (q0J (q0E (q0Q s v).1));obtain⟨L,H⟩:=yx ((q0Q s v).2+(Go.Proofs.YtabcgemembkkcaaGreatDoor.Sh.tz (q0Q s v).1:Int));rw[<- G,<- H] at n ⊢;have P:=vv hst;clear r z hs hv s1 s2 s3 p q h0 hpos hlo hK hstop hst G H;obtain⟨Q,R,S,T,U⟩:=Blk.f4 (d.o.get 1 rfl);go_enter func30,ntmps30;go_wp2_with fail;rw[<- HW.o,N.o];have V:=f;have W:=i;have X:=d;obtain⟨D,l⟩:=yx (j.heap.size);obtain⟨E,m⟩:=yx (j.alloc (.cells #[.bool qa,.slice qb 0 0,.slice qb 0 0] 87));have c:qi j.heap.size j E:=by rw[m];exact(qe _ _).alloc lr _
 have t:qp (q0l E D 0):=vv (by rw[m,l];exact q0l.zero _ _);have Y:qp (j.heap.size<=D):=vv (by rw[l];exact lr);replace d:=vv (d.o.step c);replace f:=vv (f.o.below c);replace i:=vv (i.o.below c);have C:=vv c;have Z:qp (D+1=E.heap.size):=vv (by rw[m,qo,<- l]);rw[<- m]
 try rw[<- l]
 clear Q R S T U m l c;refine(F.o _ _ f.o t.o).mono ?_;rintro e w9 ⟨rfl,c⟩;replace d:=vv (d.o.step c);replace f:=vv (f.o.below c);replace i:=vv (i.o.below c);replace t:=vv (t.o.below c);replace C:=vn C c;clear c;clear t Y C X V W
 try clear Z
 go_wp2_with fail;refine(O.o _ i.o).mono ?_;rintro e w' ⟨rfl,rfl⟩;obtain⟨a0,a1,a2,a3,a4⟩:=Blk.f4 (d.o.get 1 rfl);go_wp2_with fail;refine(n.o _ f.o i.o (d.o.std P.o)).mono ?_;rintro e a8 ⟨rfl,c⟩;replace d:=vv (d.o.step c);replace f:=vv (f.o.below c);replace i:=vv (i.o.below c);clear a0 a1 a2 a3 a4 c;have u:=vv (d.o.get 0 rfl);go_wp2_with (with_reducible refine q00 rfl 27 (.tmp 4) (.tmp 19) rfl (w.heap.size+1) [.bool qa,.string J,.int .i64 L] rfl rfl 27 _ u.o (by kernel_rfl) rfl rfl ?_);intro a9 I M;clear u;have u:=vv (d.o.get 0 rfl);replace d:=vv (d.o.put 0 rfl I M);clear u I M;go_wp2;obtain⟨a5,a6,a7⟩:=Blk.c3 (d.o.get 0 rfl);exact qj (v:=.tuple #[.agg #[.bool qa,.string J,.int .i64 L],.bool qk]) (by simp [results,results30,go_sem,a5,a6,a7]) rfl ⟨rfl,d.o.low⟩
theorem q4F(gl gh gv:Nat)(s:Span)(v:Rat)(w:ql)(hs:IvA w gl gh s)(hv:q0l w gv v)(K:Nat)(h0:s.has 0=qa)(hneg:v<0)(hlo:s.lo<s.hi)(s1:Qb 2200 s.lo)(s2:Qb 2200 s.hi)(s3:Qb 1280 v)(hK:K<=300)(hstop:q2s s.flip (-v) (top (-v)-(K:Int))=qk)(hst:Std w):qn qh 30 #[ivV gl gh s,.pointer (qg ⟨gv,0,qb⟩)] w fun e w'=>e=.returned (.tuple #[(q3K qk (q0Q s.flip (-v)):Dcl).v,.bool qk])/\qi w.heap.size w w':=by
 unfold q3K;obtain⟨E,X⟩:=yx (s.li);obtain⟨F,Y⟩:=yx (s.hn);show qn qh 30 #[.agg #[.pointer (qg ⟨gl,0,qb⟩),.pointer (qg ⟨gh,0,qb⟩),.bool s.li,.bool s.hn],.pointer (qg ⟨gv,0,qb⟩)] w _;rw[<- X,<- Y];obtain⟨R,Z⟩:=yx ((w.alloc (.cells #[.pointer (qg ⟨gl,0,qb⟩),.pointer (qg ⟨gh,0,qb⟩),.bool E,.bool F] 73)).alloc (.cells #[.bool qa,.string ⟨#[]⟩,.int .i64 0] 27));have I:Cx w [((w.heap.size+1),27,[.bool qa,.string ⟨#[]⟩,.int .i64 0]),(w.heap.size,73,[.pointer (qg ⟨gl,0,qb⟩),.pointer (qg ⟨gh,0,qb⟩),.bool E,.bool F])] R:=by rw[Z];exact((Cx.nil w).new _ [_,_,_,_] rfl).new _ [_,_,_] (by simp)
 have b6:qp (∀g w',IvA w' gl gh s->q0l w' g 0->qn qh 47 #[.agg #[.pointer (qg ⟨gl,0,qb⟩),.pointer (qg ⟨gh,0,qb⟩),.bool E,.bool F],.pointer (qg ⟨g,0,qb⟩)] w' fun e w''=>e=.returned (.bool (s.has 0))/\qi w'.heap.size w' w''):=vv fun g w' a b=>by rw[X,Y];exact qd9 gl gh g s 0 w' a b (s1.mono (by decide)) (s2.mono (by decide)) ⟨by decide,by decide⟩
 rw[h0] at b6;have b9:qp (w.heap.size+1+1=R.heap.size):=vv (by rw[Z];simp);have G:=vv (hs.below I.low);have x:=vv (hv.below I.low);have r:=vv I;have HW:=vv Z;have c0:qp (∀w',q0l w' gv v->qn qh 79 #[.pointer (qg ⟨gv,0,qb⟩)] w' fun e w''=>e=.returned (.int .i64 (-1))/\w'=w''):=vv fun w' k=>by
  have:=B.RSign gv _ _ w' k
  rwa [k1a (by have:=q18 (v:=-v) (by grind);rw[Rat.neg_num] at this;omega)] at this
 have S:qp (∀g1 g2 g3 w',q0l w' g1 (-s.hi)->q0l w' g2 (-s.lo)->q0l w' g3 (-v)->Std w'->qn qh 80 #[.agg #[.pointer (qg ⟨g1,0,qb⟩),.pointer (qg ⟨g2,0,qb⟩),.bool F,.bool E],.pointer (qg ⟨g3,0,qb⟩)] w' fun e w''=>e=.returned (.tuple #[.agg #[.bool qa,.string (q0J (q0E (q0Q s.flip (-v)).1)),.int .i64 ((q0Q s.flip (-v)).2+(Go.Proofs.YtabcgemembkkcaaGreatDoor.Sh.tz (q0Q s.flip (-v)).1:Int))],.bool qk])/\qi w'.heap.size w' w''):=vv fun g1 g2 g3 w' a b c h=>by rw[X,Y];exact qai g1 g2 g3 s.flip (-v) K w' ⟨a,b⟩ c (by grind) (by show -s.hi < -s.lo;grind) s2.neg s1.neg s3.neg hK hstop h
 obtain⟨SB,b7⟩:=yx (q0J (q0E (q0Q s.flip (-v)).1));obtain⟨XB,b8⟩:=yx ((q0Q s.flip (-v)).2+(Go.Proofs.YtabcgemembkkcaaGreatDoor.Sh.tz (q0Q s.flip (-v)).1:Int));rw[<- b7,<- b8] at S ⊢;have a4:=vv hst;clear Z I hs hv s1 s2 s3 X Y h0 hneg hlo hK hstop hst b7 b8;obtain⟨c1,c2,c3,c5,c6⟩:=Blk.f4 (r.o.get 1 rfl);go_enter func30,ntmps30;go_wp2_with fail;rw[<- HW.o,b9.o];have a8:=G;have a9:=x;have b0:=r;obtain⟨g7,T⟩:=yx (R.heap.size);obtain⟨w8,U⟩:=yx (R.alloc (.cells #[.bool qa,.slice qb 0 0,.slice qb 0 0] 87));have q:qi R.heap.size R w8:=by rw[U];exact(qe _ _).alloc lr _
 have a0:qp (q0l w8 g7 0):=vv (by rw[U,T];exact q0l.zero _ _);have b1:qp (R.heap.size<=g7):=vv (by rw[T];exact lr);replace r:=vv (r.o.step q);replace G:=vv (G.o.below q);replace x:=vv (x.o.below q);have a1:=vv q;have a3:qp (g7+1=w8.heap.size):=vv (by rw[U,qo,<- T]);rw[<- U]
 try rw[<- T]
 clear c1 c2 c3 c5 c6 U T q;refine(b6.o _ _ G.o a0.o).mono ?_;rintro e w9 ⟨rfl,q⟩;replace r:=vv (r.o.step q);replace G:=vv (G.o.below q);replace x:=vv (x.o.below q);replace a0:=vv (a0.o.below q);replace a1:=vn a1 q;clear q;clear a0 b1 a1 b0 a8 a9
 try clear a3
 go_wp2_with fail;refine(c0.o _ x.o).mono ?_;rintro e w' ⟨rfl,rfl⟩;go_upto_region 5 with fail;go_cut [6] (fun s6 wx=>∃C y u:Nat,s6=.pointer (qg ⟨u,0,qb⟩)/\Cx w [(u,73,[.pointer (qg ⟨C,0,qb⟩),.pointer (qg ⟨y,0,qb⟩),.bool F,.bool E]),((w.heap.size+1),27,[.bool qa,.string ⟨#[]⟩,.int .i64 0]),(w.heap.size,73,[.pointer (qg ⟨gl,0,qb⟩),.pointer (qg ⟨gh,0,qb⟩),.bool E,.bool F])] wx/\q0l wx C (-s.hi)/\q0l wx y (-s.lo)/\q0l wx gv v)
 case first =>
  go_wp2_with fail;obtain⟨N,O,P,V,a2⟩:=Blk.f4 (r.o.get 1 rfl);refine q02 (fun w'=>w'.cell? ⟨w.heap.size,0,qb⟩=qg (.pointer (qg ⟨gl,0,qb⟩))/\w'.cell? ⟨w.heap.size,1,qb⟩=qg (.pointer (qg ⟨gh,0,qb⟩))/\w'.cell? ⟨w.heap.size,2,qb⟩=qg (.bool E)/\w'.cell? ⟨w.heap.size,3,qb⟩=qg (.bool F)) 15
   (.still 1 (.still 2 (.still 5 (.still 6 (.still 8 (.still 9 (.still 10 (.still 11 (.three 0 (.three 3 (.two 4 (.two 7 (.still 12 (.one 13 (.one 14 .done))) 13 (.one 7 (.still 12 (.one 14 .done)))) 13 (.one 4 (.one 7 (.still 12 (.one 14 .done))))) 4 (.two 3 (.two 7 (.still 12 (.one 13 (.one 14 .done))) 13 (.one 7 (.still 12 (.one 14 .done)))) 13 (.one 3 (.one 7 (.still 12 (.one 14 .done))))) 13 (.two 3 (.one 4 (.one 7 (.still 12 (.one 14 .done)))) 4 (.one 3 (.one 7 (.still 12 (.one 14 .done)))))) 4 (.two 0 (.two 3 (.two 7 (.still 12 (.one 13 (.one 14 .done))) 13 (.one 7 (.still 12 (.one 14 .done)))) 13 (.one 3 (.one 7 (.still 12 (.one 14 .done))))) 13 (.one 0 (.one 3 (.one 7 (.still 12 (.one 14 .done)))))) 13 (.two 0 (.two 3 (.one 4 (.one 7 (.still 12 (.one 14 .done)))) 4 (.one 3 (.one 7 (.still 12 (.one 14 .done))))) 4 (.one 0 (.one 3 (.one 7 (.still 12 (.one 14 .done))))))))))))))) ⟨N,O,P,V⟩ (fun a5=>?_)
  iterate 8
   refine q03 ?_
  clear a2 N O P V;obtain⟨a6,Q⟩:=yx (w9.drew);have q:qi w9.heap.size w9 a6:=by rw[Q];exact q05 (qe _ _)
  replace r:=vv (r.o.step q);replace G:=vv (G.o.below q);replace x:=vv (x.o.below q);rw[<- Q] at a5 ⊢;clear Q q;have d:=vv (N2.start (t:=73) (cs:=[.pointer qb,.pointer qb,.bool qa,.bool qa]) r.o G.o x.o);clear r G x;refine q4N rfl (by rfl) rfl (by rfl) rfl (by rfl) (fun K hK=>?_) (fun K hK=>?_) (fun K hK=>?_)
  focus
   go_simp;obtain⟨C,wn,m,n,f⟩:=d.o.allocA 87;rw[<- m]
   try rw[<- n]
   replace d:=vv f;clear m n f;refine hK.out _ _ (Blk.c4 (d.o.c.get 1 rfl)) (fun j=>?_);clear hK j;refine q4N rfl (by rfl) rfl (by rfl) rfl (by rfl) (fun K hK=>?_) (fun K hK=>?_) (fun K hK=>?_)
   focus
    go_simp;refine(d.o.negA d.o.i.h).mono ?_;rintro e wn ⟨rfl,f⟩;replace d:=vv f;clear f;go_wp2_with fail;refine hK.out _ _ (Blk.c4 (d.o.c.get 1 rfl)) (fun j=>?_);clear hK j;refine q0e rfl (by rfl) rfl (by rfl) (fun K hK=>?_) (fun K hK=>?_)
    focus
     go_simp;obtain⟨y,wn,m,n,f⟩:=d.o.allocB 87;rw[<- m]
     try rw[<- n]
     replace d:=vv f;clear m n f;refine hK.out _ _ (Blk.c4 (d.o.c.get 1 rfl)) (fun j=>?_);clear hK j;refine q0e rfl (by rfl) rfl (by rfl) (fun K hK=>?_) (fun K hK=>?_)
     focus
      go_simp;refine(d.o.negB d.o.i.l).mono ?_;rintro e wn ⟨rfl,f⟩;replace d:=vv f;clear f;go_wp2_with fail;refine hK.out _ _ (Blk.c4 (d.o.c.get 1 rfl)) (fun j=>?_);clear hK j
      iterate 1
       refine q03 ?_
      refine q01 rfl (by rfl) (fun K hK=>?_);go_simp;obtain⟨u,wn,m,n,f⟩:=d.o.allocD;rw[<- m]
      try rw[<- n]
      replace d:=vv f;clear m n f;refine hK.out _ _ (Blk.c4 (d.o.c.get 1 rfl)) (fun j=>?_);clear hK j
     rotate_left 1
     focus
      go_simp;obtain⟨u,wn,m,n,f⟩:=d.o.allocD;rw[<- m]
      try rw[<- n]
      replace d:=vv f;clear m n f;refine hK.out _ _ (Blk.c4 (d.o.c.get 1 rfl)) (fun j=>?_);clear hK j;refine q01 rfl (by rfl) (fun K hK=>?_);go_simp;refine(d.o.negB d.o.i.l).mono ?_;rintro e wn ⟨rfl,f⟩;replace d:=vv f;clear f;go_wp2_with fail;refine hK.out _ _ (Blk.c4 (d.o.c.get 1 rfl)) (fun j=>?_);clear hK j
      iterate 1
       refine q03 ?_
     rotate_left 1
    rotate_left 2
    focus
     go_simp;obtain⟨u,wn,m,n,f⟩:=d.o.allocD;rw[<- m]
     try rw[<- n]
     replace d:=vv f;clear m n f;refine hK.out _ _ (Blk.c4 (d.o.c.get 1 rfl)) (fun j=>?_);clear hK j;refine q01 rfl (by rfl) (fun K hK=>?_);go_simp;obtain⟨y,wn,m,n,f⟩:=d.o.allocB 87;rw[<- m]
     try rw[<- n]
     replace d:=vv f;clear m n f;refine hK.out _ _ (Blk.c4 (d.o.c.get 1 rfl)) (fun j=>?_);clear hK j;refine q01 rfl (by rfl) (fun K hK=>?_);go_simp;refine(d.o.negB d.o.i.l).mono ?_;rintro e wn ⟨rfl,f⟩;replace d:=vv f;clear f;go_wp2_with fail;refine hK.out _ _ (Blk.c4 (d.o.c.get 1 rfl)) (fun j=>?_);clear hK j
     iterate 1
      refine q03 ?_
    rotate_left 1
   rotate_left 3
   focus
    go_simp;obtain⟨y,wn,m,n,f⟩:=d.o.allocB 87;rw[<- m]
    try rw[<- n]
    replace d:=vv f;clear m n f;refine hK.out _ _ (Blk.c4 (d.o.c.get 1 rfl)) (fun j=>?_);clear hK j;refine q0e rfl (by rfl) rfl (by rfl) (fun K hK=>?_) (fun K hK=>?_)
    focus
     go_simp;refine(d.o.negA d.o.i.h).mono ?_;rintro e wn ⟨rfl,f⟩;replace d:=vv f;clear f;go_wp2_with fail;refine hK.out _ _ (Blk.c4 (d.o.c.get 1 rfl)) (fun j=>?_);clear hK j;refine q0e rfl (by rfl) rfl (by rfl) (fun K hK=>?_) (fun K hK=>?_)
     focus
      go_simp;refine(d.o.negB d.o.i.l).mono ?_;rintro e wn ⟨rfl,f⟩;replace d:=vv f;clear f;go_wp2_with fail;refine hK.out _ _ (Blk.c4 (d.o.c.get 1 rfl)) (fun j=>?_);clear hK j
      iterate 1
       refine q03 ?_
      refine q01 rfl (by rfl) (fun K hK=>?_);go_simp;obtain⟨u,wn,m,n,f⟩:=d.o.allocD;rw[<- m]
      try rw[<- n]
      replace d:=vv f;clear m n f;refine hK.out _ _ (Blk.c4 (d.o.c.get 1 rfl)) (fun j=>?_);clear hK j
     rotate_left 1
     focus
      go_simp;obtain⟨u,wn,m,n,f⟩:=d.o.allocD;rw[<- m]
      try rw[<- n]
      replace d:=vv f;clear m n f;refine hK.out _ _ (Blk.c4 (d.o.c.get 1 rfl)) (fun j=>?_);clear hK j;refine q01 rfl (by rfl) (fun K hK=>?_);go_simp;refine(d.o.negB d.o.i.l).mono ?_;rintro e wn ⟨rfl,f⟩;replace d:=vv f;clear f;go_wp2_with fail;refine hK.out _ _ (Blk.c4 (d.o.c.get 1 rfl)) (fun j=>?_);clear hK j
      iterate 1
       refine q03 ?_
     rotate_left 1
    rotate_left 2
    focus
     go_simp;obtain⟨u,wn,m,n,f⟩:=d.o.allocD;rw[<- m]
     try rw[<- n]
     replace d:=vv f;clear m n f;refine hK.out _ _ (Blk.c4 (d.o.c.get 1 rfl)) (fun j=>?_);clear hK j;refine q01 rfl (by rfl) (fun K hK=>?_);go_simp;refine(d.o.negA d.o.i.h).mono ?_;rintro e wn ⟨rfl,f⟩;replace d:=vv f;clear f;go_wp2_with fail;refine hK.out _ _ (Blk.c4 (d.o.c.get 1 rfl)) (fun j=>?_);clear hK j;refine q01 rfl (by rfl) (fun K hK=>?_);go_simp;refine(d.o.negB d.o.i.l).mono ?_;rintro e wn ⟨rfl,f⟩;replace d:=vv f;clear f;go_wp2_with fail;refine hK.out _ _ (Blk.c4 (d.o.c.get 1 rfl)) (fun j=>?_);clear hK j
     iterate 1
      refine q03 ?_
    rotate_left 1
   rotate_left 3
   focus
    go_simp;obtain⟨u,wn,m,n,f⟩:=d.o.allocD;rw[<- m]
    try rw[<- n]
    replace d:=vv f;clear m n f;refine hK.out _ _ (Blk.c4 (d.o.c.get 1 rfl)) (fun j=>?_);clear hK j;refine q0e rfl (by rfl) rfl (by rfl) (fun K hK=>?_) (fun K hK=>?_)
    focus
     go_simp;refine(d.o.negA d.o.i.h).mono ?_;rintro e wn ⟨rfl,f⟩;replace d:=vv f;clear f;go_wp2_with fail;refine hK.out _ _ (Blk.c4 (d.o.c.get 1 rfl)) (fun j=>?_);clear hK j;refine q01 rfl (by rfl) (fun K hK=>?_);go_simp;obtain⟨y,wn,m,n,f⟩:=d.o.allocB 87;rw[<- m]
     try rw[<- n]
     replace d:=vv f;clear m n f;refine hK.out _ _ (Blk.c4 (d.o.c.get 1 rfl)) (fun j=>?_);clear hK j;refine q01 rfl (by rfl) (fun K hK=>?_);go_simp;refine(d.o.negB d.o.i.l).mono ?_;rintro e wn ⟨rfl,f⟩;replace d:=vv f;clear f;go_wp2_with fail;refine hK.out _ _ (Blk.c4 (d.o.c.get 1 rfl)) (fun j=>?_);clear hK j
     iterate 1
      refine q03 ?_
    rotate_left 1
    focus
     go_simp;obtain⟨y,wn,m,n,f⟩:=d.o.allocB 87;rw[<- m]
     try rw[<- n]
     replace d:=vv f;clear m n f;refine hK.out _ _ (Blk.c4 (d.o.c.get 1 rfl)) (fun j=>?_);clear hK j;refine q01 rfl (by rfl) (fun K hK=>?_);go_simp;refine(d.o.negA d.o.i.h).mono ?_;rintro e wn ⟨rfl,f⟩;replace d:=vv f;clear f;go_wp2_with fail;refine hK.out _ _ (Blk.c4 (d.o.c.get 1 rfl)) (fun j=>?_);clear hK j;refine q01 rfl (by rfl) (fun K hK=>?_);go_simp;refine(d.o.negB d.o.i.l).mono ?_;rintro e wn ⟨rfl,f⟩;replace d:=vv f;clear f;go_wp2_with fail;refine hK.out _ _ (Blk.c4 (d.o.c.get 1 rfl)) (fun j=>?_);clear hK j
     iterate 1
      refine q03 ?_
    rotate_left 1
   rotate_left 2
  rotate_left 8
  focus
   go_simp;obtain⟨y,wn,m,n,f⟩:=d.o.allocB 87;rw[<- m]
   try rw[<- n]
   replace d:=vv f;clear m n f;refine hK.out _ _ (Blk.c4 (d.o.c.get 1 rfl)) (fun j=>?_);clear hK j;refine q0e rfl (by rfl) rfl (by rfl) (fun K hK=>?_) (fun K hK=>?_)
   focus
    go_simp;obtain⟨C,wn,m,n,f⟩:=d.o.allocA 87;rw[<- m]
    try rw[<- n]
    replace d:=vv f;clear m n f;refine hK.out _ _ (Blk.c4 (d.o.c.get 1 rfl)) (fun j=>?_);clear hK j;refine q0e rfl (by rfl) rfl (by rfl) (fun K hK=>?_) (fun K hK=>?_)
    focus
     go_simp;refine(d.o.negA d.o.i.h).mono ?_;rintro e wn ⟨rfl,f⟩;replace d:=vv f;clear f;go_wp2_with fail;refine hK.out _ _ (Blk.c4 (d.o.c.get 1 rfl)) (fun j=>?_);clear hK j;refine q0e rfl (by rfl) rfl (by rfl) (fun K hK=>?_) (fun K hK=>?_)
     focus
      go_simp;refine(d.o.negB d.o.i.l).mono ?_;rintro e wn ⟨rfl,f⟩;replace d:=vv f;clear f;go_wp2_with fail;refine hK.out _ _ (Blk.c4 (d.o.c.get 1 rfl)) (fun j=>?_);clear hK j
      iterate 1
       refine q03 ?_
      refine q01 rfl (by rfl) (fun K hK=>?_);go_simp;obtain⟨u,wn,m,n,f⟩:=d.o.allocD;rw[<- m]
      try rw[<- n]
      replace d:=vv f;clear m n f;refine hK.out _ _ (Blk.c4 (d.o.c.get 1 rfl)) (fun j=>?_);clear hK j
     rotate_left 1
     focus
      go_simp;obtain⟨u,wn,m,n,f⟩:=d.o.allocD;rw[<- m]
      try rw[<- n]
      replace d:=vv f;clear m n f;refine hK.out _ _ (Blk.c4 (d.o.c.get 1 rfl)) (fun j=>?_);clear hK j;refine q01 rfl (by rfl) (fun K hK=>?_);go_simp;refine(d.o.negB d.o.i.l).mono ?_;rintro e wn ⟨rfl,f⟩;replace d:=vv f;clear f;go_wp2_with fail;refine hK.out _ _ (Blk.c4 (d.o.c.get 1 rfl)) (fun j=>?_);clear hK j
      iterate 1
       refine q03 ?_
     rotate_left 1
    rotate_left 2
    focus
     go_simp;obtain⟨u,wn,m,n,f⟩:=d.o.allocD;rw[<- m]
     try rw[<- n]
     replace d:=vv f;clear m n f;refine hK.out _ _ (Blk.c4 (d.o.c.get 1 rfl)) (fun j=>?_);clear hK j;refine q01 rfl (by rfl) (fun K hK=>?_);go_simp;refine(d.o.negA d.o.i.h).mono ?_;rintro e wn ⟨rfl,f⟩;replace d:=vv f;clear f;go_wp2_with fail;refine hK.out _ _ (Blk.c4 (d.o.c.get 1 rfl)) (fun j=>?_);clear hK j;refine q01 rfl (by rfl) (fun K hK=>?_);go_simp;refine(d.o.negB d.o.i.l).mono ?_;rintro e wn ⟨rfl,f⟩;replace d:=vv f;clear f;go_wp2_with fail;refine hK.out _ _ (Blk.c4 (d.o.c.get 1 rfl)) (fun j=>?_);clear hK j
     iterate 1
      refine q03 ?_
    rotate_left 1
   rotate_left 3
   focus
    go_simp;obtain⟨u,wn,m,n,f⟩:=d.o.allocD;rw[<- m]
    try rw[<- n]
    replace d:=vv f;clear m n f;refine hK.out _ _ (Blk.c4 (d.o.c.get 1 rfl)) (fun j=>?_);clear hK j;refine q01 rfl (by rfl) (fun K hK=>?_);go_simp;obtain⟨C,wn,m,n,f⟩:=d.o.allocA 87;rw[<- m]
    try rw[<- n]
    replace d:=vv f;clear m n f;refine hK.out _ _ (Blk.c4 (d.o.c.get 1 rfl)) (fun j=>?_);clear hK j;refine q01 rfl (by rfl) (fun K hK=>?_);go_simp;refine(d.o.negA d.o.i.h).mono ?_;rintro e wn ⟨rfl,f⟩;replace d:=vv f;clear f;go_wp2_with fail;refine hK.out _ _ (Blk.c4 (d.o.c.get 1 rfl)) (fun j=>?_);clear hK j;refine q01 rfl (by rfl) (fun K hK=>?_);go_simp;refine(d.o.negB d.o.i.l).mono ?_;rintro e wn ⟨rfl,f⟩;replace d:=vv f;clear f;go_wp2_with fail;refine hK.out _ _ (Blk.c4 (d.o.c.get 1 rfl)) (fun j=>?_);clear hK j
    iterate 1
     refine q03 ?_
   rotate_left 1
  rotate_left 4
  focus
   go_simp;obtain⟨u,wn,m,n,f⟩:=d.o.allocD;rw[<- m]
   try rw[<- n]
   replace d:=vv f;clear m n f;refine hK.out _ _ (Blk.c4 (d.o.c.get 1 rfl)) (fun j=>?_);clear hK j;refine q0e rfl (by rfl) rfl (by rfl) (fun K hK=>?_) (fun K hK=>?_)
   focus
    go_simp;obtain⟨C,wn,m,n,f⟩:=d.o.allocA 87;rw[<- m]
    try rw[<- n]
    replace d:=vv f;clear m n f;refine hK.out _ _ (Blk.c4 (d.o.c.get 1 rfl)) (fun j=>?_);clear hK j;refine q0e rfl (by rfl) rfl (by rfl) (fun K hK=>?_) (fun K hK=>?_)
    focus
     go_simp;refine(d.o.negA d.o.i.h).mono ?_;rintro e wn ⟨rfl,f⟩;replace d:=vv f;clear f;go_wp2_with fail;refine hK.out _ _ (Blk.c4 (d.o.c.get 1 rfl)) (fun j=>?_);clear hK j;refine q01 rfl (by rfl) (fun K hK=>?_);go_simp;obtain⟨y,wn,m,n,f⟩:=d.o.allocB 87;rw[<- m]
     try rw[<- n]
     replace d:=vv f;clear m n f;refine hK.out _ _ (Blk.c4 (d.o.c.get 1 rfl)) (fun j=>?_);clear hK j;refine q01 rfl (by rfl) (fun K hK=>?_);go_simp;refine(d.o.negB d.o.i.l).mono ?_;rintro e wn ⟨rfl,f⟩;replace d:=vv f;clear f;go_wp2_with fail;refine hK.out _ _ (Blk.c4 (d.o.c.get 1 rfl)) (fun j=>?_);clear hK j
     iterate 1
      refine q03 ?_
    rotate_left 1
    focus
     go_simp;obtain⟨y,wn,m,n,f⟩:=d.o.allocB 87;rw[<- m]
     try rw[<- n]
     replace d:=vv f;clear m n f;refine hK.out _ _ (Blk.c4 (d.o.c.get 1 rfl)) (fun j=>?_);clear hK j;refine q01 rfl (by rfl) (fun K hK=>?_);go_simp;refine(d.o.negA d.o.i.h).mono ?_;rintro e wn ⟨rfl,f⟩;replace d:=vv f;clear f;go_wp2_with fail;refine hK.out _ _ (Blk.c4 (d.o.c.get 1 rfl)) (fun j=>?_);clear hK j;refine q01 rfl (by rfl) (fun K hK=>?_);go_simp;refine(d.o.negB d.o.i.l).mono ?_;rintro e wn ⟨rfl,f⟩;replace d:=vv f;clear f;go_wp2_with fail;refine hK.out _ _ (Blk.c4 (d.o.c.get 1 rfl)) (fun j=>?_);clear hK j
     iterate 1
      refine q03 ?_
    rotate_left 1
   rotate_left 2
   focus
    go_simp;obtain⟨y,wn,m,n,f⟩:=d.o.allocB 87;rw[<- m]
    try rw[<- n]
    replace d:=vv f;clear m n f;refine hK.out _ _ (Blk.c4 (d.o.c.get 1 rfl)) (fun j=>?_);clear hK j;refine q01 rfl (by rfl) (fun K hK=>?_);go_simp;obtain⟨C,wn,m,n,f⟩:=d.o.allocA 87;rw[<- m]
    try rw[<- n]
    replace d:=vv f;clear m n f;refine hK.out _ _ (Blk.c4 (d.o.c.get 1 rfl)) (fun j=>?_);clear hK j;refine q01 rfl (by rfl) (fun K hK=>?_);go_simp;refine(d.o.negA d.o.i.h).mono ?_;rintro e wn ⟨rfl,f⟩;replace d:=vv f;clear f;go_wp2_with fail;refine hK.out _ _ (Blk.c4 (d.o.c.get 1 rfl)) (fun j=>?_);clear hK j;refine q01 rfl (by rfl) (fun K hK=>?_);go_simp;refine(d.o.negB d.o.i.l).mono ?_;rintro e wn ⟨rfl,f⟩;replace d:=vv f;clear f;go_wp2_with fail;refine hK.out _ _ (Blk.c4 (d.o.c.get 1 rfl)) (fun j=>?_);clear hK j
    iterate 1
     refine q03 ?_
   rotate_left 1
  rotate_left 3
  all_goals
   obtain⟨wz,hz⟩:=yx (wn);subst hz;have r:=vv d.o.fin;have J:=vv (d.o.a C rfl).1;have L:=vv (d.o.b y rfl).1;have x:=vv d.o.v;clear d;refine q01 rfl (by rfl) (fun K hK=>?_);have D:=vv (r.o.get 0 rfl)
   with_reducible refine q0b 73 (.tmp 6) (.tmp 33) rfl u [.pointer (qg ⟨C,0,qb⟩),.pointer (qg ⟨y,0,qb⟩),.bool F,.bool E] rfl rfl 73 _ D.o (by kernel_rfl) rfl rfl ?_
   intro w9 M H;replace r:=vv (r.o.put 0 rfl M H);replace J:=vv (J.o.apart_ D.o rfl H);replace L:=vv (L.o.apart_ D.o rfl H);replace x:=vv (x.o.apart_ D.o rfl H);clear D M H;refine hK.out _ _ (Blk.c4 (r.o.get 2 rfl)) (fun j=>?_);clear hK;refine q08 ?_;simp only[k0o,k0w];go_wp2_with fail;go_meet;exact⟨C,y,u,rfl,r.o,J.o,L.o,x.o⟩
 case rest =>
  obtain⟨C,y,u,rfl,I,hA,q,hV⟩:=hcut;replace r:=vv I;have J:=vv hA;have L:=vv q;replace x:=vv hV;clear I hA q hV G;go_upto_region 6 with fail;go_cut [7,8] (fun s7 s8 wx=>∃z:Nat,s7=.pointer (qg ⟨z,0,qb⟩)/\s8=.bool qk/\Cx w [(z,27,[.bool qa,.string SB,.int .i64 XB]),(u,73,[.pointer (qg ⟨C,0,qb⟩),.pointer (qg ⟨y,0,qb⟩),.bool F,.bool E]),((w.heap.size+1),27,[.bool qa,.string ⟨#[]⟩,.int .i64 0]),(w.heap.size,73,[.pointer (qg ⟨gl,0,qb⟩),.pointer (qg ⟨gh,0,qb⟩),.bool E,.bool F])] wx)
  case first =>
   go_wp2_with fail;obtain⟨N,O,P,V,a2⟩:=Blk.f4 (r.o.get 0 rfl);refine q02 (fun w'=>w'.cell? ⟨u,0,qb⟩=qg (.pointer (qg ⟨C,0,qb⟩))/\w'.cell? ⟨u,1,qb⟩=qg (.pointer (qg ⟨y,0,qb⟩))/\w'.cell? ⟨u,2,qb⟩=qg (.bool F)/\w'.cell? ⟨u,3,qb⟩=qg (.bool E)) 10
    (.still 0 (.still 2 (.two 1 (.two 3 (.two 4 (.still 5 (.still 6 (.still 7 (.one 8 (.one 9 .done))))) 8 (.one 4 (.still 5 (.still 6 (.still 7 (.one 9 .done)))))) 8 (.one 3 (.one 4 (.still 5 (.still 6 (.still 7 (.one 9 .done))))))) 8 (.one 1 (.one 3 (.one 4 (.still 5 (.still 6 (.still 7 (.one 9 .done)))))))))) ⟨N,O,P,V⟩ (fun a5=>?_)
   iterate 2
    refine q03 ?_
   clear a2 N O P V;obtain⟨a6,Q⟩:=yx (wc.drew);have q:qi wc.heap.size wc a6:=by rw[Q];exact q05 (qe _ _)
   replace r:=vv (r.o.step q);replace J:=vv (J.o.below q);replace L:=vv (L.o.below q);replace x:=vv (x.o.below q);rw[<- Q] at a5 ⊢;clear Q q;have d:=vv (N2.start (t:=27) (cs:=[.bool qa,.string ⟨#[]⟩,.int .i64 0]) r.o (IvA.mk (s:=s.flip) J.o L.o) x.o);clear r J L x;refine q0e rfl (by rfl) rfl (by rfl) (fun K hK=>?_) (fun K hK=>?_)
   focus
    go_simp;obtain⟨W,wn,m,n,f⟩:=d.o.allocA 87;rw[<- m]
    try rw[<- n]
    replace d:=vv f;clear m n f;refine hK.out _ _ (Blk.c4 (d.o.c.get 0 rfl)) (fun j=>?_);clear hK j;refine q0e rfl (by rfl) rfl (by rfl) (fun K hK=>?_) (fun K hK=>?_)
    focus
     go_simp;refine(d.o.negA d.o.v).mono ?_;rintro e wn ⟨rfl,f⟩;replace d:=vv f;clear f;go_wp2_with fail;refine hK.out _ _ (Blk.c4 (d.o.c.get 0 rfl)) (fun j=>?_);clear hK j;refine q0e rfl (by rfl) rfl (by rfl) (fun K hK=>?_) (fun K hK=>?_)
     focus
      go_simp;refine(S.o _ _ _ _ d.o.i.l d.o.i.h (d.o.a W rfl).1 (d.o.c.std a4.o)).mono ?_;rintro e wn ⟨rfl,q⟩;replace d:=vv (d.o.step q);clear q;go_wp2_with fail;refine hK.out _ _ (Blk.c4 (d.o.c.get 0 rfl)) (fun j=>?_);clear hK j
      iterate 3
       refine q03 ?_
      refine q01 rfl (by rfl) (fun K hK=>?_);go_simp;obtain⟨z,wn,m,n,f⟩:=d.o.allocD;rw[<- m]
      try rw[<- n]
      replace d:=vv f;clear m n f;refine hK.out _ _ (Blk.c4 (d.o.c.get 0 rfl)) (fun j=>?_);clear hK j
     rotate_left 1
     focus
      go_simp;obtain⟨z,wn,m,n,f⟩:=d.o.allocD;rw[<- m]
      try rw[<- n]
      replace d:=vv f;clear m n f;refine hK.out _ _ (Blk.c4 (d.o.c.get 0 rfl)) (fun j=>?_);clear hK j;refine q01 rfl (by rfl) (fun K hK=>?_);go_simp;refine(S.o _ _ _ _ d.o.i.l d.o.i.h (d.o.a W rfl).1 (d.o.c.std a4.o)).mono ?_;rintro e wn ⟨rfl,q⟩;replace d:=vv (d.o.step q);clear q;go_wp2_with fail;refine hK.out _ _ (Blk.c4 (d.o.c.get 0 rfl)) (fun j=>?_);clear hK j
      iterate 3
       refine q03 ?_
     rotate_left 1
    rotate_left 2
    focus
     go_simp;obtain⟨z,wn,m,n,f⟩:=d.o.allocD;rw[<- m]
     try rw[<- n]
     replace d:=vv f;clear m n f;refine hK.out _ _ (Blk.c4 (d.o.c.get 0 rfl)) (fun j=>?_);clear hK j;refine q01 rfl (by rfl) (fun K hK=>?_);go_simp;refine(d.o.negA d.o.v).mono ?_;rintro e wn ⟨rfl,f⟩;replace d:=vv f;clear f;go_wp2_with fail;refine hK.out _ _ (Blk.c4 (d.o.c.get 0 rfl)) (fun j=>?_);clear hK j;refine q01 rfl (by rfl) (fun K hK=>?_);go_simp;refine(S.o _ _ _ _ d.o.i.l d.o.i.h (d.o.a W rfl).1 (d.o.c.std a4.o)).mono ?_;rintro e wn ⟨rfl,q⟩;replace d:=vv (d.o.step q);clear q;go_wp2_with fail;refine hK.out _ _ (Blk.c4 (d.o.c.get 0 rfl)) (fun j=>?_);clear hK j
     iterate 3
      refine q03 ?_
    rotate_left 1
   rotate_left 3
   focus
    go_simp;obtain⟨z,wn,m,n,f⟩:=d.o.allocD;rw[<- m]
    try rw[<- n]
    replace d:=vv f;clear m n f;refine hK.out _ _ (Blk.c4 (d.o.c.get 0 rfl)) (fun j=>?_);clear hK j;refine q01 rfl (by rfl) (fun K hK=>?_);go_simp;obtain⟨W,wn,m,n,f⟩:=d.o.allocA 87;rw[<- m]
    try rw[<- n]
    replace d:=vv f;clear m n f;refine hK.out _ _ (Blk.c4 (d.o.c.get 0 rfl)) (fun j=>?_);clear hK j;refine q01 rfl (by rfl) (fun K hK=>?_);go_simp;refine(d.o.negA d.o.v).mono ?_;rintro e wn ⟨rfl,f⟩;replace d:=vv f;clear f;go_wp2_with fail;refine hK.out _ _ (Blk.c4 (d.o.c.get 0 rfl)) (fun j=>?_);clear hK j;refine q01 rfl (by rfl) (fun K hK=>?_);go_simp;refine(S.o _ _ _ _ d.o.i.l d.o.i.h (d.o.a W rfl).1 (d.o.c.std a4.o)).mono ?_;rintro e wn ⟨rfl,q⟩;replace d:=vv (d.o.step q);clear q;go_wp2_with fail;refine hK.out _ _ (Blk.c4 (d.o.c.get 0 rfl)) (fun j=>?_);clear hK j
    iterate 3
     refine q03 ?_
   rotate_left 1
   all_goals
    obtain⟨wy,hz⟩:=yx (wn);subst hz;have r:=vv d.o.fin;clear d;refine q01 rfl (by rfl) (fun K hK=>?_);have D:=vv (r.o.get 0 rfl)
    with_reducible refine q0b 27 (.tmp 7) (.tmp 40) rfl z [.bool qa,.string SB,.int .i64 XB] rfl rfl 27 _ D.o (by kernel_rfl) rfl rfl ?_
    intro w8 M H;replace r:=vv (r.o.put 0 rfl M H);clear D M H;refine hK.out _ _ (Blk.c4 (r.o.get 1 rfl)) (fun j=>?_);clear hK;refine q08 ?_;simp only[k0o,k0w];go_wp2_with fail;go_meet;exact⟨z,rfl,rfl,r.o⟩
  case rest =>
   obtain⟨z,rfl,rfl,I⟩:=hcut;replace r:=vv I;clear I J L x;obtain⟨N,O,P,b2⟩:=Blk.f3 (r.o.get 0 rfl);have b3:=(r.o.get 0 rfl).fz 0;have b4:=(r.o.get 0 rfl).fz 1;have b5:=(r.o.get 0 rfl).fz 2;have D:=vv (r.o.get 2 rfl);have c8:w.heap.size+1<z:=by have k:=r.o.pw;simp only[List.map_cons,List.map_nil,List.pairwise_cons] at k;exact k.1 _ (by simp)
   have a7:qp (qi w.heap.size w (wc.setCell ⟨z,0,qb⟩ (.bool qk))):=vv (r.o.low.setCell (p:=⟨z,0,qb⟩) (by show w.heap.size<=z;omega) _);go_wp2_with (with_reducible refine q00 rfl 27 (.tmp 4) (.tmp 44) rfl (w.heap.size+1) [.bool qk,.string SB,.int .i64 XB] rfl rfl 27 _ (D.o.other (p:=⟨z,0,qb⟩) (by show z≠_;omega) _) (by kernel_rfl) rfl rfl ?_);intro w7 M H;have c7:=vv (q0a a7.o H a7.o.size (k1z _));obtain⟨k0,k1,k2⟩:=Fms.blk3 M;have K:=vv (And.intro k0 (And.intro k1 k2));clear M H k0 k1 k2 a7 D;clear N O P b2 b3 b4 b5
   repeat go_step
   obtain⟨k0,k1,k2⟩:=K.o;exact qj (v:=.tuple #[.agg #[.bool qk,.string SB,.int .i64 XB],.bool qk]) (by simp [results,results30,go_sem,k0,k1,k2]) rfl ⟨rfl,c7.o⟩
end R18
namespace Sho
open Go Go.RowKit R5 Scn Sh Rtp Dec Exa Fms
def qdK(E F:Int)(s:ByteArray)(x:Int)(b mode:Nat):Int:=
 if R3.chk E F≠0 then R3.chk E F else if q1R s x≠0 then q1R s x else if q09 E F b≠0 then q09 E F b else if 4<mode then 7 else 0
def q2r(E F:Nat)(neg:Bool)(s:ByteArray)(x:Int)(mode:Nat):Nat × Nat:=q0V E F neg neg mode (dvk s s.size*t10 x) (t10 (-x))
def q6W(E F:Nat)(neg:Bool)(s:ByteArray)(x:Int)(b mode:Nat):Bool:=
 (((q2r E F neg s x mode).1:Int)==(b:Int)) && (bits .and .u8 ((q2r E F neg s x mode).2:Int) 2==0)
def BkP(v:Bool)(er:Int)(w:ql)(e:Ending)(w':ql):Prop:=e=.returned (.tuple #[.bool v,.int .i64 er])/\qi w.heap.size w w'
theorem q4L(E F:Nat)(below neg:Bool)(mode a b:Nat)(h:0<a->below=neg):q0V E F below neg mode a b=q0V E F neg neg mode a b:=by
 unfold q0V;rcases k01 a with c|c
 ·rw[k0p c,k0p c]
 ·rw[h c]
theorem q4V{s:ByteArray}{x:Int}(h:q1j s x=qk):-1073741824<=x/\x<=1073741824/\q1j s 0=qk/\q8F s:=by
 have e:=h;unfold q1j at h;simp only[k13,k12] at h;obtain⟨⟨⟨c,d⟩,b⟩,a⟩:=h;refine⟨d,c,?_,?_⟩
 ·unfold q1j;by_cases h0:s.size=0
  ·rw[k0p h0,k04 b];rfl
  ·rw[k0r h0] at a ⊢;rw[a,k04 b];rfl
 ·by_cases h0:s.size=0
  ·intro k f;omega
  ·rw[k0r h0] at a;simp only[k13] at a;exact q2g.1 a.1.1
theorem q9N(neg:Bool)(N:Nat):(sq neg (wo N 0)).num=sg neg N/\(sq neg (wo N 0)).den=1:=by rw[Dcm.wo_mk];rw[show t10 0=1 from rfl,show t10 (-0)=1 from rfl,k0G,k2n];exact⟨rfl,rfl⟩
theorem q5Y(neg:Bool)(N:Nat):0<N->qd (sg neg N<0)=neg:=by
 intro h;cases neg
 ·exact k02 (by unfold sg;simp)
 ·exact k04 (by unfold sg;simp;omega)
theorem q8I(G F:Nat)(neg:Bool)(s:ByteArray)(x:Int)(b mode:Nat)(w:ql)(hs:s.size<=3000)(hb:b<18446744073709551616)(g1:1<=G)(g2:G<=10)(h3:1<=F)(h4:F<=52)(hd:q1j s x=qk)(hf:q09 ((G:Int)+1) F b=0)(hm:mode<=4)(hst:Std w):qn qh 10 #[fm ((G:Int)+1) F,q3J neg s x,.int .u64 (b:Int),.int .u8 (mode:Int)] w (BkP (q6W (G+1) F neg s x b mode) 0 w):=by
 obtain⟨c9,d0,R,S⟩:=q4V hd;obtain⟨w0,L⟩:=yx ((w.alloc (.cells #[.int .i64 ((G:Int)+1),.int .i64 (F:Int)] 23)).alloc (.cells #[.bool neg,.string s,.int .i64 x] 27));have g:Cx w [(w.heap.size+1,27,[.bool neg,.string s,.int .i64 x]),(w.heap.size,23,[.int .i64 ((G:Int)+1),.int .i64 (F:Int)])] w0:=by rw[L];exact((Cx.nil w).new _ [_,_] rfl).new _ [_,_,_] (by simp)
 have T:=vv fun w'=>Fms.Check ((G:Int)+1) F w'
 have U:=vv fun w'=>Dec.Check neg s x w' (by omega)
 have V:=vv fun w'=>Fms.Fits ((G:Int)+1) F b w' hb
 have e1:R3.chk ((G:Int)+1) F=0:=by unfold R3.chk R3.formOk;rw[k04 (p:=2<=(G:Int)+1) (by omega),k04 (p:=(G:Int)+1<=11) (by omega),k04 (p:=1<=(F:Int)) (by omega),k04 (p:=(F:Int)<=52) (by omega)];rfl
 have e2:q1R s x=0:=decErr_yes (by omega) hd;rw[e1] at T;rw[e2] at U;rw[hf] at V;obtain⟨N,v⟩:=yx (dvk s s.size);obtain⟨l,D⟩:=yx (qd (sg neg N<0));have W:0<N->l=neg:=fun h=>by rw[D];exact q5Y neg N h
 have d1:qp (∀w',Std w'->qn qh 19 #[q3J neg s 0] w' fun e E=>∃X n Y m,e=.returned (.tuple #[q0m l X n n Y m m,.int .i64 0])/\RN E X n n N/\RN E Y m m 1/\n<=16384/\qi w'.heap.size w' E):=vv fun w' M=>by refine(Dcm.RatioE neg s 0 w' R (by omega) (by decide) (by decide) M).mono ?_;rintro e E ⟨b',X,n,Y,m,rfl,k,f⟩;have q:=q9N neg (dvk s s.size);have J:=k.s;have u:=k.x;have K:=k.y;rw[q.1,q0Z] at u;rw[q.1,<- v,<- D] at J;rw[q.2] at K;rw[<- v] at u;subst J;exact⟨X,n,Y,m,rfl,⟨u⟩,⟨K⟩,by rw[<- u.words];exact k07 (by rw[v];exact q8d s S _ lr) (by omega),f⟩
 have Z:qp (∀X n c Y m d w',RN w' X n c N->RN w' Y m d 1->n<=16384->Std w'->qn qh 34 #[fm ((G:Int)+1) F,q0m l X n c Y m d,.int .i64 x,.bool neg,.int .u8 (mode:Int)] w' (q5N (q2r (G+1) F neg s x mode) w')):=vv fun X n c Y m d w' J u K M=>by
  have:=Rnd.Scaled G F l neg mode X n c Y m d N x w' g1 g2 h3 h4 hm J.r u.r K (fun h=>by
   rcases k01 N with t|t
   ·rw[D,t] at h;cases neg<;>exact absurd h (by decide)
   ·exact t) (by omega) (by omega) M
  rw[q4L _ _ l neg _ _ _ (fun h=>W (by
   rcases k01 N with t|t
   ·rw[t,k24] at h;omega
   ·exact t))] at this
  unfold q2r;rw[<- v];exact this
 have c7:q6W (G+1) F neg s x b mode=((((q2r (G+1) F neg s x mode).1:Int)==(b:Int)) && (bits .and .u8 ((q2r (G+1) F neg s x mode).2:Int) 2==0)):=rfl;obtain⟨o,Q⟩:=yx (q2r (G+1) F neg s x mode);rw[c7,<- Q];rw[<- Q] at Z;obtain⟨o1,o2⟩:=o;obtain⟨u1,O⟩:=yx (((o1:Int)==(b:Int)));obtain⟨u2,P⟩:=yx ((bits .and .u8 (o2:Int) 2==0));dsimp only;rw[<- O,<- P];replace O:=O.symm;replace P:=P.symm;have t4:qd ((4:Int)<(mode:Int))=qa:=k02 (by omega);have c8:=vv hst;have a:=vv g;have HW:=vv L;clear L g hst hs hb hd hf hm e1 e2 c9 d0 R S c7 Q D W v g1 g2 h3 h4;obtain⟨d2,d3,d4,d5⟩:=Blk.f3 (a.o.get 0 rfl);obtain⟨d6,d7,d8⟩:=Blk.f2 (a.o.get 1 rfl);go_enter func10,ntmps10;go_wp2_with fail;rw[<- HW.o];go_wp2_with fail;refine(T.o _).mono ?_;rintro e w8 ⟨rfl,f⟩;replace a:=vv (a.o.step f);clear d2 d3 d4 d5 d6 d7 d8 f;obtain⟨d9,a0,a1,a2⟩:=Blk.f3 (a.o.get 0 rfl);obtain⟨a3,a4,a5⟩:=Blk.f2 (a.o.get 1 rfl);go_wp2_with fail;refine(U.o _).mono ?_;rintro e e4 ⟨rfl,f⟩;replace a:=vv (a.o.step f);clear d9 a0 a1 a2 a3 a4 a5 f;obtain⟨a6,a7,a8,a9⟩:=Blk.f3 (a.o.get 0 rfl);obtain⟨b0,b1,b2⟩:=Blk.f2 (a.o.get 1 rfl);go_wp2_with fail;refine(V.o _).mono ?_;rintro e H ⟨rfl,f⟩;replace a:=vv (a.o.step f);clear a6 a7 a8 a9 b0 b1 b2 f;obtain⟨b3,b4,b5,b6⟩:=Blk.f3 (a.o.get 0 rfl);obtain⟨b7,b8,b9⟩:=Blk.f2 (a.o.get 1 rfl);go_wp2_with fail;obtain⟨e5,j⟩:=yx (H.heap.size);obtain⟨e0,i⟩:=yx (H.alloc (.cells #[.bool neg,.string s,.int .i64 0] 27));have f:qi H.heap.size H e0:=by rw[i];exact(qe _ _).alloc lr _
 have g:=a.o.new 27 [.bool neg,.string s,.int .i64 0] j;rw[<- i] at g 
 try rw[<- i]
 try rw[<- j]
 replace a:=vv g;clear b3 b4 b5 b6 b7 b8 b9 i f g j;refine(d1.o _ (a.o.std c8.o)).mono ?_;rintro e I ⟨X,n,Y,m,rfl,hX,hY,hn,f⟩;replace a:=vv (a.o.step f);have z:=vv hX;have C:=vv hY;have HN:=vv hn;clear f hX hY hn;obtain⟨c0,c1,c2,c3⟩:=Blk.f3 (a.o.get 1 rfl);obtain⟨c4,c5,c6⟩:=Blk.f2 (a.o.get 2 rfl);go_wp2_with fail;obtain⟨e6,j⟩:=yx (I.heap.size);obtain⟨e3,i⟩:=yx (I.alloc (.cells #[.bool l,.slice X n n,.slice Y m m] 39));have f:qi I.heap.size I e3:=by rw[i];exact(qe _ _).alloc lr _
 have g:=a.o.new 39 [.bool l,.slice X n n,.slice Y m m] j;rw[<- i] at g 
 try rw[<- i]
 try rw[<- j]
 replace a:=vv g;replace z:=vv (z.o.below f);replace C:=vv (C.o.below f);clear c0 c1 c2 c3 c4 c5 c6 i f g j;refine(Z.o _ _ _ _ _ _ _ z.o C.o HN.o (a.o.std c8.o)).mono ?_;rintro e e7 ⟨rfl,f⟩;replace a:=vv (a.o.step f);replace z:=vv (z.o.below f);replace C:=vv (C.o.below f);clear f;cases u1<;>cases u2
 all_goals
  go_wp2;go_ret2;exact⟨rfl,a.o.low⟩
end Sho
namespace Sho
open Go Go.RowKit R5 Scn Sh Rtp Exa
@[go_sem] theorem qf0(v0 v1 v2 v3 v4 v5 v6 v7 v8:Go.Value)(w:ql):(Instr.index 89 (.agg #[v0,v1,v2,v3,v4,v5,v6,v7,v8]) (.int .i64 0)).run qh w=.ok (.agg #[v0,v1,v2]) w:=by kernel_rfl
@[go_sem] theorem qeZ(v0 v1 v2 v3 v4 v5 v6 v7 v8:Go.Value)(w:ql):(Instr.index 89 (.agg #[v0,v1,v2,v3,v4,v5,v6,v7,v8]) (.int .i64 1)).run qh w=.ok (.agg #[v3,v4,v5]) w:=by kernel_rfl
@[go_sem] theorem qeY(v0 v1 v2 v3 v4 v5 v6 v7 v8:Go.Value)(w:ql):(Instr.index 89 (.agg #[v0,v1,v2,v3,v4,v5,v6,v7,v8]) (.int .i64 2)).run qh w=.ok (.agg #[v6,v7,v8]) w:=by kernel_rfl
def WiP(d:Dcl)(w:ql)(e:Ending)(w':ql):Prop:=e=.returned (.tuple #[d.v,.bool qk,.int .i64 0])/\qi w.heap.size w w'
theorem q8y(l h r:RV)(v:Rat)(s:Span)(w:ql)(hr:RI w r v)(hs:SI w l h s)(hlo:s.lo<s.hi)(hin:s.has v=qk)(s1:Qb 2200 s.lo)(s2:Qb 2200 s.hi)(s3:Qb 2200 v)
  (n1:max l.n l.m<=256) (n2:max h.n h.m<=256) (n3:max r.n r.m<=256) (hst:Std w) :
  qn qh 13 #[l.v,h.v,.bool s.li,.bool s.hn,r.v] w (WiP (q1f s v) w):=by
 obtain⟨D,K⟩:=yx (((((w.alloc (.cells #[.bool l.b,.slice l.X l.n l.c,.slice l.Y l.m l.d] 39)).alloc (.cells #[.bool h.b,.slice h.X h.n h.c,.slice h.Y h.m h.d] 39)).alloc (.cells #[.bool r.b,.slice r.X r.n r.c,.slice r.Y r.m r.d] 39)).alloc (.cells #[.bool qa,.string ⟨#[]⟩,.int .i64 0] 27)));have g:Cx w [((w.heap.size+1+1+1),27,[.bool qa,.string ⟨#[]⟩,.int .i64 0]),((w.heap.size+1+1),39,[.bool r.b,.slice r.X r.n r.c,.slice r.Y r.m r.d]),((w.heap.size+1),39,[.bool h.b,.slice h.X h.n h.c,.slice h.Y h.m h.d]),(w.heap.size,39,[.bool l.b,.slice l.X l.n l.c,.slice l.Y l.m l.d])] D:=by rw[K];exact((((Cx.nil w).new _ [_,_,_] rfl).new _ [_,_,_] (by simp)).new _ [_,_,_] (by simp)).new _ [_,_,_] (by simp)
 have Z:qp (∀y q w',RI w' y q->Qb 2200 q->Std w'->qn qh 43 #[y.v] w' fun e w''=>e=.returned (.int .i64 0)/\qi w'.heap.size w' w''):=vv fun y q w' k kq hs=>qd5 q _ _ _ _ _ _ _ w' k (kq.mono (by decide)) hs
 have d2:=vv fun w' (k1:SI w' l h s) (k2:RI w' r v) hs=>in_ l h s r v w' k1 k2 (s1.mono (by decide)) (s2.mono (by decide)) (s3.mono (by decide)) hs
 rw[hin] at d2;have d3:=vv fun w' (k1:SI w' l h s) (k2:RI w' r v) hs=>q79 r l h v s w' k2 k1 hlo hin s1 s2 s3 hs
 obtain⟨d,hd⟩:=yx (q1f s v);rw[<- hd];rw[<- hd] at d3;have d9:=vv s1;have e0:=vv s2;have e1:=vv s3;have t1:qd ((256:Int)<max (l.n:Int) (l.m:Int))=qa:=k02 (by omega);have t2:qd ((256:Int)<max (h.n:Int) (h.m:Int))=qa:=k02 (by omega);have t3:qd ((256:Int)<max (r.n:Int) (r.m:Int))=qa:=k02 (by omega);have E:=vv hst;have i:=vv (hs.below g.low);have j:=vv (hr.below g.low);have a:=vv g;have HW:=vv K;have e2:qp (w.heap.size+1+1+1+1=D.heap.size):=vv (by rw[K];simp);clear K g hst hs hr hlo hin s1 s2 s3 n1 n2 n3 hd;obtain⟨e3,e4,e5,e6⟩:=Blk.f3 (a.o.get 1 rfl);obtain⟨e7,e8,e9,f0⟩:=Blk.f3 (a.o.get 2 rfl);obtain⟨f1,a0,a1,a2⟩:=Blk.f3 (a.o.get 3 rfl);go_enter func13,ntmps13;go_wp2_with fail;rw[<- HW.o,e2.o];obtain⟨d4,u⟩:=yx (D.heap.size);obtain⟨f2,p⟩:=yx (D.alloc (.cells #[.bool l.b,.slice l.X l.n l.c,.slice l.Y l.m l.d,.bool h.b,.slice h.X h.n h.c,.slice h.Y h.m h.d,.bool r.b,.slice r.X r.n r.c,.slice r.Y r.m r.d] 89));have f:qi D.heap.size D f2:=by rw[p];exact(qe _ _).alloc lr _
 have g:=a.o.new 89 [.bool l.b,.slice l.X l.n l.c,.slice l.Y l.m l.d,.bool h.b,.slice h.X h.n h.c,.slice h.Y h.m h.d,.bool r.b,.slice r.X r.n r.c,.slice r.Y r.m r.d] u;rw[<- p] at g 
 try rw[<- p]
 try rw[<- u]
 replace a:=vv g;replace i:=vv (i.o.below f);replace j:=vv (j.o.below f);clear e3 e4 e5 e6 e7 e8 e9 f0 f1 a0 a1 a2 p f g u;go_loopw [27] (fun t wr=>∃k:Nat,k<=3/\t=.int .i64 (k:Int)/\Cx w [(d4,89,[.bool l.b,.slice l.X l.n l.c,.slice l.Y l.m l.d,.bool h.b,.slice h.X h.n h.c,.slice h.Y h.m h.d,.bool r.b,.slice r.X r.n r.c,.slice r.Y r.m r.d]),((w.heap.size+1+1+1),27,[.bool qa,.string ⟨#[]⟩,.int .i64 0]),((w.heap.size+1+1),39,[.bool r.b,.slice r.X r.n r.c,.slice r.Y r.m r.d]),((w.heap.size+1),39,[.bool h.b,.slice h.X h.n h.c,.slice h.Y h.m h.d]),(w.heap.size,39,[.bool l.b,.slice l.X l.n l.c,.slice l.Y l.m l.d])] wr/\SI wr l h s/\RI wr r v) (fun t _=>(3-intOf t).toNat)
 case atStart=>exact⟨0,by decide,rfl,a.o,i.o,j.o⟩
 case round =>
  clear a i j;obtain⟨k,z,rfl,g,H,I⟩:=hrel;have a:=vv g;have i:=vv H;have j:=vv I;clear g H I;rcases(by omega:k=0\/k=1\/k=2\/k=3) with rfl|rfl|rfl|rfl
  ·clear z;go_wp2_with fail;obtain⟨d5,u⟩:=yx (wr.heap.size);obtain⟨F,p⟩:=yx (wr.alloc (.cells #[.bool l.b,.slice l.X l.n l.c,.slice l.Y l.m l.d] 39));have f:qi wr.heap.size wr F:=by rw[p];exact(qe _ _).alloc lr _
   have g:=a.o.new 39 [.bool l.b,.slice l.X l.n l.c,.slice l.Y l.m l.d] u;rw[<- p] at g 
   try rw[<- p]
   try rw[<- u]
   replace a:=vv g;replace i:=vv (i.o.below f);replace j:=vv (j.o.below f);clear p f g u;refine(Z.o l s.lo _ i.o.l d9.o (a.o.std E.o)).mono ?_;rintro e d6 ⟨rfl,f⟩;replace a:=vv (a.o.step f);replace i:=vv (i.o.below f);replace j:=vv (j.o.below f);clear f;go_wp2;go_roundw
   case rel=>exact⟨1,by decide,rfl,q1J a.o,i.o,j.o⟩
   case measure=>exact(by decide)
  ·clear z;go_wp2_with fail;obtain⟨d5,u⟩:=yx (wr.heap.size);obtain⟨F,p⟩:=yx (wr.alloc (.cells #[.bool h.b,.slice h.X h.n h.c,.slice h.Y h.m h.d] 39));have f:qi wr.heap.size wr F:=by rw[p];exact(qe _ _).alloc lr _
   have g:=a.o.new 39 [.bool h.b,.slice h.X h.n h.c,.slice h.Y h.m h.d] u;rw[<- p] at g 
   try rw[<- p]
   try rw[<- u]
   replace a:=vv g;replace i:=vv (i.o.below f);replace j:=vv (j.o.below f);clear p f g u;refine(Z.o h s.hi _ i.o.h e0.o (a.o.std E.o)).mono ?_;rintro e d6 ⟨rfl,f⟩;replace a:=vv (a.o.step f);replace i:=vv (i.o.below f);replace j:=vv (j.o.below f);clear f;go_wp2;go_roundw
   case rel=>exact⟨2,by decide,rfl,q1J a.o,i.o,j.o⟩
   case measure=>exact(by decide)
  ·clear z;go_wp2_with fail;obtain⟨d5,u⟩:=yx (wr.heap.size);obtain⟨F,p⟩:=yx (wr.alloc (.cells #[.bool r.b,.slice r.X r.n r.c,.slice r.Y r.m r.d] 39));have f:qi wr.heap.size wr F:=by rw[p];exact(qe _ _).alloc lr _
   have g:=a.o.new 39 [.bool r.b,.slice r.X r.n r.c,.slice r.Y r.m r.d] u;rw[<- p] at g 
   try rw[<- p]
   try rw[<- u]
   replace a:=vv g;replace i:=vv (i.o.below f);replace j:=vv (j.o.below f);clear p f g u;refine(Z.o r v _ j.o e1.o (a.o.std E.o)).mono ?_;rintro e d6 ⟨rfl,f⟩;replace a:=vv (a.o.step f);replace i:=vv (i.o.below f);replace j:=vv (j.o.below f);clear f;go_wp2;go_roundw
   case rel=>exact⟨3,by decide,rfl,q1J a.o,i.o,j.o⟩
   case measure=>exact(by decide)
  ·clear z;obtain⟨L,M,N,O,P,Q,R,T,U,V⟩:=Blk.f9 (a.o.get 0 rfl);go_wp2;go_loopw [38] (fun t wr=>∃k:Nat,k<=3/\t=.int .i64 (k:Int)/\Cx w [(d4,89,[.bool l.b,.slice l.X l.n l.c,.slice l.Y l.m l.d,.bool h.b,.slice h.X h.n h.c,.slice h.Y h.m h.d,.bool r.b,.slice r.X r.n r.c,.slice r.Y r.m r.d]),((w.heap.size+1+1+1),27,[.bool qa,.string ⟨#[]⟩,.int .i64 0]),((w.heap.size+1+1),39,[.bool r.b,.slice r.X r.n r.c,.slice r.Y r.m r.d]),((w.heap.size+1),39,[.bool h.b,.slice h.X h.n h.c,.slice h.Y h.m h.d]),(w.heap.size,39,[.bool l.b,.slice l.X l.n l.c,.slice l.Y l.m l.d])] wr/\SI wr l h s/\RI wr r v) (fun t _=>(3-intOf t).toNat)
   case atStart=>exact⟨0,by decide,rfl,a.o,i.o,j.o⟩
   case round =>
    clear a i j;obtain⟨k,z,rfl,g,H,I⟩:=hrel;have a:=vv g;have i:=vv H;have j:=vv I;clear g H I;rcases(by omega:k=0\/k=1\/k=2\/k=3) with rfl|rfl|rfl|rfl
    ·clear z;go_wp2;obtain⟨d7,u⟩:=yx (wr.heap.size);obtain⟨G,p⟩:=yx (wr.alloc (.cells #[.bool l.b,.slice l.X l.n l.c,.slice l.Y l.m l.d] 39));have f:qi wr.heap.size wr G:=by rw[p];exact(qe _ _).alloc lr _
     have g:=a.o.new 39 [.bool l.b,.slice l.X l.n l.c,.slice l.Y l.m l.d] u;rw[<- p] at g 
     try rw[<- p]
     try rw[<- u]
     replace a:=vv g;replace i:=vv (i.o.below f);replace j:=vv (j.o.below f);clear L M N O P Q R T U V p f g u;go_roundw
     case rel=>exact⟨1,by decide,rfl,q1J a.o,i.o,j.o⟩
     case measure=>exact(by decide)
    ·clear z;go_wp2;obtain⟨d7,u⟩:=yx (wr.heap.size);obtain⟨G,p⟩:=yx (wr.alloc (.cells #[.bool h.b,.slice h.X h.n h.c,.slice h.Y h.m h.d] 39));have f:qi wr.heap.size wr G:=by rw[p];exact(qe _ _).alloc lr _
     have g:=a.o.new 39 [.bool h.b,.slice h.X h.n h.c,.slice h.Y h.m h.d] u;rw[<- p] at g 
     try rw[<- p]
     try rw[<- u]
     replace a:=vv g;replace i:=vv (i.o.below f);replace j:=vv (j.o.below f);clear L M N O P Q R T U V p f g u;go_roundw
     case rel=>exact⟨2,by decide,rfl,q1J a.o,i.o,j.o⟩
     case measure=>exact(by decide)
    ·clear z;go_wp2;obtain⟨d7,u⟩:=yx (wr.heap.size);obtain⟨G,p⟩:=yx (wr.alloc (.cells #[.bool r.b,.slice r.X r.n r.c,.slice r.Y r.m r.d] 39));have f:qi wr.heap.size wr G:=by rw[p];exact(qe _ _).alloc lr _
     have g:=a.o.new 39 [.bool r.b,.slice r.X r.n r.c,.slice r.Y r.m r.d] u;rw[<- p] at g 
     try rw[<- p]
     try rw[<- u]
     replace a:=vv g;replace i:=vv (i.o.below f);replace j:=vv (j.o.below f);clear L M N O P Q R T U V p f g u;go_roundw
     case rel=>exact⟨3,by decide,rfl,q1J a.o,i.o,j.o⟩
     case measure=>exact(by decide)
    ·clear z;obtain⟨a3,a4,a5,a6⟩:=Blk.f3 (a.o.get 3 rfl);obtain⟨a7,a8,a9,b0⟩:=Blk.f3 (a.o.get 4 rfl);obtain⟨b1,b2,b3,b4⟩:=Blk.f3 (a.o.get 2 rfl);go_wp2_with fail;obtain⟨f6,u⟩:=yx (wr.heap.size);obtain⟨f4,p⟩:=yx (wr.alloc (.cells #[.bool l.b,.slice l.X l.n l.c,.slice l.Y l.m l.d,.bool h.b,.slice h.X h.n h.c,.slice h.Y h.m h.d,.bool s.li,.bool s.hn] 69));have f:qi wr.heap.size wr f4:=by rw[p];exact(qe _ _).alloc lr _
     have g:=a.o.new 69 [.bool l.b,.slice l.X l.n l.c,.slice l.Y l.m l.d,.bool h.b,.slice h.X h.n h.c,.slice h.Y h.m h.d,.bool s.li,.bool s.hn] u;rw[<- p] at g 
     try rw[<- p]
     try rw[<- u]
     replace a:=vv g;replace i:=vv (i.o.below f);replace j:=vv (j.o.below f);clear L M N O P Q R T U V a3 a4 a5 a6 a7 a8 a9 b0 b1 b2 b3 b4 p f g u;refine(d2.o _ i.o j.o (a.o.std E.o)).mono ?_;rintro e f7 ⟨rfl,f⟩;replace a:=vv (a.o.step f);replace i:=vv (i.o.below f);replace j:=vv (j.o.below f);clear f;obtain⟨b5,b6,b7,b8,b9,c0,c1,c2,c4⟩:=Blk.f8 (a.o.get 0 rfl);obtain⟨c5,c6,c7,c8⟩:=Blk.f3 (a.o.get 3 rfl);go_wp2_with fail;refine(d3.o _ i.o j.o (a.o.std E.o)).mono ?_;rintro e W ⟨rfl,f⟩;replace a:=vv (a.o.step f);replace i:=vv (i.o.below f);replace j:=vv (j.o.below f);clear b5 b6 b7 b8 b9 c0 c1 c2 c4 c5 c6 c7 c8 f;have C:=vv (a.o.get 2 rfl);go_wp2_with (with_reducible refine q00 rfl 27 (.tmp 10) (.tmp 69) rfl (w.heap.size+1+1+1) [.bool d.neg,.string d.S,.int .i64 d.x] rfl rfl 27 _ (C.o.alloc _) (by kernel_rfl) rfl rfl ?_);intro g0 d8 J;clear C;obtain⟨g1,u⟩:=yx (W.heap.size);obtain⟨f5,p⟩:=yx (W.alloc (.cells #[.bool d.neg,.string d.S,.int .i64 d.x] 27));have f:qi W.heap.size W f5:=by rw[p];exact(qe _ _).alloc lr _
     have g:=a.o.new 27 [.bool d.neg,.string d.S,.int .i64 d.x] u;rw[<- p] at g J
     try rw[<- p]
     try rw[<- u]
     replace a:=vv g;replace i:=vv (i.o.below f);replace j:=vv (j.o.below f);clear p f g u;have C:=vv (a.o.get 3 rfl);replace a:=vv (a.o.put 3 rfl d8 J);replace i:=vv (i.o.apart_ C.o rfl J);replace j:=vv (j.o.apart_ C.o rfl J);clear C d8 J;go_wp2;obtain⟨c9,d0,d1⟩:=Blk.c3 (a.o.get 3 rfl);exact qj (v:=.tuple #[d.v,.bool qk,.int .i64 0]) (by simp [results,results13,go_sem,c9,d0,d1]) rfl ⟨rfl,a.o.low⟩
end Sho
end Go.Proofs.YtabcgemembkkcaaGreatDoor
