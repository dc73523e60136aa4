/- Lemmas. -/
import Derived.Test.YtabcgemembkkcaaGreatDoorPartAW
set_option linter.all false
set_option maxHeartbeats 4000000
set_option maxRecDepth 100000
open Go.Proofs.Tryz
open Option renaming none->qa,some->qc
open Go.Proofs.Tryz renaming prog->qb
open Decidable renaming decide->qd
open Go.RowKit renaming Below->qe,Hid->qj
open Go renaming RowKit.Below.refl->qf,World->qg,Calls->qh
open Bool renaming false->qi
namespace Go.Proofs.YtabcgemembkkcaaGreatDoor
namespace A
open AB
open Go Go.RowKit
theorem Inv(g gx:Nat)(N d:Nat)(w:qg)(h:RatSh w g)(hx:RatAt w gx (N:Int) d)(hN:0<N):qh qb 229 #[.pointer (qc ⟨g,0,qa⟩),.pointer (qc ⟨gx,0,qa⟩)] w (q1M g (d:Int) N w):=by have Q:=vv h;have HX:=vv hx;have k:=vv (q2e hN hx.pos);have HP:=vv (q0R (p:=(N:Int)) hx.pos);have R:=vv hN;have H:=q2c (p:=(N:Int)) hx.pos;have t:=hx.lt;obtain⟨v,q⟩:=h.int;have X:=q.lt;have C:=vv q;obtain⟨A,n,c,S,T,D,hz⟩:=hx.num.ex;rw[k00 (by omega)] at S;have r:=vv D;have I:=vv (below gx _ _ w hx);clear h hx q D H hN;go_enter func229,ntmps229;go_wp2_with fail;refine I.o.mono ?_;rintro e w1 ⟨B,m,d1,rfl,E,Y,u⟩;have s:=vv E;have J:=vv u;clear E u;go_wp2_with fail;refine(copied _ _ _ _ _ s.o).mono ?_;rintro e U ⟨rfl,F,y⟩;have V:=vv (F.rd s.o.len.symm lr s.o.sm);have i:=vn J y;have Z:=(i.o.cell (p:=⟨gx,1,qa⟩) t).trans T;have a0:gx<U.heap.size:=k02 t i.o.size;clear F y;go_wp2_with fail;refine(copied _ _ _ _ _ (r.o.below i.o rfl)).mono ?_;rintro e w3 ⟨rfl,z,l⟩;have K:=vv ((z.rd r.o.len.symm lr r.o.sm).den k.o.2.2 (fun a e=>by cases e;rfl));have L:=vv (V.o.below l rfl);have j:=vn i l;clear z l;go_wp2_with fail;refine(set_of g 0 v (ld N d:Nat) _ _ m m (ld N d) _ (C.o.below j.o) L.o (fun a e=>by cases e;rfl) rfl (q2D (by omega))).mono ?_;rintro e w4 b;have b:=b.f (C.o.below j.o);have M:=vv ((Q.o.below j.o).num b);have W:=vv (b.2.2.after j.o);have O:=vv (K.o.fs b.2.2);obtain⟨rfl,-,-⟩:=b;obtain⟨hi,x,hx⟩:=M.o;have a1:=hi.lt;have a2:=hi.fz 2;have G:=vv hi;have P:=vv hx;clear hi;go_wp2;go_ret;exact⟨rfl,RatAt.made G.o ⟨x,P.o⟩ O.o R.o k.o.2.2 k.o.1 k.o.2.1,fs3 (W.o.trans (Fs.set2 G.o _))⟩
theorem q1O(g:Nat)(s:Bool)(A D B C:Option Addr)(na ca nd cd nb cb nc cc a d b c:Nat)(w:qg)(h:RatSh w g)(ha:Rd w A na ca (toL a))(hb:Rd w B nb cb (toL b))(hd0:0<d)(hc0:0<c)
  (h0:a=0\/0<a/\b=0) (hst:Std w) :
  qh qb 298 #[.pointer (qc ⟨g,0,qa⟩),.bool s,.slice A na ca,.slice D nd cd,.slice B nb cb,.slice C nc cc] w (q1M g (sg s (a*b)) (d*c) w):=by
 have j:=ha.words;have k:=hb.words;have x:=ha.sm;have y:=hb.sm;have q:qj (sg s (a*b)=0):=vv (by have:a*b=0:=(by rcases h0 with h|h<;>simp [h]);rw[this];cases s<;>rfl);have r:=vv (k0j hd0 hc0);have p:qj (qh qb 214 #[.pointer (qc ⟨g,0,qa⟩),.bool qi,.slice qa 0 0,.slice (qc ⟨w.heap.size,0,qa⟩) 1 1] (w.alloc (.cells #[.int .u32 1] 54)) (q1M g (sg s (a*b)) (d*c) w)):=by have l:qe w.heap.size w (w.alloc (.cells #[.int .u32 1] 54)):=(qf _ _).alloc lr _;have t:Own (w.alloc (.cells #[.int .u32 1] 54)) w.heap.size 54 [1]:=Own.lit _ (q0u.2 ⟨by omega,q0D⟩) (by simp [q0o]);refine vv ((q9L g qi qa (qc ⟨w.heap.size,0,qa⟩) 0 0 1 1 [] [1] _ (h.below l) (Rd.nil _) (t.rd rfl lr (by omega)) (by decide) (fun a e=>by cases e) (fun a e=>by cases e;rfl) (hst.fs (Fs.of_nil l)) (by omega) (by omega)).mono ?_);rintro e z ⟨u,f,i⟩;refine⟨u,?_,i.after l⟩;rw[q.o];exact f.cross r.o (by simp [sg,val])
 clear ha hb hd0 hc0 hst h;rcases h0 with rfl|⟨ha,rfl⟩
 ·obtain rfl:na=0:=j.symm;clear j k;go_enter func298,ntmps298;go_wp2_with fail;refine p.o.mono ?_;rintro e v ⟨rfl,f,i⟩;have m:=vv f;go_wp2;go_ret;exact⟨rfl,m.o,i⟩
 ·obtain rfl:nb=0:=k.symm;have E:((na:Int)==0)=qi:=by have:=q06 (n:=a);simp;omega
  clear j k ha;go_enter func298,ntmps298;go_wp2_with fail;refine p.o.mono ?_;rintro e v ⟨rfl,f,i⟩;have m:=vv f;go_wp2;go_ret;exact⟨rfl,m.o,i⟩
theorem q3p(g:Nat)(s:Bool)(A D B C:Option Addr)(na ca nd cd nb cb nc cc a d b c:Nat)(w:qg)(h:RatSh w g)(ha:Rd w A na ca (toL a))(hd:Rd w D nd cd (toL d))(hb:Rd w B nb cb (toL b))(hc:Rd w C nc cc (toL c))(hd0:0<d)(hc0:0<c)
  (had:Nat.gcd a d=1) (hbc:Nat.gcd b c=1) (ha0:0<a) (hb0:0<b) (hst:Std w) (sa:Sz a) (sd:Sz d) (sb:Sz b) (sc:Sz c) :
  qh qb 298 #[.pointer (qc ⟨g,0,qa⟩),.bool s,.slice A na ca,.slice D nd cd,.slice B nb cb,.slice C nc cc] w (q1M g (sg s (a*b)) (d*c) w):=by
 have a6:=ha.words;have a7:=hb.words;have b4:=ha.sz sa;have b5:=hb.sz sb;have b6:=hc.sz sc;have b7:=hd.sz sd;have t0:((na:Int)==0)=qi:=by have:=q06 (n:=a);simp;omega
 have t1:((nb:Int)==0)=qi:=by have:=q06 (n:=b);simp;omega
 have S:=vv (q7t hd0 hc0 had hbc ha0 hb0);have N:=vv (q0g (n:=a) hc0);have F:=vv (q0g (n:=b) hd0);have HM:=vv (k0j hd0 hc0);have T:qj (0<d/Nat.gcd b d*(c/Nat.gcd a c)):=vv (k0j (k1i (k13 hd0 (k0y _ _)) F.o) (k1i (k13 hc0 (k0y _ _)) N.o));have U:=vv hst;have HH:=vv h;obtain⟨v,hv⟩:=h.int;have HV:=vv hv;have O:=vv ha;have P:=vv hb;have Q:=vv hc;have R:=vv hd;clear h ha hb hc hd hd0 hc0 had hbc ha0 hb0 hst hv a6 a7 sa sb sc sd;go_enter func298,ntmps298;go_wp2_with fail;refine(q1D A C na nc ca cc a c w O.o Q.o U.o (by omega) (by omega)).mono ?_;rintro e w1 ⟨G1,g1,k1,rfl,V,b8,W⟩;have p:=vv W;have i:=vv V;clear V W;go_wp2_with fail;refine(q1D B D nb nd cb cd b d _ (P.o.below p.o rfl) (R.o.below p.o rfl) (U.o.fs (Fs.of_nil p.o)) (by omega) (by omega)).mono ?_;rintro e w2 ⟨G2,g2,k2,rfl,X,b9,G⟩;have Y:=vn p G;have i:=vv (i.o.below G rfl);have k:=vv X;clear X G;go_wp2_with fail;refine(by_ A G1 na g1 ca k1 a _ _ (O.o.below Y.o rfl) i.o N.o (by omega)).mono ?_;rintro e w3 ⟨A3,n3,c3,rfl,H,-,q⟩;have Z:=vn Y q;have i:=vv (i.o.below q rfl);have k:=vv (k.o.below q rfl);have c0:=H.le_of O.o (k0e _ _);have r:=vv H;clear H q;go_wp2_with fail;refine(by_ B G2 nb g2 cb k2 b _ _ (P.o.below Z.o rfl) k.o F.o (by omega)).mono ?_;rintro e w4 ⟨A4,n4,c4,rfl,I,-,m⟩;have a8:=vn Z m;have i:=vv (i.o.below m rfl);have k:=vv (k.o.below m rfl);have r:=vv (r.o.below m rfl);have c1:=I.le_of P.o (k0e _ _);have a0:=vv I;clear I m;go_wp2_with fail;refine(mulWords A3 A4 n3 n4 c3 c4 _ _ _ r.o a0.o (by omega)).mono ?_;rintro e w5 j;obtain⟨A5,n5,c5,rfl,a1,a9,t⟩:=j.val2;have a2:=vn a8 t;have i:=vv (i.o.below t rfl);have k:=vv (k.o.below t rfl);have l:=vv a1;clear a1 t j r a0;go_wp2_with fail;refine(by_ D G2 nd g2 cd k2 d _ _ (R.o.below a2.o rfl) k.o F.o (by omega)).mono ?_;rintro e w6 ⟨A6,n6,c6,rfl,J,-,u⟩;have a3:=vn a2 u;have i:=vv (i.o.below u rfl);have l:=vv (l.o.below u rfl);have c2:=J.le_of R.o (k0e _ _);have y:=vv J;clear J u;go_wp2_with fail;refine(by_ C G1 nc g1 cc k1 c _ _ (Q.o.below a3.o rfl) i.o N.o (by omega)).mono ?_;rintro e w7 ⟨A7,n7,c7,rfl,K,-,z⟩;have b0:=vn a3 z;have l:=vv (l.o.below z rfl);have y:=vv (y.o.below z rfl);have c9:=K.le_of Q.o (k0e _ _);have a4:=vv K;clear K z;go_wp2_with fail;refine(mulWords A6 A7 n6 n7 c6 c7 _ _ _ y.o a4.o (by omega)).mono ?_;rintro e w8 j;obtain⟨A8,n8,c8,rfl,a5,b1,L⟩:=j.val2;have E:=vn b0 L;have l:=vv (l.o.below L rfl);have M:=vv (a5.den T.o (fun a e=>(b1 a e).2));clear a5 L j y a4;go_wp2_with fail;refine(set_of g 0 v (sg s (a/Nat.gcd a c*(b/Nat.gcd b d))) _ A5 n5 c5 _ _ (HV.o.below E.o) l.o (fun a e=>(a9 a e).2) (q0v _ _) (q1l _ _)).mono ?_;rintro e w9 j;have j:=j.f (HV.o.below E.o);have HN:=vv ((HH.o.below E.o).num j);have HF:=vv (j.2.2.after E.o);have M:=vv (M.o.fs j.2.2);obtain⟨rfl,-,-⟩:=j;obtain⟨hi,x,hx⟩:=HN.o;have b3:=hi.lt;have d0:=hi.fz 2;have HI:=vv hi;have b2:=vv hx;clear hi;go_wp2;go_ret;refine⟨rfl,RatAt.made HI.o ⟨x,b2.o⟩ M.o HM.o T.o (by rw[q0v];exact S.o.1) ?_,fs3 (HF.o.trans (Fs.set2 HI.o _))⟩;have:=k0v (Nat.cast:Nat->Int) S.o.2;rw[k07,k07 (a*b)] at this;cases s
 ·exact this
 ·show -((a/Nat.gcd a c*(b/Nat.gcd b d):Nat):Int)*_ = -((a*b:Nat):Int)*_;rw[k0N,k0N,this]
theorem q4M(g:Nat)(s:Bool)(A D B C:Option Addr)(na ca nd cd nb cb nc cc a d b c:Nat)(w:qg)(h:RatSh w g)(ha:Rd w A na ca (toL a))(hd:Rd w D nd cd (toL d))(hb:Rd w B nb cb (toL b))(hc:Rd w C nc cc (toL c))(hd0:0<d)(hc0:0<c)
  (had:Nat.gcd a d=1) (hbc:Nat.gcd b c=1) (hst:Std w) (sa:Sz a) (sd:Sz d) (sb:Sz b) (sc:Sz c) :
  qh qb 298 #[.pointer (qc ⟨g,0,qa⟩),.bool s,.slice A na ca,.slice D nd cd,.slice B nb cb,.slice C nc cc] w (q1M g (sg s (a*b)) (d*c) w):=by
 rcases k01 a with e|e
 ·exact q1O g s A D B C na ca nd cd nb cb nc cc a d b c w h ha hb hd0 hc0 (.inl e) hst
 rcases k01 b with f|f
 ·exact q1O g s A D B C na ca nd cd nb cb nc cc a d b c w h ha hb hd0 hc0 (.inr ⟨e,f⟩) hst
 exact q3p g s A D B C na ca nd cd nb cb nc cc a d b c w h ha hd hb hc hd0 hc0 had hbc e f hst sa sd sb sc
end A
namespace A
open AB
open Go Go.RowKit
theorem MulR(g gx gy:Nat)(p q:Int)(d e':Nat)(w:qg)(h:RatSh w g)(hx:RatAt w gx p d)(hy:RatAt w gy q e')(hst:Std w)(sp:Sz p.natAbs)(sd:Sz d)(sq:Sz q.natAbs)(se:Sz e'):qh qb 230 #[.pointer (qc ⟨g,0,qa⟩),.pointer (qc ⟨gx,0,qa⟩),.pointer (qc ⟨gy,0,qa⟩)] w (q1M g (p*q) (d*e') w):=by
 have r:=hx.lt;have t:=hy.lt;have u:=vv hx;have x:=vv hy;have HH:=vv h;have W:=vv hst;have HP:=vv sp;have HQ:=vv sq;have HD:=vv sd;have HE:=vv se;obtain⟨A,n,c,I,J,U,L⟩:=hx.num.ex;obtain⟨B,m,M,N,O,y,X⟩:=hy.num.ex;have HA:=vv U;have HB:=vv y;clear h hx hy hst sp sd sq se U y L X;have fin:∀(s:Bool) a z C b D E F,(qd (lp p d<0) != qd (lp q e'<0))=s->qe w.heap.size w a->Rd a z C b (toL (ld p d))->Rd a D E F (toL (ld q e')) ->qh qb 298 #[.pointer (qc ⟨g,0,qa⟩),.bool s,.slice A n c,.slice z C b,.slice B m M,.slice D E F] a (q1M g (p*q) (d*e') w):=by
  intro s a z C b D E F y j ha hb;refine(q4M g s A z B D n c C b m M E F _ _ _ _ a (HH.o.below j) (HA.o.below j rfl) ha (HB.o.below j rfl) hb (q0R u.o.pos) (q0R x.o.pos) (q1w u.o.pos) (q1w x.o.pos) (W.o.fs (Fs.of_nil j)) (HP.o.mono (q1H _ _)) (HD.o.mono (q1Q _ _)) (HQ.o.mono (q1H _ _)) (HE.o.mono (q1Q _ _))).mono ?_;rintro e l ⟨he,P,Q⟩;refine⟨he,P.cross (k0j u.o.pos x.o.pos) ?_,Q.after j⟩;have e0:sg s ((lp p d).natAbs*(lp q e').natAbs)=lp p d*lp q e':=by
   have V:=q4Q (lp p d*lp q e');rw[q2E,y,k0B] at V
   conv=>rhs;rw[<- V]
   by_cases L:0<(lp p d).natAbs*(lp q e').natAbs
   ·rw[k03 L,Bool.and_true]
   ·have:(lp p d).natAbs*(lp q e').natAbs=0:=by omega
    rw[this];cases s<;>rfl
  rw[e0];have R:=q0q p d;have b:=q0q q e';simp only[k07]
  calc lp p d*lp q e'*(↑d*↑e')=(lp p d*d)*(lp q e'*e'):=by grind
   _=(p*ld p d)*(q*ld q e'):=by rw[R,b]
   _=_:=by grind
 have Y:=vv fin;clear fin;go_enter func230,ntmps230;go_wp2_with fail;refine q02 (fun l=>l.cell? ⟨gx,0,qa⟩=qc (.bool (qd (lp p d<0)))/\l.cell? ⟨gx,1,qa⟩=qc (.slice A n c)/\l.cell? ⟨gy,0,qa⟩=qc (.bool (qd (lp q e'<0)))/\l.cell? ⟨gy,1,qa⟩=qc (.slice B m M)) 26
  (.still 0 (.still 1 (.still 2 (.still 3 (.still 4 (.still 5 (.still 6 (.still 7 (.still 8 (.still 9 (.still 10 (.still 11 (.still 12 (.still 13 (.still 14 (.still 15 (.still 16 (.still 17 (.still 19 (.still 20 (.still 21 (.still 22 (.still 23 (.still 24 (.one 18 (.one 25 .done)))))))))))))))))))))))))) (by kernel_rfl) (by kernel_rfl) (fun _ _ d _ _ h=>by cases d<;>exact h) ⟨I,J,N,O⟩ (fun hS0=>?_)
 iterate 24
  refine q00 (v:=?_) rfl (by rfl) ?_ ?_;rotate_left
  ·intro w a1;go_simp;with_reducible rfl
  simp only[Act.put,sa,sb,sc]
 refine q03 rfl (by rfl) (fun K hK=>?_);go_simp;refine(below gx _ _ _ u.o.drew).mono ?_;rintro e w1 ⟨A1,n1,R,rfl,S,a2,f⟩;have G:=vv S;have i:qj (qe w.heap.size w w1):=vv ⟨f.os,f.tape,f.output,f.size,f.block⟩;clear S f;go_wp2_with fail;refine hK.out _ _ ⟨(i.o.cell (p:=⟨gx,0,qa⟩) r).trans I,(i.o.cell (p:=⟨gx,1,qa⟩) r).trans J,(i.o.cell (p:=⟨gy,0,qa⟩) t).trans N,(i.o.cell (p:=⟨gy,1,qa⟩) t).trans O⟩ (fun Z=>?_);clear hK;refine q03 rfl (by rfl) (fun K hK=>?_);go_simp;refine(below gy _ _ _ (x.o.below i.o)).mono ?_;rintro e a ⟨A2,n2,b,rfl,T,a3,H⟩;have a0:=vv T;have G:=vv (G.o.below H rfl);have k:=vn i H;clear T H;go_wp2_with fail;refine hK.out _ _ ⟨(k.o.cell (p:=⟨gx,0,qa⟩) r).trans I,(k.o.cell (p:=⟨gx,1,qa⟩) r).trans J,(k.o.cell (p:=⟨gy,0,qa⟩) t).trans N,(k.o.cell (p:=⟨gy,1,qa⟩) t).trans O⟩ (fun Z=>?_);clear hK;refine q07 ?_;go_wp2_with fail;refine(Y.o _ a A1 n1 R A2 n2 b rfl k.o G.o a0.o).mono ?_;rintro e w3 ⟨rfl,P,Q⟩;have HR:=vv P;go_wp2;go_ret;exact⟨rfl,HR.o,Q⟩
end A
namespace A
open AB
open Go Go.RowKit
theorem qcu(g gx gy:Nat)(m n:Int)(P Q:Nat)(w:qg)(h:RatSh w g)(hx:RatAt w gx m P)(hy:RatAt w gy n Q)(hm:Nat.gcd m.natAbs P=1)(hn:Nat.gcd n.natAbs Q=1)(hst:Std w)(sp:Sm m.natAbs)(sd:Sm P)(sq:Sm n.natAbs)(se:Sm Q):qh qb 221 #[.pointer (qc ⟨g,0,qa⟩),.pointer (qc ⟨gx,0,qa⟩),.pointer (qc ⟨gy,0,qa⟩),.bool true] w (q1M g (m*Q-n*P) (P*Q) w):=by
 have S:=hx.lt;have z:=hy.lt;have HX:=vv hx;have HY:=vv hy;have HH:=vv h;have e5:=vv hst;have HM:=vv hm;have HN:=vv hn;obtain⟨i1,i2⟩:=q1f hx.pos hm;obtain⟨i3,i4⟩:=q1f hy.pos hn;have Z:=vv hx.pos;have d1:=vv hy.pos;have M:=vv (q0g (n:=P) hy.pos);have HL:=vv fun s F=>q4z (m:=m) (n:=-n) (s:=s) hx.pos hy.pos hm (by rw[k22];exact hn) F
 have e6:=hx.num;have e7:=hy.num;rw[i1] at e6;rw[i3] at e7;obtain⟨A,na,ca,h0,h1,hr,hz⟩:=e6.ex;obtain⟨B,nb,cb,k0,k1,F,l1⟩:=e7.ex;have HA:=vv hr;have HB:=vv F;have o4:=hr.sz sp.sz;have o5:=F.sz sq.sz;have C:=vv (below gx m P w hx);have i5:=vv fun w' (hb:qe w.heap.size w w')=>below gy n Q w' (hy.below hb)
 rw[i2] at C;rw[i4] at i5;have l2:=vv sd.sz;have l3:=vv se.sz;have W:qj (Sz (m*(Q/Nat.gcd P Q:Nat)).natAbs/\Sz (-n*(P/Nat.gcd P Q:Nat)).natAbs/\Sz (m*(Q/Nat.gcd P Q:Nat) + -n*(P/Nat.gcd P Q:Nat)).natAbs):=by
  have O:(m*(Q/Nat.gcd P Q:Nat)).natAbs<=m.natAbs*Q:=by rw[k0B,k05];exact k0g _ (k0e _ _)
  have a2:(-n*(P/Nat.gcd P Q:Nat)).natAbs<=n.natAbs*P:=by rw[k0B,k05,k22];exact k0g _ (k0e _ _)
  refine vv ⟨(sp.mul se).mono O,(sq.mul sd).mono a2,?_⟩;have a3:=Int.natAbs_add_le (m*(Q/Nat.gcd P Q:Nat)) (-n*(P/Nat.gcd P Q:Nat));refine Sz.mono (b:=m.natAbs*Q+n.natAbs*P) ?_ (by omega);have R:=q0n m.natAbs Q;have b2:=q0n n.natAbs P;have b3:=q2P (m.natAbs*Q) (n.natAbs*P);unfold Sm at sp sd sq se;unfold Sz;omega
 obtain⟨v,hv⟩:=h.int;have HV:=vv hv;clear h hx hy hst sp sd sq se hr F hz l1 hm hn i1 i2 i3 i4 e6 e7 hv;go_enter func221,ntmps221;go_wp2_with fail;refine C.o.mono ?_;rintro e w1 ⟨A1,n1,c1,rfl,e8,i6,i7⟩;have o6:=e8.sz l2.o;have i:=vv e8;have i8:=vv i7;have d2:=vv i6;clear e8 i7 i6;go_wp2_with fail;refine(i5.o _ i8.o).mono ?_;rintro e w2 ⟨A2,n2,c2,rfl,e9,i9,f0⟩;have o7:=e9.sz l3.o;have j:=vv e9;have i:=vv (i.o.below f0 rfl);have j0:=vn i8 f0;have d3:=vv i9;clear e9 f0 i9;go_wp2_with fail;refine(q1D A1 A2 n1 n2 c1 c2 P Q w2 i.o j.o (e5.o.fs (Fs.of_nil j0.o)) (by omega) (by omega)).mono ?_;rintro e k ⟨G,n3,c3,rfl,hG,j1,d4⟩;have o8:=hG.le_of i.o (Nat.gcd_le_left _ Z.o);have d5:qj (∀a,G=qc a->a.off=0):=vv fun a e=>(j1 a e).2
 have l:=vv hG;have i:=vv (i.o.below d4 rfl);have j:=vv (j.o.below d4 rfl);have j2:=vn j0 d4;have l4:=j2.o.size;clear hG d4 j1;obtain⟨o,ho⟩:∃o:Obj,o=.cells #[.bool qi,.slice qa 0 0] 142:=⟨_,rfl⟩;have f1:qe k.heap.size k (k.alloc o):=(qf _ k).alloc lr _;have f2:qe (k.alloc o).heap.size (k.alloc o) ((k.alloc o).alloc o):=(qf _ (k.alloc o)).alloc lr _;have j3:(k.alloc o).heap.size=k.heap.size+1:=by simp
 have j4:IntAt (k.alloc o) k.heap.size 0 0:=by rw[ho];exact IntAt.zero k _
 have j5:IntAt ((k.alloc o).alloc o) (k.heap.size+1) 0 0:=by rw[<- j3,ho];exact IntAt.zero _ _
 obtain⟨wx,b9⟩:=yx ((k.alloc o).alloc o);have a5:qe k.heap.size k wx:=by rw[b9];exact f1.trans (f2.mono f1.size)
 have q:=vv (j4.below f2);have r:=vv j5;rw[<- b9] at q r;have i:=vv (i.o.below a5 rfl);have j:=vv (j.o.below a5 rfl);have l:=vv (l.o.below a5 rfl);have C:=vn j2 a5;have j6:wx.heap.size=k.heap.size+1+1:=by rw[b9];simp
 have l5:=vv b9;have HO:=vv ho;have o9:=vv j6;have Y:=(C.o.cell (p:=⟨gx,0,qa⟩) S).trans h0;have O:=(C.o.cell (p:=⟨gx,1,qa⟩) S).trans h1;have V:=(C.o.cell (p:=⟨gy,0,qa⟩) z).trans k0;have R:=(C.o.cell (p:=⟨gy,1,qa⟩) z).trans k1;have n6:gx<wx.heap.size:=k02 S C.o.size;have f9:gy<wx.heap.size:=k02 z C.o.size;clear f1 f2 j3 j4 j5 a5 b9 ho j6;go_wp2_with fail;rw[<- HO.o,<- l5.o];refine q02 (fun w'=>w'.cell? ⟨gx,0,qa⟩=qc (.bool (qd (m<0)))/\w'.cell? ⟨gx,1,qa⟩=qc (.slice A na ca)) 15
  (.still 0 (.still 1 (.still 2 (.still 3 (.still 4 (.still 5 (.still 6 (.still 7 (.still 8 (.still 9 (.still 10 (.still 11 (.still 12 (.one 13 (.one 14 .done))))))))))))))) (by kernel_rfl) (by kernel_rfl) (fun _ _ d _ _ h=>by cases d<;>exact h) ⟨Y,O⟩ (fun hS0=>?_)
 iterate 13
  refine q00 (v:=?_) rfl (by rfl) ?_ ?_;rotate_left
  ·intro w j7;go_simp;with_reducible rfl
  simp only[Act.put,sa,sb,sc]
 refine q03 rfl (by rfl) (fun K hK=>?_);go_simp;refine(by_ A2 G n2 n3 c2 c3 Q _ _ j.o.drew l.o.drew M.o (by omega)).mono ?_;rintro e w4 ⟨A4,n4,c4,rfl,f3,-,u⟩;have u:qe wx.heap.size wx w4:=⟨u.os,u.tape,u.output,u.size,u.block⟩;have p0:=f3.le_of j.o (k0e _ _);have l6:=vv f3;have i:=vv (i.o.below u rfl);have j:=vv (j.o.below u rfl);have l:=vv (l.o.below u rfl);have q:=vv (q.o.below u);have r:=vv (r.o.below u);have d6:=vn C u;have Y:=(d6.o.cell (p:=⟨gx,0,qa⟩) S).trans h0;have O:=(d6.o.cell (p:=⟨gx,1,qa⟩) S).trans h1;clear f3 u;go_wp2_with fail;refine hK.out _ _ ⟨Y,O⟩ (fun a4=>?_);clear hK;refine q03 rfl (by rfl) (fun K hK=>?_);go_simp;refine(mulWords A A4 na n4 ca c4 _ _ _ (HA.o.below d6.o rfl) l6.o (by omega)).mono ?_;rintro e w5 c;obtain⟨A5,n5,c5,rfl,j8,l7,T⟩:=c.val2;have l8:=vv j8;have i:=vv (i.o.below T rfl);have j:=vv (j.o.below T rfl);have l:=vv (l.o.below T rfl);have q:=vv (q.o.below T);have r:=vv (r.o.below T);have d7:=vn d6 T;have Y:=(d7.o.cell (p:=⟨gx,0,qa⟩) S).trans h0;have O:=(d7.o.cell (p:=⟨gx,1,qa⟩) S).trans h1;clear j8 T c;go_wp2_with fail;refine hK.out _ _ ⟨Y,O⟩ (fun a4=>?_);clear hK;refine q07 ?_;go_wp2_with fail;refine(set_of _ 0 0 (m*(Q/Nat.gcd P Q:Nat)) _ A5 n5 c5 _ _ q.o l8.o (fun a e=>(l7 a e).2) (by rw[k0B,k05]) (by rw[q2E,k05,k00 (p:=((Q/Nat.gcd P Q:Nat):Int)<0) (Int.not_lt.2 (k0f _))];cases qd (m<0)<;>rfl)).mono ?_;rintro e w6 c;have c:=c.f q.o;have q:=vv c.2.1;have r:=vv (r.o.fs1 c.2.2 (by omega));have i:=vv (i.o.fs d2.o c.2.2);have j:=vv (j.o.fs d3.o c.2.2);have l:=vv (l.o.fs d5.o c.2.2);have d8:=vv (c.below d7.o d7.o.size l4);obtain⟨rfl,-,-⟩:=c;have V:=(d8.o.cell (p:=⟨gy,0,qa⟩) z).trans k0;have R:=(d8.o.cell (p:=⟨gy,1,qa⟩) z).trans k1;have f9:gy<w6.heap.size:=k02 z d8.o.size;go_wp2_with fail;refine q02 (fun w'=>w'.cell? ⟨gy,0,qa⟩=qc (.bool (qd (n<0)))/\w'.cell? ⟨gy,1,qa⟩=qc (.slice B nb cb)) 17
  (.still 0 (.still 1 (.still 2 (.still 3 (.still 4 (.still 5 (.still 6 (.still 7 (.still 8 (.still 9 (.still 10 (.still 11 (.still 12 (.still 13 (.still 14 (.one 15 (.one 16 .done))))))))))))))))) (by kernel_rfl) (by kernel_rfl) (fun _ _ d _ _ h=>by cases d<;>exact h) ⟨V,R⟩ (fun hS0=>?_)
 iterate 15
  refine q00 (v:=?_) rfl (by rfl) ?_ ?_;rotate_left
  ·intro w j7;go_simp;with_reducible rfl
  simp only[Act.put,sa,sb,sc]
 refine q03 rfl (by rfl) (fun K hK=>?_);go_simp;refine(by_ A1 G n1 n3 c1 c3 P _ _ i.o.drew l.o.drew M.o (by omega)).mono ?_;rintro e w7 ⟨A7,n7,c7,rfl,f4,-,y⟩;have y:qe w6.heap.size w6 w7:=⟨y.os,y.tape,y.output,y.size,y.block⟩;have p1:=f4.le_of i.o (k0e _ _);have l9:=vv f4;have i:=vv (i.o.below y rfl);have j:=vv (j.o.below y rfl);have l:=vv (l.o.below y rfl);have q:=vv (q.o.below y);have r:=vv (r.o.below y);have d9:=vn d8 y;have V:=(d9.o.cell (p:=⟨gy,0,qa⟩) z).trans k0;have R:=(d9.o.cell (p:=⟨gy,1,qa⟩) z).trans k1;clear f4 y;go_wp2_with fail;refine hK.out _ _ ⟨V,R⟩ (fun a4=>?_);clear hK;refine q03 rfl (by rfl) (fun K hK=>?_);go_simp;refine(mulWords B A7 nb n7 cb c7 _ _ _ (HB.o.below d9.o rfl) l9.o (by omega)).mono ?_;rintro e w8 c;obtain⟨A8,n8,c8,rfl,j9,m0,U⟩:=c.val2;have m1:=vv j9;have i:=vv (i.o.below U rfl);have j:=vv (j.o.below U rfl);have l:=vv (l.o.below U rfl);have q:=vv (q.o.below U);have r:=vv (r.o.below U);have e0:=vn d9 U;have V:=(e0.o.cell (p:=⟨gy,0,qa⟩) z).trans k0;have R:=(e0.o.cell (p:=⟨gy,1,qa⟩) z).trans k1;clear j9 U c;go_wp2_with fail;refine hK.out _ _ ⟨V,R⟩ (fun a4=>?_);clear hK;refine q07 ?_;go_wp2_with fail;refine(set_of _ 0 0 (-n*(P/Nat.gcd P Q:Nat)) _ A8 n8 c8 _ _ r.o m1.o (fun a e=>(m0 a e).2) (by rw[k0B,k05,k22]) ?_).mono ?_
 ·rw[k0N,sg_neg,q2E,k0B,k05,k00 (p:=((P/Nat.gcd P Q:Nat):Int)<0) (Int.not_lt.2 (k0f _))];cases qd (n<0)<;>cases qd (0<n.natAbs*(P/Nat.gcd P Q))<;>rfl
 rintro e w9 c;have c:=c.f r.o;have r:=vv c.2.1;have q:=vv (q.o.fs1 c.2.2 (by omega));have i:=vv (i.o.fs d2.o c.2.2);have j:=vv (j.o.fs d3.o c.2.2);have l:=vv (l.o.fs d5.o c.2.2);have k2:=vv (c.below e0.o e0.o.size (by omega));obtain⟨rfl,-,-⟩:=c;clear Y O V R;go_wp2_with fail;refine(Add _ 0 _ 0 _ 0 _ _ _ _ q.o q.o r.o W.o.1 W.o.2.1).mono ?_;rintro e X c;have c:=c.f q.o;have q:=vv c.2.1;have i:=vv (i.o.fs d2.o c.2.2);have j:=vv (j.o.fs d3.o c.2.2);have l:=vv (l.o.fs d5.o c.2.2);have a8:=vv (c.below k2.o k2.o.size (by omega));obtain⟨rfl,-,-⟩:=c;obtain⟨s,F⟩:=yx (m*(Q/Nat.gcd P Q:Nat) + -n*(P/Nat.gcd P Q:Nat));have W:=vv W.o.2.2;have HL:=vv (HL.o s F);rw[<- F] at q W;have HS:=vv F;have D:=q.o.lt;have c0:=q.o;obtain⟨AS,ns,cs,I,J,e2,k3⟩:=c0.ex;have f5:=e2.words;have p2:=e2.sz W.o;have e3:=vv e2;have p3:=vv k3;clear F e2 k3 c0;rcases k01 ns with hz|n9
 ·subst hz;have k4:s=0:=by have:=q06.1 f5;omega
  have HF:qj (m*Q-n*P=0):=by
   refine vv ?_;have e1:=HL.o.2;rw[k4] at e1;have hp:(0:Int)<(P/Nat.gcd P Q*(Q/Nat.gcd (Int.natAbs 0) (Nat.gcd P Q)):Nat):=by have:0<P/Nat.gcd P Q*(Q/Nat.gcd (Int.natAbs 0) (Nat.gcd P Q)):=k0j (k1i (k13 Z.o (k15 _ _)) M.o) (by rw[k2f,k25];exact k1i (k13 d1.o (k0y _ _)) M.o);omega
   simp [sg] at e1;have:=Int.mul_eq_zero.1 e1.symm;rcases this with h|h
   ·rw[k20,<- k0N];exact h
   ·have h':((P/Nat.gcd P Q*(Q/Nat.gcd (Int.natAbs 0) (Nat.gcd P Q)):Nat):Int)=0:=by
     rw[k2f,k25]
     exact_mod_cast h
    omega
  clear k4 f5;have hB:qe X.heap.size X (X.alloc (.cells #[.int .u32 1] 54)):=(qf _ _).alloc lr _;have hO:Own (X.alloc (.cells #[.int .u32 1] 54)) X.heap.size 54 [1]:=Own.lit _ (q0u.2 ⟨by omega,q0D⟩) (by simp [q0o]);have f6:=vn a8 hB;have HO:=vv hO;clear hB hO;go_wp2_with fail;refine(q9L g qi qa (qc ⟨X.heap.size,0,qa⟩) 0 0 1 1 [] [1] _ (HH.o.below f6.o) (Rd.nil _) (HO.o.rd rfl lr (by omega)) (by decide) (fun a e=>by cases e) (fun a e=>by cases e;rfl) (e5.o.fs (Fs.of_nil f6.o)) (by omega) (by omega)).mono ?_;rintro e e4 ⟨rfl,hR,hF⟩;have HR:=vv hR;go_wp2;go_ret;refine⟨rfl,?_,hF.after f6.o⟩;rw[HF.o];exact HR.o.cross (k0j Z.o d1.o) (by simp [sg,val])
 ·have p4:((ns:Int)==0)=qi:=by simp;omega
  clear f5;go_wp2_with fail;refine(q1D AS G ns n3 cs c3 _ _ _ e3.o l.o (e5.o.fs (Fs.of_nil a8.o)) (by omega) (by omega)).mono ?_;rintro e e4 ⟨H,k5,k6,rfl,f7,k7,L⟩;have o0:=f7.le_of l.o (Nat.gcd_le_right _ M.o);have E:=vv f7;have m2:qj (∀a,H=qc a->a.off=0):=vv fun a e=>(k7 a e).2
  have f8:=vv (q0g (n:=s.natAbs) M.o);have e3:=vv (e3.o.below L rfl);have i:=vv (i.o.below L rfl);have j:=vv (j.o.below L rfl);have l:=vv (l.o.below L rfl);have I:=(L.cell (p:=⟨k.heap.size,0,qa⟩) D).trans I;have J:=(L.cell (p:=⟨k.heap.size,1,qa⟩) D).trans J;have D:k.heap.size<e4.heap.size:=k02 D L.size;have g0:=vn a8 L;clear f7 k7 L;go_wp2_with fail;refine q02 (fun w'=>w'.cell? ⟨k.heap.size,0,qa⟩=qc (.bool (qd (s<0)))/\w'.cell? ⟨k.heap.size,1,qa⟩=qc (.slice AS ns cs)) 14
   (.still 0 (.still 1 (.still 2 (.still 3 (.still 4 (.still 5 (.still 6 (.still 7 (.still 8 (.still 9 (.still 10 (.still 11 (.one 12 (.one 13 .done)))))))))))))) (by kernel_rfl) (by kernel_rfl) (fun _ _ d _ _ h=>by cases d<;>exact h) ⟨I,J⟩ (fun hS0=>?_)
  iterate 12
   refine q00 (v:=?_) rfl (by rfl) ?_ ?_;rotate_left
   ·intro w j7;go_simp;with_reducible rfl
   simp only[Act.put,sa,sb,sc]
  refine q03 rfl (by rfl) (fun K hK=>?_);go_simp;refine(by_ AS H ns k5 cs k6 _ _ _ e3.o.drew E.o.drew f8.o (by omega)).mono ?_;rintro e k8 ⟨p5,k9,p6,rfl,c6,-,t⟩;have t:qe e4.heap.size e4 k8:=⟨t.os,t.tape,t.output,t.size,t.block⟩;have a9:=vv c6;have i:=vv (i.o.below t rfl);have j:=vv (j.o.below t rfl);have l:=vv (l.o.below t rfl);have E:=vv (E.o.below t rfl);have I:=(t.cell (p:=⟨k.heap.size,0,qa⟩) D).trans I;have J:=(t.cell (p:=⟨k.heap.size,1,qa⟩) D).trans J;have D:k.heap.size<k8.heap.size:=k02 D t.size;have g1:=vn g0 t;clear c6 t;go_wp2_with fail;refine hK.out _ _ ⟨I,J⟩ (fun a4=>?_);clear hK;refine q03 rfl (by rfl) (fun K hK=>?_);go_simp;refine(copied _ _ _ _ _ a9.o).mono ?_;rintro e p7 ⟨rfl,hO,N⟩;have g2:=vv (hO.rd a9.o.len.symm lr a9.o.sm);have i:=vv (i.o.below N rfl);have j:=vv (j.o.below N rfl);have l:=vv (l.o.below N rfl);have E:=vv (E.o.below N rfl);have I:=(N.cell (p:=⟨k.heap.size,0,qa⟩) D).trans I;have J:=(N.cell (p:=⟨k.heap.size,1,qa⟩) D).trans J;have a6:=vn g1 N;clear hO N;go_wp2_with fail;refine hK.out _ _ ⟨I,J⟩ (fun a4=>?_);clear hK;refine q07 ?_;go_wp2_with fail;refine(set_of g 0 v (sg (qd (s<0)) (s.natAbs/Nat.gcd s.natAbs (Nat.gcd P Q))) _ _ k9 k9 _ _ (HV.o.below a6.o) g2.o (fun a e=>by cases e;rfl) (q0v _ _) (q1l _ _)).mono ?_;rintro e p8 c;have c:=c.f (HV.o.below a6.o);have g3:=vv ((HH.o.below a6.o).num c);have HF:=vv (c.2.2.after a6.o);have i:=vv (i.o.fs d2.o c.2.2);have j:=vv (j.o.fs d3.o c.2.2);have l:=vv (l.o.fs d5.o c.2.2);have E:=vv (E.o.fs m2.o c.2.2);obtain⟨rfl,-,-⟩:=c;clear I J;go_wp2_with fail;refine(by_ A1 G n1 n3 c1 c3 P _ _ i.o l.o M.o (by omega)).mono ?_;rintro e p9 ⟨m3,m4,m5,rfl,b4,-,a7⟩;have o1:=b4.le_of i.o (k0e _ _);have b5:=vv b4;have j:=vv (j.o.below a7 rfl);have E:=vv (E.o.below a7 rfl);have g4:=vv a7;clear b4 a7;go_wp2_with fail;refine(by_ A2 H n2 k5 c2 k6 Q _ _ j.o E.o f8.o (by omega)).mono ?_;rintro e q0 ⟨m6,m7,m8,rfl,b6,-,b7⟩;have o2:=b6.le_of j.o (k0e _ _);have g5:=vv b6;have b5:=vv (b5.o.below b7 rfl);have g6:=vn g4 b7;clear b6 b7;go_wp2_with fail;refine(mulWords m3 m6 m4 m7 m5 m8 _ _ _ b5.o g5.o (by omega)).mono ?_;rintro e m9 c;obtain⟨q1,q2,q3,rfl,c9,g7,d0⟩:=c.val2;have b8:=vn g6 d0;have l0:qj (0<P/Nat.gcd P Q*(Q/Nat.gcd s.natAbs (Nat.gcd P Q))):=vv (k0j (k1i (k13 Z.o (k15 _ _)) M.o) (k1i (k13 d1.o (k2l (k0y _ _) (k0y _ _))) f8.o));have g8:=vv (c9.den l0.o (fun a e=>(g7 a e).2));clear c9 d0 c;obtain⟨hi,x,hx⟩:=g3.o;have g9:=(b8.o.cell (p:=⟨g,2,qa⟩) hi.lt).trans hx;have hi:=hi.below b8.o;have o3:=hi.lt;have q4:=hi.fz 2;have HI:=vv hi;have n0:=vv g9;have i0:qj (Fs [(g,0,2)] w m9):=vv ((HF.o.trans (Fs.of_nil b8.o)).drop (fun p hp _=>by simpa using hp) (fun p hp=>by simpa using hp));clear hi hx;go_wp2;go_ret;refine⟨rfl,RatAt.made HI.o ⟨x,n0.o⟩ g8.o (k0j Z.o d1.o) l0.o (by rw[q0v];exact HL.o.1) ?_,fs3 (i0.o.trans (Fs.set2 HI.o _))⟩;rw[HL.o.2,k0N,<- k20]
theorem SubR(g gx gy:Nat)(p q:Int)(d e':Nat)(w:qg)(h:RatSh w g)(hx:RatAt w gx p d)(hy:RatAt w gy q e')(hst:Std w)(sp:Sm p.natAbs)(sd:Sm d)(sq:Sm q.natAbs)(se:Sm e'):qh qb 131 #[.pointer (qc ⟨g,0,qa⟩),.pointer (qc ⟨gx,0,qa⟩),.pointer (qc ⟨gy,0,qa⟩)] w (q1M g (p*e'-q*d) (d*e') w):=by
 have a:qj ((lp p d*↑(ld q e')-lp q e'*↑(ld p d))*((d*e':Nat):Int)=(p*e'-q*d)*((ld p d*ld q e':Nat):Int)):=by
  have b:=q0q p d;have c:=q0q q e';refine vv ?_;simp only[k07]
  calc (lp p d*↑(ld q e')-lp q e'*↑(ld p d))*(↑d*↑e')=(lp p d*d)*↑(ld q e')*e'-(lp q e'*e')*↑(ld p d)*d:=by grind
   _=(p*ld p d)*↑(ld q e')*e'-(q*ld q e')*↑(ld p d)*d:=by rw[b,c]
   _=_:=by grind
 have f:=vv (k0j hx.pos hy.pos);have i:=vv (qcu g gx gy (lp p d) (lp q e') (ld p d) (ld q e') w h (hx.cross (q0R hx.pos) (q0q p d).symm) (hy.cross (q0R hy.pos) (q0q q e').symm) (q1w hx.pos) (q1w hy.pos) hst (sp.mono (q1H _ _)) (sd.mono (q1Q _ _)) (sq.mono (q1H _ _)) (se.mono (q1Q _ _)));clear h hx hy hst sp sd sq se;go_enter func131,ntmps131;go_wp2_with fail;refine i.o.mono ?_;rintro e m ⟨rfl,j,k⟩;have l:=vv j;go_wp2;go_ret;exact⟨rfl,l.o.cross f.o a.o,k⟩
end A
namespace A
open AB
open Go Go.RowKit
theorem q3F(p q:Int)(d e':Nat)(hd:0<d)(he:0<e')(h:p.sign≠q.sign\/p.sign=0):q20 (p*e') (q*d)=q20 p.sign q.sign:=by
 have b:(p*(e':Int)).sign=p.sign:=by rw[Int.sign_mul,k0o (a:=(e':Int)) (by omega),k2Q]
 have c:(q*(d:Int)).sign=q.sign:=by rw[Int.sign_mul,k0o (a:=(d:Int)) (by omega),k2Q]
 rw[<- b,<- c] at h ⊢;have k:∀A:Int,A<0/\A.sign = -1\/A=0/\A.sign=0\/0<A/\A.sign=1:=fun A=>by
  rcases k0L A 0 with a|a|a
  ·exact .inl ⟨a,k0H a⟩
  ·exact .inr (.inl ⟨a,by rw[a];rfl⟩)
  ·exact .inr (.inr ⟨a,k0o a⟩)
 have e:=k (p*(e':Int));have f:=k (q*(d:Int));clear b c k;generalize p*(e':Int)=A at *
 generalize q*(d:Int)=B at *
 unfold q20
 (repeat' split)<;>omega
theorem q75(p:Int):p.sign = -1\/p.sign=0\/p.sign=1:=by
 rcases k0L p 0 with a|a|a
 ·exact .inl (k0H a)
 ·rw[a];exact .inr (.inl rfl)
 ·exact .inr (.inr (k0o a))
theorem q5v(g gx:Nat)(p q:Int)(d e':Nat)(w:qg)(hx:RatAt w g p d)(hy:RatAt w gx q e')(h:p.sign≠q.sign\/p.sign=0):qh qb 205 #[.pointer (qc ⟨g,0,qa⟩),.pointer (qc ⟨gx,0,qa⟩)] w fun e w'=>e=.returned (.int .i64 (q20 (p*e') (q*d)))/\qe w.heap.size w w':=by
 have a:=vv (RSign g _ _ w hx);have b:=vv (RSign gx _ _ w hy);rw[q3F p q d e' hx.pos hy.pos h];have c:=q75 p;have f:=q75 q;obtain⟨s,i⟩:=yx (p.sign);obtain⟨t,j⟩:=yx (q.sign);rw[<- i] at a h c ⊢;rw[<- j] at b h f ⊢;clear i j hx hy;rcases c with rfl|rfl|rfl<;>rcases f with rfl|rfl|rfl<;>first|(exfalso;revert h;decide)|clear h;all_goals
  go_enter func205,ntmps205
  repeat
   go_wp2_with fail
   first
    | (refine a.o.mono ?_;rintro e w' ⟨rfl,rfl⟩)
    | (refine b.o.mono ?_;rintro e w' ⟨rfl,rfl⟩)
  go_wp2;go_ret;exact⟨rfl,qf _ _⟩
theorem q77(s:Bool)(a b d e':Nat):q20 (sg s a*e') (sg s b*d)=if s then -q0y (a*e') (b*d) else q0y (a*e') (b*d):=by
 cases s
 ·show q20 ((a:Int)*e') ((b:Int)*d)=q0y (a*e') (b*d);rw[<- k07,<- k07];unfold q20 q0y
  (repeat' split)<;>omega
 ·show q20 (-(a:Int)*e') (-(b:Int)*d) = -q0y (a*e') (b*d);rw[k0N,k0N,<- k07,<- k07];unfold q20 q0y
  (repeat' split)<;>omega
theorem q3t(s:Bool)(a d:Nat):(lp (sg s a) d).natAbs=(lp (a:Int) d).natAbs/\ld (sg s a) d=ld (a:Int) d:=⟨by rw[q2J,q2J,q0v,k05],by unfold ld;rw[q0v,k05]⟩
theorem q3s(s:Bool){a:Nat}(ha:0<a):(sg s a).sign=if s then -1 else 1:=by
 cases s
 ·exact k0o (a:=(a:Int)) (by omega)
 ·exact k0H (a:=-(a:Int)) (by omega)
theorem q4b(s:Bool){a:Nat}(ha:0<a):qd (sg s a<0)=s:=by
 cases s
 ·exact k00 (by show ¬(a:Int)<0;omega)
 ·exact k03 (by show -(a:Int)<0;omega)
theorem q3E(g gx:Nat)(s:Bool)(a b d e':Nat)(w:qg)(hx:RatAt w g (sg s a) d)(hy:RatAt w gx (sg s b) e')(ha:0<a)(hb:0<b)(sa:Sz a)(sd:Sz d)(sb:Sz b)(se:Sz e'):qh qb 205 #[.pointer (qc ⟨g,0,qa⟩),.pointer (qc ⟨gx,0,qa⟩)] w fun e w'=>e=.returned (.int .i64 (q20 (sg s a*e') (sg s b*d)))/\qe w.heap.size w w':=by
 have D:=vv (RSign g _ _ w hx);have M:=vv (RSign gx _ _ w hy);rw[q3s s ha] at D;rw[q3s s hb] at M;have f:=hx.lt;have u:=hy.lt;have N:=vv fun w' (h:RatAt w' g (sg s a) d)=>below g _ _ w' h
 have O:=vv fun w' (h:RatAt w' gx (sg s b) e')=>below gx _ _ w' h
 obtain⟨U,V⟩:=q3t s a d;obtain⟨W,X⟩:=q3t s b e';rw[V] at N;rw[X] at O;have a0:=vv hx;have a1:=vv hy;obtain⟨A,n,c,Y,q,E,hz⟩:=hx.num.ex;obtain⟨B,m,Z,k0,r,F,a2⟩:=hy.num.ex;rw[show qd (lp (sg s a) d<0)=s from(k2s.2 (q2c hx.pos)).trans (q4b s ha)] at Y;rw[U] at E;rw[W] at F;have hn:=E.sz (sa.mono (q1H a d));have hm:=F.sz (sb.mono (q1H b e'));have HA:=vv E;have HB:=vv F;have a3:=vv sd;have a4:=vv se;have HZ:=vv (q77 s a b d e');have HR:qj (q0y ((lp a d).natAbs*ld b e') ((lp b e').natAbs*ld a d)=q0y (a*e') (b*d)):=by
  refine vv ?_;have e1:=q2e ha hx.pos;have e2:=q2e hb hy.pos;have f1:ld a d*a=d*(lp a d).natAbs:=by have:=e1.2.1;exact_mod_cast this
  have f2:ld b e'*b=e'*(lp b e').natAbs:=by have:=e2.2.1;exact_mod_cast this
  rw[<- q21 (d*e') _ _ (k0j hx.pos hy.pos),<- q21 (ld a d*ld b e') (a*e') (b*d) (k0j (q0R hx.pos) (q0R hy.pos))];congr 1
  ·calc d*e'*((lp a d).natAbs*ld b e')=(d*(lp a d).natAbs)*(e'*ld b e'):=by grind
    _=(ld a d*a)*(e'*ld b e'):=by rw[f1]
    _=_:=by grind
  ·calc d*e'*((lp b e').natAbs*ld a d)=(e'*(lp b e').natAbs)*(d*ld a d):=by grind
    _=(ld b e'*b)*(d*ld a d):=by rw[f2]
    _=_:=by grind
 clear hx hy ha hb E F hz a2 sa sb sd se k0 U V W X;rw[HZ.o];obtain⟨R,G⟩:=yx (q0y (a*e') (b*d));have i:-1<=R/\R<=1:=by rw[G];unfold q0y;(repeat' split)<;>omega
 obtain⟨i,b2⟩:=i;have wR:IntKind.i64.wrap (-R) = -R:=IntWalk.i64_in _ (by omega);rw[<- G] at HR ⊢;clear HZ G;cases s
 all_goals
  simp only[k1q,k2S,k2O] at D M ⊢;go_enter func205,ntmps205;go_wp2_with fail;refine D.o.mono ?_;rintro e w' ⟨rfl,rfl⟩;go_wp2_with fail;refine M.o.mono ?_;rintro e w' ⟨rfl,rfl⟩;go_wp2_with fail;refine D.o.mono ?_;rintro e w' ⟨rfl,rfl⟩;go_wp2_with fail;refine q02 (fun w'=>w'.cell? ⟨g,1,qa⟩=qc (.slice A n c)/\w'.cell? ⟨gx,1,qa⟩=qc (.slice B m Z)) 16
   (.still 0 (.still 1 (.still 2 (.still 3 (.still 4 (.still 5 (.still 8 (.still 9 (.still 10 (.still 11 (.still 12 (.still 13 (.one 6 (.one 7 (.one 14 (.one 15 .done)))))))))))))))) (by kernel_rfl) (by kernel_rfl) (fun _ _ d _ _ h=>by cases d<;>exact h) ⟨q,r⟩ (fun hS0=>?_)
  iterate 12
   refine q00 (v:=?_) rfl (by rfl) ?_ ?_;rotate_left
   ·intro w b3;go_simp;with_reducible rfl
   simp only[Act.put,sa,sb,sc]
  refine q03 rfl (by rfl) (fun K hK=>?_);go_simp;refine(O.o _ a1.o.drew).mono ?_;rintro e w1 ⟨A1,n1,c1,rfl,i,b4,j⟩;have b5:=i.sz (a4.o.mono (q1Q _ _));have a5:=vv i;have x:qj (qe w.heap.size w w1):=vv ⟨j.os,j.tape,j.output,j.size,j.block⟩;clear i j;go_wp2_with fail;refine hK.out _ _ ⟨(x.o.cell (p:=⟨g,1,qa⟩) f).trans q,(x.o.cell (p:=⟨gx,1,qa⟩) u).trans r⟩ (fun H=>?_);clear hK;refine q03 rfl (by rfl) (fun K hK=>?_);go_simp;refine(mulWords A A1 n n1 c c1 _ _ _ (HA.o.below x.o rfl) a5.o (by omega)).mono ?_;rintro e w2 t;obtain⟨A2,n2,c2,rfl,P,b6,Q⟩:=t.val2;have k:=vv P;have y:=vn x Q;clear P Q t;go_wp2_with fail;refine hK.out _ _ ⟨(y.o.cell (p:=⟨g,1,qa⟩) f).trans q,(y.o.cell (p:=⟨gx,1,qa⟩) u).trans r⟩ (fun H=>?_);clear hK;refine q03 rfl (by rfl) (fun K hK=>?_);go_simp;refine(N.o _ (a0.o.below y.o)).mono ?_;rintro e w3 ⟨A3,n3,c3,rfl,I,b7,J⟩;have b8:=I.sz (a3.o.mono (q1Q _ _));have a6:=vv I;have k:=vv (k.o.below J rfl);have z:=vn y J;clear I J;go_wp2_with fail;refine hK.out _ _ ⟨(z.o.cell (p:=⟨g,1,qa⟩) f).trans q,(z.o.cell (p:=⟨gx,1,qa⟩) u).trans r⟩ (fun H=>?_);clear hK;refine q03 rfl (by rfl) (fun K hK=>?_);go_simp;refine(mulWords B A3 m n3 Z c3 _ _ _ (HB.o.below z.o rfl) a6.o (by omega)).mono ?_;rintro e w4 t;obtain⟨A4,n4,c4,rfl,S,b9,L⟩:=t.val2;have a7:=vv S;have k:=vv (k.o.below L rfl);have l:=vn z L;have a8:=(l.o.cell (p:=⟨g,0,qa⟩) f).trans Y;have T:g<w4.heap.size:=k02 f l.o.size;clear S L t;go_wp2_with fail;refine hK.out _ _ ⟨(l.o.cell (p:=⟨g,1,qa⟩) f).trans q,(l.o.cell (p:=⟨gx,1,qa⟩) u).trans r⟩ (fun H=>?_);clear hK;refine q07 ?_;go_wp2_with fail;refine(cmpWords A2 A4 n2 n4 c2 c4 _ _ _ k.o a7.o (by rw[q04]) (by rw[q04])).mono ?_;rintro e w5 ⟨rfl,C⟩;rw[q04,q04,HR.o];have b0:=(C.cell (p:=⟨g,0,qa⟩) T).trans a8;have b1:g<w5.heap.size:=k02 T C.size;have a9:=vn l C;clear C;go_wp2;go_ret;exact⟨rfl,a9.o⟩
theorem CmpS(g gx:Nat)(p q:Int)(d e':Nat)(w:qg)(hx:RatAt w g p d)(hy:RatAt w gx q e')(sa:Sz p.natAbs)(sd:Sz d)(sb:Sz q.natAbs)(se:Sz e'):qh qb 205 #[.pointer (qc ⟨g,0,qa⟩),.pointer (qc ⟨gx,0,qa⟩)] w fun e w'=>e=.returned (.int .i64 (q20 (p*e') (q*d)))/\qe w.heap.size w w':=by
 by_cases h:p.sign≠q.sign\/p.sign=0
 ·exact q5v g gx p q d e' w hx hy h
 ·rcases k0L p 0 with a|a|a<;>rcases k0L q 0 with b|b|b;all_goals
   simp only[k0H,k0o,a,b,k2a,Int.reduceNeg,ne_eq,not_true_eq_false,reduceCtorEq,or_self,not_false_eq_true,or_true,true_or] at h
   try (exact absurd h (by decide))
  ·have c:p=sg true p.natAbs:=by show p = -(p.natAbs:Int);omega
   have f:q=sg true q.natAbs:=by show q = -(q.natAbs:Int);omega
   rw[c] at hx;rw[f] at hy;rw[c,f];exact q3E g gx true _ _ d e' w hx hy (by omega) (by omega) sa sd sb se
  ·have c:p=sg qi p.natAbs:=by show p=(p.natAbs:Int);omega
   have f:q=sg qi q.natAbs:=by show q=(q.natAbs:Int);omega
   rw[c] at hx;rw[f] at hy;rw[c,f];exact q3E g gx qi _ _ d e' w hx hy (by omega) (by omega) sa sd sb se
theorem CmpR(g gx:Nat)(a b d e':Nat)(w:qg)(hx:RatAt w g (a:Int) d)(hy:RatAt w gx (b:Int) e')(sa:Sz a)(sd:Sz d)(sb:Sz b)(se:Sz e'):qh qb 205 #[.pointer (qc ⟨g,0,qa⟩),.pointer (qc ⟨gx,0,qa⟩)] w fun e w'=>e=.returned (.int .i64 (q0y (a*e') (b*d)))/\qe w.heap.size w w':=by
 have c:q20 ((a:Int)*e') (b*d)=q0y (a*e') (b*d):=by rw[q4u (by have:=k0X (k0f a) (k0f e');omega) (by have:=k0X (k0f b) (k0f d);omega),k0B,k0B];rfl
 rw[<- c];exact CmpS g gx a b d e' w hx hy (by rw[k05];exact sa) sd (by rw[k05];exact sb) se
end A
namespace A
open AB
open Go Go.RowKit
theorem qcW(g gx gy:Nat)(m n:Int)(P Q:Nat)(w:qg)(h:RatSh w g)(hx:RatAt w gx m P)(hy:RatAt w gy n Q)(hm:Nat.gcd m.natAbs P=1)(hn:Nat.gcd n.natAbs Q=1)(hst:Std w)(sp:Sm m.natAbs)(sd:Sm P)(sq:Sm n.natAbs)(se:Sm Q):qh qb 221 #[.pointer (qc ⟨g,0,qa⟩),.pointer (qc ⟨gx,0,qa⟩),.pointer (qc ⟨gy,0,qa⟩),.bool qi] w (q1M g (m*Q+n*P) (P*Q) w):=by
 have S:=hx.lt;have z:=hy.lt;have HX:=vv hx;have HY:=vv hy;have HH:=vv h;have e5:=vv hst;have HM:=vv hm;have HN:=vv hn;obtain⟨i1,i2⟩:=q1f hx.pos hm;obtain⟨i3,i4⟩:=q1f hy.pos hn;have Z:=vv hx.pos;have d1:=vv hy.pos;have M:=vv (q0g (n:=P) hy.pos);have HL:=vv fun s F=>q4z (m:=m) (n:=n) (s:=s) hx.pos hy.pos hm hn F
 have e6:=hx.num;have e7:=hy.num;rw[i1] at e6;rw[i3] at e7;obtain⟨A,na,ca,h0,h1,hr,hz⟩:=e6.ex;obtain⟨B,nb,cb,k0,k1,F,l1⟩:=e7.ex;have HA:=vv hr;have HB:=vv F;have o4:=hr.sz sp.sz;have o5:=F.sz sq.sz;have C:=vv (below gx m P w hx);have i5:=vv fun w' (hb:qe w.heap.size w w')=>below gy n Q w' (hy.below hb)
 rw[i2] at C;rw[i4] at i5;have l2:=vv sd.sz;have l3:=vv se.sz;have W:qj (Sz (m*(Q/Nat.gcd P Q:Nat)).natAbs/\Sz (n*(P/Nat.gcd P Q:Nat)).natAbs/\Sz (m*(Q/Nat.gcd P Q:Nat)+n*(P/Nat.gcd P Q:Nat)).natAbs):=by
  have O:(m*(Q/Nat.gcd P Q:Nat)).natAbs<=m.natAbs*Q:=by rw[k0B,k05];exact k0g _ (k0e _ _)
  have a2:(n*(P/Nat.gcd P Q:Nat)).natAbs<=n.natAbs*P:=by rw[k0B,k05];exact k0g _ (k0e _ _)
  refine vv ⟨(sp.mul se).mono O,(sq.mul sd).mono a2,?_⟩;have a3:=Int.natAbs_add_le (m*(Q/Nat.gcd P Q:Nat)) (n*(P/Nat.gcd P Q:Nat));refine Sz.mono (b:=m.natAbs*Q+n.natAbs*P) ?_ (by omega);have R:=q0n m.natAbs Q;have b2:=q0n n.natAbs P;have b3:=q2P (m.natAbs*Q) (n.natAbs*P);unfold Sm at sp sd sq se;unfold Sz;omega
 obtain⟨v,hv⟩:=h.int;have HV:=vv hv;clear h hx hy hst sp sd sq se hr F hz l1 hm hn i1 i2 i3 i4 e6 e7 hv;go_enter func221,ntmps221;go_wp2_with fail;refine C.o.mono ?_;rintro e w1 ⟨A1,n1,c1,rfl,e8,i6,i7⟩;have o6:=e8.sz l2.o;have i:=vv e8;have i8:=vv i7;have d2:=vv i6;clear e8 i7 i6;go_wp2_with fail;refine(i5.o _ i8.o).mono ?_;rintro e w2 ⟨A2,n2,c2,rfl,e9,i9,f0⟩;have o7:=e9.sz l3.o;have j:=vv e9;have i:=vv (i.o.below f0 rfl);have j0:=vn i8 f0;have d3:=vv i9;clear e9 f0 i9;go_wp2_with fail;refine(q1D A1 A2 n1 n2 c1 c2 P Q w2 i.o j.o (e5.o.fs (Fs.of_nil j0.o)) (by omega) (by omega)).mono ?_;rintro e k ⟨G,n3,c3,rfl,hG,j1,d4⟩;have o8:=hG.le_of i.o (Nat.gcd_le_left _ Z.o);have d5:qj (∀a,G=qc a->a.off=0):=vv fun a e=>(j1 a e).2
 have l:=vv hG;have i:=vv (i.o.below d4 rfl);have j:=vv (j.o.below d4 rfl);have j2:=vn j0 d4;have l4:=j2.o.size;clear hG d4 j1;obtain⟨o,ho⟩:∃o:Obj,o=.cells #[.bool qi,.slice qa 0 0] 142:=⟨_,rfl⟩;have f1:qe k.heap.size k (k.alloc o):=(qf _ k).alloc lr _;have f2:qe (k.alloc o).heap.size (k.alloc o) ((k.alloc o).alloc o):=(qf _ (k.alloc o)).alloc lr _;have j3:(k.alloc o).heap.size=k.heap.size+1:=by simp
 have j4:IntAt (k.alloc o) k.heap.size 0 0:=by rw[ho];exact IntAt.zero k _
 have j5:IntAt ((k.alloc o).alloc o) (k.heap.size+1) 0 0:=by rw[<- j3,ho];exact IntAt.zero _ _
 obtain⟨wx,b9⟩:=yx ((k.alloc o).alloc o);have a5:qe k.heap.size k wx:=by rw[b9];exact f1.trans (f2.mono f1.size)
 have q:=vv (j4.below f2);have r:=vv j5;rw[<- b9] at q r;have i:=vv (i.o.below a5 rfl);have j:=vv (j.o.below a5 rfl);have l:=vv (l.o.below a5 rfl);have C:=vn j2 a5;have j6:wx.heap.size=k.heap.size+1+1:=by rw[b9];simp
 have l5:=vv b9;have HO:=vv ho;have o9:=vv j6;have Y:=(C.o.cell (p:=⟨gx,0,qa⟩) S).trans h0;have O:=(C.o.cell (p:=⟨gx,1,qa⟩) S).trans h1;have V:=(C.o.cell (p:=⟨gy,0,qa⟩) z).trans k0;have R:=(C.o.cell (p:=⟨gy,1,qa⟩) z).trans k1;have n6:gx<wx.heap.size:=k02 S C.o.size;have f9:gy<wx.heap.size:=k02 z C.o.size;clear f1 f2 j3 j4 j5 a5 b9 ho j6;go_wp2_with fail;rw[<- HO.o,<- l5.o];refine q02 (fun w'=>w'.cell? ⟨gx,0,qa⟩=qc (.bool (qd (m<0)))/\w'.cell? ⟨gx,1,qa⟩=qc (.slice A na ca)) 15
  (.still 0 (.still 1 (.still 2 (.still 3 (.still 4 (.still 5 (.still 6 (.still 7 (.still 8 (.still 9 (.still 10 (.still 11 (.still 12 (.one 13 (.one 14 .done))))))))))))))) (by kernel_rfl) (by kernel_rfl) (fun _ _ d _ _ h=>by cases d<;>exact h) ⟨Y,O⟩ (fun hS0=>?_)
 iterate 13
  refine q00 (v:=?_) rfl (by rfl) ?_ ?_;rotate_left
  ·intro w j7;go_simp;with_reducible rfl
  simp only[Act.put,sa,sb,sc]
 refine q03 rfl (by rfl) (fun K hK=>?_);go_simp;refine(by_ A2 G n2 n3 c2 c3 Q _ _ j.o.drew l.o.drew M.o (by omega)).mono ?_;rintro e w4 ⟨A4,n4,c4,rfl,f3,-,u⟩;have u:qe wx.heap.size wx w4:=⟨u.os,u.tape,u.output,u.size,u.block⟩;have p0:=f3.le_of j.o (k0e _ _);have l6:=vv f3;have i:=vv (i.o.below u rfl);have j:=vv (j.o.below u rfl);have l:=vv (l.o.below u rfl);have q:=vv (q.o.below u);have r:=vv (r.o.below u);have d6:=vn C u;have Y:=(d6.o.cell (p:=⟨gx,0,qa⟩) S).trans h0;have O:=(d6.o.cell (p:=⟨gx,1,qa⟩) S).trans h1;clear f3 u;go_wp2_with fail;refine hK.out _ _ ⟨Y,O⟩ (fun a4=>?_);clear hK;refine q03 rfl (by rfl) (fun K hK=>?_);go_simp;refine(mulWords A A4 na n4 ca c4 _ _ _ (HA.o.below d6.o rfl) l6.o (by omega)).mono ?_;rintro e w5 c;obtain⟨A5,n5,c5,rfl,j8,l7,T⟩:=c.val2;have l8:=vv j8;have i:=vv (i.o.below T rfl);have j:=vv (j.o.below T rfl);have l:=vv (l.o.below T rfl);have q:=vv (q.o.below T);have r:=vv (r.o.below T);have d7:=vn d6 T;have Y:=(d7.o.cell (p:=⟨gx,0,qa⟩) S).trans h0;have O:=(d7.o.cell (p:=⟨gx,1,qa⟩) S).trans h1;clear j8 T c;go_wp2_with fail;refine hK.out _ _ ⟨Y,O⟩ (fun a4=>?_);clear hK;refine q07 ?_;go_wp2_with fail;refine(set_of _ 0 0 (m*(Q/Nat.gcd P Q:Nat)) _ A5 n5 c5 _ _ q.o l8.o (fun a e=>(l7 a e).2) (by rw[k0B,k05]) (by rw[q2E,k05,k00 (p:=((Q/Nat.gcd P Q:Nat):Int)<0) (Int.not_lt.2 (k0f _))];cases qd (m<0)<;>rfl)).mono ?_;rintro e w6 c;have c:=c.f q.o;have q:=vv c.2.1;have r:=vv (r.o.fs1 c.2.2 (by omega));have i:=vv (i.o.fs d2.o c.2.2);have j:=vv (j.o.fs d3.o c.2.2);have l:=vv (l.o.fs d5.o c.2.2);have d8:=vv (c.below d7.o d7.o.size l4);obtain⟨rfl,-,-⟩:=c;have V:=(d8.o.cell (p:=⟨gy,0,qa⟩) z).trans k0;have R:=(d8.o.cell (p:=⟨gy,1,qa⟩) z).trans k1;have f9:gy<w6.heap.size:=k02 z d8.o.size;go_wp2_with fail;refine q02 (fun w'=>w'.cell? ⟨gy,0,qa⟩=qc (.bool (qd (n<0)))/\w'.cell? ⟨gy,1,qa⟩=qc (.slice B nb cb)) 17
  (.still 0 (.still 1 (.still 2 (.still 3 (.still 4 (.still 5 (.still 6 (.still 7 (.still 8 (.still 9 (.still 10 (.still 11 (.still 12 (.still 13 (.still 14 (.one 15 (.one 16 .done))))))))))))))))) (by kernel_rfl) (by kernel_rfl) (fun _ _ d _ _ h=>by cases d<;>exact h) ⟨V,R⟩ (fun hS0=>?_)
 iterate 15
  refine q00 (v:=?_) rfl (by rfl) ?_ ?_;rotate_left
  ·intro w j7;go_simp;with_reducible rfl
  simp only[Act.put,sa,sb,sc]
 refine q03 rfl (by rfl) (fun K hK=>?_);go_simp;refine(by_ A1 G n1 n3 c1 c3 P _ _ i.o.drew l.o.drew M.o (by omega)).mono ?_;rintro e w7 ⟨A7,n7,c7,rfl,f4,-,y⟩;have y:qe w6.heap.size w6 w7:=⟨y.os,y.tape,y.output,y.size,y.block⟩;have p1:=f4.le_of i.o (k0e _ _);have l9:=vv f4;have i:=vv (i.o.below y rfl);have j:=vv (j.o.below y rfl);have l:=vv (l.o.below y rfl);have q:=vv (q.o.below y);have r:=vv (r.o.below y);have d9:=vn d8 y;have V:=(d9.o.cell (p:=⟨gy,0,qa⟩) z).trans k0;have R:=(d9.o.cell (p:=⟨gy,1,qa⟩) z).trans k1;clear f4 y;go_wp2_with fail;refine hK.out _ _ ⟨V,R⟩ (fun a4=>?_);clear hK;refine q03 rfl (by rfl) (fun K hK=>?_);go_simp;refine(mulWords B A7 nb n7 cb c7 _ _ _ (HB.o.below d9.o rfl) l9.o (by omega)).mono ?_;rintro e w8 c;obtain⟨A8,n8,c8,rfl,j9,m0,U⟩:=c.val2;have m1:=vv j9;have i:=vv (i.o.below U rfl);have j:=vv (j.o.below U rfl);have l:=vv (l.o.below U rfl);have q:=vv (q.o.below U);have r:=vv (r.o.below U);have e0:=vn d9 U;have V:=(e0.o.cell (p:=⟨gy,0,qa⟩) z).trans k0;have R:=(e0.o.cell (p:=⟨gy,1,qa⟩) z).trans k1;clear j9 U c;go_wp2_with fail;refine hK.out _ _ ⟨V,R⟩ (fun a4=>?_);clear hK;refine q07 ?_;go_wp2_with fail;refine(set_of _ 0 0 (n*(P/Nat.gcd P Q:Nat)) _ A8 n8 c8 _ _ r.o m1.o (fun a e=>(m0 a e).2) (by rw[k0B,k05]) ?_).mono ?_
 ·rw[q2E,k05,k00 (p:=((P/Nat.gcd P Q:Nat):Int)<0) (Int.not_lt.2 (k0f _))];cases qd (n<0)<;>cases qd (0<n.natAbs*(P/Nat.gcd P Q))<;>rfl
 rintro e w9 c;have c:=c.f r.o;have r:=vv c.2.1;have q:=vv (q.o.fs1 c.2.2 (by omega));have i:=vv (i.o.fs d2.o c.2.2);have j:=vv (j.o.fs d3.o c.2.2);have l:=vv (l.o.fs d5.o c.2.2);have k2:=vv (c.below e0.o e0.o.size (by omega));obtain⟨rfl,-,-⟩:=c;clear Y O V R;go_wp2_with fail;refine(Add _ 0 _ 0 _ 0 _ _ _ _ q.o q.o r.o W.o.1 W.o.2.1).mono ?_;rintro e X c;have c:=c.f q.o;have q:=vv c.2.1;have i:=vv (i.o.fs d2.o c.2.2);have j:=vv (j.o.fs d3.o c.2.2);have l:=vv (l.o.fs d5.o c.2.2);have a8:=vv (c.below k2.o k2.o.size (by omega));obtain⟨rfl,-,-⟩:=c;obtain⟨s,F⟩:=yx (m*(Q/Nat.gcd P Q:Nat)+n*(P/Nat.gcd P Q:Nat));have W:=vv W.o.2.2;have HL:=vv (HL.o s F);rw[<- F] at q W;have HS:=vv F;have D:=q.o.lt;have c0:=q.o;obtain⟨AS,ns,cs,I,J,e2,k3⟩:=c0.ex;have f5:=e2.words;have p2:=e2.sz W.o;have e3:=vv e2;have p3:=vv k3;clear F e2 k3 c0;rcases k01 ns with hz|n9
 ·subst hz;have k4:s=0:=by have:=q06.1 f5;omega
  have HF:qj (m*Q+n*P=0):=by
   refine vv ?_;have e1:=HL.o.2;rw[k4] at e1;have hp:(0:Int)<(P/Nat.gcd P Q*(Q/Nat.gcd (Int.natAbs 0) (Nat.gcd P Q)):Nat):=by have:0<P/Nat.gcd P Q*(Q/Nat.gcd (Int.natAbs 0) (Nat.gcd P Q)):=k0j (k1i (k13 Z.o (k15 _ _)) M.o) (by rw[k2f,k25];exact k1i (k13 d1.o (k0y _ _)) M.o);omega
   simp [sg] at e1;have:=Int.mul_eq_zero.1 e1.symm;rcases this with h|h
   ·exact h
   ·have h':((P/Nat.gcd P Q*(Q/Nat.gcd (Int.natAbs 0) (Nat.gcd P Q)):Nat):Int)=0:=by
     rw[k2f,k25]
     exact_mod_cast h
    omega
  clear k4 f5;have hB:qe X.heap.size X (X.alloc (.cells #[.int .u32 1] 54)):=(qf _ _).alloc lr _;have hO:Own (X.alloc (.cells #[.int .u32 1] 54)) X.heap.size 54 [1]:=Own.lit _ (q0u.2 ⟨by omega,q0D⟩) (by simp [q0o]);have f6:=vn a8 hB;have HO:=vv hO;clear hB hO;go_wp2_with fail;refine(q9L g qi qa (qc ⟨X.heap.size,0,qa⟩) 0 0 1 1 [] [1] _ (HH.o.below f6.o) (Rd.nil _) (HO.o.rd rfl lr (by omega)) (by decide) (fun a e=>by cases e) (fun a e=>by cases e;rfl) (e5.o.fs (Fs.of_nil f6.o)) (by omega) (by omega)).mono ?_;rintro e e4 ⟨rfl,hR,hF⟩;have HR:=vv hR;go_wp2;go_ret;refine⟨rfl,?_,hF.after f6.o⟩;rw[HF.o];exact HR.o.cross (k0j Z.o d1.o) (by simp [sg,val])
 ·have p4:((ns:Int)==0)=qi:=by simp;omega
  clear f5;go_wp2_with fail;refine(q1D AS G ns n3 cs c3 _ _ _ e3.o l.o (e5.o.fs (Fs.of_nil a8.o)) (by omega) (by omega)).mono ?_;rintro e e4 ⟨H,k5,k6,rfl,f7,k7,L⟩;have o0:=f7.le_of l.o (Nat.gcd_le_right _ M.o);have E:=vv f7;have m2:qj (∀a,H=qc a->a.off=0):=vv fun a e=>(k7 a e).2
  have f8:=vv (q0g (n:=s.natAbs) M.o);have e3:=vv (e3.o.below L rfl);have i:=vv (i.o.below L rfl);have j:=vv (j.o.below L rfl);have l:=vv (l.o.below L rfl);have I:=(L.cell (p:=⟨k.heap.size,0,qa⟩) D).trans I;have J:=(L.cell (p:=⟨k.heap.size,1,qa⟩) D).trans J;have D:k.heap.size<e4.heap.size:=k02 D L.size;have g0:=vn a8 L;clear f7 k7 L;go_wp2_with fail;refine q02 (fun w'=>w'.cell? ⟨k.heap.size,0,qa⟩=qc (.bool (qd (s<0)))/\w'.cell? ⟨k.heap.size,1,qa⟩=qc (.slice AS ns cs)) 14
   (.still 0 (.still 1 (.still 2 (.still 3 (.still 4 (.still 5 (.still 6 (.still 7 (.still 8 (.still 9 (.still 10 (.still 11 (.one 12 (.one 13 .done)))))))))))))) (by kernel_rfl) (by kernel_rfl) (fun _ _ d _ _ h=>by cases d<;>exact h) ⟨I,J⟩ (fun hS0=>?_)
  iterate 12
   refine q00 (v:=?_) rfl (by rfl) ?_ ?_;rotate_left
   ·intro w j7;go_simp;with_reducible rfl
   simp only[Act.put,sa,sb,sc]
  refine q03 rfl (by rfl) (fun K hK=>?_);go_simp;refine(by_ AS H ns k5 cs k6 _ _ _ e3.o.drew E.o.drew f8.o (by omega)).mono ?_;rintro e k8 ⟨p5,k9,p6,rfl,c6,-,t⟩;have t:qe e4.heap.size e4 k8:=⟨t.os,t.tape,t.output,t.size,t.block⟩;have a9:=vv c6;have i:=vv (i.o.below t rfl);have j:=vv (j.o.below t rfl);have l:=vv (l.o.below t rfl);have E:=vv (E.o.below t rfl);have I:=(t.cell (p:=⟨k.heap.size,0,qa⟩) D).trans I;have J:=(t.cell (p:=⟨k.heap.size,1,qa⟩) D).trans J;have D:k.heap.size<k8.heap.size:=k02 D t.size;have g1:=vn g0 t;clear c6 t;go_wp2_with fail;refine hK.out _ _ ⟨I,J⟩ (fun a4=>?_);clear hK;refine q03 rfl (by rfl) (fun K hK=>?_);go_simp;refine(copied _ _ _ _ _ a9.o).mono ?_;rintro e p7 ⟨rfl,hO,N⟩;have g2:=vv (hO.rd a9.o.len.symm lr a9.o.sm);have i:=vv (i.o.below N rfl);have j:=vv (j.o.below N rfl);have l:=vv (l.o.below N rfl);have E:=vv (E.o.below N rfl);have I:=(N.cell (p:=⟨k.heap.size,0,qa⟩) D).trans I;have J:=(N.cell (p:=⟨k.heap.size,1,qa⟩) D).trans J;have a6:=vn g1 N;clear hO N;go_wp2_with fail;refine hK.out _ _ ⟨I,J⟩ (fun a4=>?_);clear hK;refine q07 ?_;go_wp2_with fail;refine(set_of g 0 v (sg (qd (s<0)) (s.natAbs/Nat.gcd s.natAbs (Nat.gcd P Q))) _ _ k9 k9 _ _ (HV.o.below a6.o) g2.o (fun a e=>by cases e;rfl) (q0v _ _) (q1l _ _)).mono ?_;rintro e p8 c;have c:=c.f (HV.o.below a6.o);have g3:=vv ((HH.o.below a6.o).num c);have HF:=vv (c.2.2.after a6.o);have i:=vv (i.o.fs d2.o c.2.2);have j:=vv (j.o.fs d3.o c.2.2);have l:=vv (l.o.fs d5.o c.2.2);have E:=vv (E.o.fs m2.o c.2.2);obtain⟨rfl,-,-⟩:=c;clear I J;go_wp2_with fail;refine(by_ A1 G n1 n3 c1 c3 P _ _ i.o l.o M.o (by omega)).mono ?_;rintro e p9 ⟨m3,m4,m5,rfl,b4,-,a7⟩;have o1:=b4.le_of i.o (k0e _ _);have b5:=vv b4;have j:=vv (j.o.below a7 rfl);have E:=vv (E.o.below a7 rfl);have g4:=vv a7;clear b4 a7;go_wp2_with fail;refine(by_ A2 H n2 k5 c2 k6 Q _ _ j.o E.o f8.o (by omega)).mono ?_;rintro e q0 ⟨m6,m7,m8,rfl,b6,-,b7⟩;have o2:=b6.le_of j.o (k0e _ _);have g5:=vv b6;have b5:=vv (b5.o.below b7 rfl);have g6:=vn g4 b7;clear b6 b7;go_wp2_with fail;refine(mulWords m3 m6 m4 m7 m5 m8 _ _ _ b5.o g5.o (by omega)).mono ?_;rintro e m9 c;obtain⟨q1,q2,q3,rfl,c9,g7,d0⟩:=c.val2;have b8:=vn g6 d0;have l0:qj (0<P/Nat.gcd P Q*(Q/Nat.gcd s.natAbs (Nat.gcd P Q))):=vv (k0j (k1i (k13 Z.o (k15 _ _)) M.o) (k1i (k13 d1.o (k2l (k0y _ _) (k0y _ _))) f8.o));have g8:=vv (c9.den l0.o (fun a e=>(g7 a e).2));clear c9 d0 c;obtain⟨hi,x,hx⟩:=g3.o;have g9:=(b8.o.cell (p:=⟨g,2,qa⟩) hi.lt).trans hx;have hi:=hi.below b8.o;have o3:=hi.lt;have q4:=hi.fz 2;have HI:=vv hi;have n0:=vv g9;have i0:qj (Fs [(g,0,2)] w m9):=vv ((HF.o.trans (Fs.of_nil b8.o)).drop (fun p hp _=>by simpa using hp) (fun p hp=>by simpa using hp));clear hi hx;go_wp2;go_ret;refine⟨rfl,RatAt.made HI.o ⟨x,n0.o⟩ g8.o (k0j Z.o d1.o) l0.o (by rw[q0v];exact HL.o.1) ?_,fs3 (i0.o.trans (Fs.set2 HI.o _))⟩;rw[HL.o.2]
theorem AddR(g gx gy:Nat)(p q:Int)(d e':Nat)(w:qg)(h:RatSh w g)(hx:RatAt w gx p d)(hy:RatAt w gy q e')(hst:Std w)(sp:Sm p.natAbs)(sd:Sm d)(sq:Sm q.natAbs)(se:Sm e'):qh qb 300 #[.pointer (qc ⟨g,0,qa⟩),.pointer (qc ⟨gx,0,qa⟩),.pointer (qc ⟨gy,0,qa⟩)] w (q1M g (p*e'+q*d) (d*e') w):=by
 have a:qj ((lp p d*↑(ld q e')+lp q e'*↑(ld p d))*((d*e':Nat):Int)=(p*e'+q*d)*((ld p d*ld q e':Nat):Int)):=by
  have b:=q0q p d;have c:=q0q q e';refine vv ?_;simp only[k07]
  calc (lp p d*↑(ld q e')+lp q e'*↑(ld p d))*(↑d*↑e')=(lp p d*d)*↑(ld q e')*e'+(lp q e'*e')*↑(ld p d)*d:=by grind
   _=(p*ld p d)*↑(ld q e')*e'+(q*ld q e')*↑(ld p d)*d:=by rw[b,c]
   _=_:=by grind
 have f:=vv (k0j hx.pos hy.pos);have i:=vv (qcW g gx gy (lp p d) (lp q e') (ld p d) (ld q e') w h (hx.cross (q0R hx.pos) (q0q p d).symm) (hy.cross (q0R hy.pos) (q0q q e').symm) (q1w hx.pos) (q1w hy.pos) hst (sp.mono (q1H _ _)) (sd.mono (q1Q _ _)) (sq.mono (q1H _ _)) (se.mono (q1Q _ _)));clear h hx hy hst sp sd sq se;go_enter func300,ntmps300;go_wp2_with fail;refine i.o.mono ?_;rintro e m ⟨rfl,j,k⟩;have l:=vv j;go_wp2;go_ret;exact⟨rfl,l.o.cross f.o a.o,k⟩
end A
namespace B
open AB
open Go Go.RowKit
def qaR(N:Nat)(w:qg)(e:Ending)(w':qg):Prop:=∃A n c,e=.returned (.slice A n c)/\Rd w' A n c (toL N)/\(∀a,A=qc a->a.off=0/\w.heap.size<=a.block)/\qe w.heap.size w w'
theorem Words_(g o:Nat)(u:Int)(w:qg)(h:IntAt w g o u):qh qb 191 #[.pointer (qc ⟨g,o,qa⟩)] w (qaR u.natAbs w):=by
 have s:=h.lt;obtain⟨A,n,c,j,v,b,k⟩:=h.ex;have t:=b.sm;clear k h j;rcases k01 n with rfl|l
 ·have d:=vv b;clear b;go_enter func191,ntmps191;go_wp2;go_ret;have m:=d.o.len;have p:toL u.natAbs=[]:=k2D.1 m;exact⟨qa,0,0,rfl,by rw[p];exact⟨rfl,lr,by omega,q0D,fun h=>absurd h (by omega)⟩,fun a e=>(by cases e),qf _ _⟩
 ·have d:=vv b;have x:((n:Int)==0)=qi:=by rw[k08];omega
  clear b l;go_enter func191,ntmps191;go_wp2_with fail;refine(copied _ _ _ _ _ d.o).mono ?_;rintro e y ⟨rfl,f,i⟩;have q:=vv f;have r:=vv i;clear f i;go_wp2;go_ret;exact⟨_,n,n,rfl,q.o.rd d.o.len.symm lr d.o.sm,fun a e=>(by cases e;exact⟨rfl,lr⟩),r.o⟩
end B
namespace R2
open Go Go.RowKit B AB
theorem qdQ(g o:Nat)(u:Int)(w:qg)(h:IntAt w g o u)(hb:bl u.natAbs<=30000000000000):qh qb 101 #[.pointer (qc ⟨g,o,qa⟩)] w fun e w'=>e=.returned (.bool (qd (524288<bl u.natAbs)))/\w=w':=by
 have a:=B.BitLen g o u w h;obtain⟨L,b⟩:=yx (bl u.natAbs);rw[<- b] at a hb ⊢;have a:=vv a;have d:(L:Int)<=30000000000000:=by omega
 have c:qd ((524288:Int)<(L:Int))=qd (524288<L):=by
  by_cases h:524288<L
  ·rw[k03 h];exact k03 (by omega)
  ·rw[k00 h];exact k00 (by omega)
 have f:=vv c;clear h b c hb;go_enter func101,ntmps101;go_wp2_with fail;refine a.o.mono ?_;rintro e i ⟨rfl,rfl⟩;go_wp2;go_ret;exact⟨by simp;omega,rfl⟩
end R2
end Go.Proofs.YtabcgemembkkcaaGreatDoor
