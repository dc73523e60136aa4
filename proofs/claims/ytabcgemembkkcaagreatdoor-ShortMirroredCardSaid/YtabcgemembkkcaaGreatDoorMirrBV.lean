/- Lemmas. -/
import Derived.Test.YtabcgemembkkcaaGreatDoorMirrBU
import Derived.Laws.FloatArith
set_option linter.all false
set_option maxHeartbeats 16000000
set_option maxRecDepth 100000
open Go.Proofs.Tryz
open Decidable renaming decide->qa
open Option renaming some->qb,none->qc
open Go.Proofs.Tryz renaming prog->qd
open Go renaming RowKit.Below.refl->qe,IntKind.wrap_u64->qh,Calls->qi,World->qk
open Bool renaming false->qf,true->qj
open Go.RowKit renaming Below->qg
namespace Go.Proofs.YtabcgemembkkcaaGreatDoor
namespace Dig
open Go Go.RowKit R5 Scn Sh
def tb(k:Nat):Nat:=FloatKind.f64.nearest ((10^k:Nat):Int)
def wb(n:Nat):Nat:=FloatKind.f64.nearest ((2^n:Nat):Int)
theorem qb5:∀k:Fin 18,floatBits .mul .f64 (tb k.val) 4621819117588971520=qb (tb (k.val+1)):=by decide +kernel
theorem qb6:∀n:Fin 54,∀k:Fin 19,(FloatKind.f64.format.order (tb k.val) (wb n.val)==qb .lt || FloatKind.f64.format.order (tb k.val) (wb n.val)==qb .eq)=qa (10^k.val<=2^n.val):=by decide +kernel
theorem q9K:tb 0=4607182418800017408:=by decide +kernel
theorem big:∀n:Fin 54,2^n.val<10^17:=by decide +kernel
theorem qbB{n j:Nat}(hj:∀i,i<j->10^i<=2^n)(h:¬10^j<=2^n):q0t (2^n)=j:=by
 have b:=k0c n;have a:1<=j:=by
  rcases k01 j with e|e
  ·subst e;rw[k0J] at h;omega
  ·exact e
 refine Nat.le_antisymm (q1e (by omega) a) ?_;have c:=hj (j-1) (by omega);have d:=Lib.lt_pow_nDigits (2^n);rcases k0y (q0t (2^n)) j with k|k
 ·have:=k04 (n:=10) (by decide) (show q0t (2^n)<=j-1 by omega);unfold q0t at this;omega
 ·exact k
theorem q9i(n:Nat)(w:qk)(hn:n<=53):qi qd 48 #[.int .i64 (n:Int)] w fun e w'=>e=.returned (.int .i64 ((q0t (2^n):Nat):Int))/\qg w.heap.size w w':=by
 have H:(n:Int)<=53:=by omega
 have I:qa ((n:Int)<0)=qf:=k00 (by omega);have g:2^n<18446744073709551616:=k1P (a:=2) (m:=n) (n:=64) (by decide) (by omega);have q:floatOfInt FloatKind.f64 (IntKind.u64.wrap (2^n))=wb n:=by
  unfold wb floatOfInt;have e:IntKind.u64.wrap ((2^n:Nat):Int)=((2^n:Nat):Int):=by generalize 2^n=p at g;rw[qh];omega
  rw[show((2:Int)^n)=((2^n:Nat):Int) by rw[k0D];rfl,e]
 have L:=vv hn;have D:=vv q;have r:Hid (∀j,j<=18->(FloatKind.f64.format.order (tb j) (wb n)==qb .lt || FloatKind.f64.format.order (tb j) (wb n)==qb .eq)=qa (10^j<=2^n)):=vv fun j E=>qb6 ⟨n,by omega⟩ ⟨j,by omega⟩
 have F:Hid (2^n<10^17):=vv (big ⟨n,by omega⟩);clear hn q g;go_enter func48,ntmps48;go_wp2;go_region;rw[D.o];rw[<- q9K];obtain⟨W,s⟩:=yx (wb n);rw[<- s] at r ⊢;clear s;go_wp2;go_loopw [3,4] (fun a t wr=>∃j:Nat,j<=17/\a=.int .i64 (j:Int)/\t=.float .f64 (tb j)/\(∀i,i<j->10^i<=2^n)/\qg w.heap.size w wr) (fun a _ _=>(18-intOf a).toNat)
 case atStart=>exact⟨0,by decide,rfl,rfl,fun i h=>absurd h (by omega),q05 (qe _ _)⟩
 case round =>
  obtain⟨j,E,rfl,rfl,u,v⟩:=hrel;have x:=vv u;have l:=vv v;have d:=r.o j (by omega);clear u v;by_cases h:10^j<=2^n
  ·rw[k03 h] at d;have J:j<17:=by
    rcases k0y j 17 with k|k
    ·exact k
    ·have:=k04 (n:=10) (by decide) k;have:=F.o;omega
   have y:=run_float_arith (P:=qd) wr .mul 167 .f64 (tb j) 4621819117588971520 (tb (j+1)) (qb5 ⟨j,by omega⟩);have z:Hid (∀i,i<j+1->10^i<=2^n):=vv fun i hi=>by
    rcases(by omega:i<j\/i=j) with k|rfl
    ·exact x.o i k
    ·exact h
   obtain⟨a,c⟩:=yx (tb j);obtain⟨b,f⟩:=yx (tb (j+1));rw[<- c] at d y ⊢;rw[<- f] at y;have C:=vv f;have K:(j:Int)<=17:=by omega
   clear h c f;go_wp2;go_roundw
   case rel=>exact⟨j+1,by omega,by go_num,by rw[C.o],z.o,l.o⟩
   case measure=>simp [intOf];omega
  ·rw[k00 h] at d;have G:=vv (qbB x.o h);obtain⟨a,c⟩:=yx (tb j);rw[<- c] at d ⊢;clear h c;go_wp2;go_ret;exact⟨q0U (by rw[G.o]),l.o⟩
theorem Enough_(E F:Nat)(w:qk)(h1:2<=E)(h2:E<=11)(h3:1<=F)(h4:F<=52):qi qd 16 #[fm E F] w fun e w'=>e=.returned (.tuple #[.int .i64 (((q0t (2^(F+1)):Nat):Int)+1),.int .i64 0])/\qg w.heap.size w w':=by
 obtain⟨g,c⟩:=yx (w.alloc (.cells #[.int .i64 (E:Int),.int .i64 (F:Int)] 23));have j:Cx w [(w.heap.size,23,[.int .i64 (E:Int),.int .i64 (F:Int)])] g:=by rw[c];exact(Cx.nil w).new _ [_,_] rfl
 have i:=vv fun w'=>Fms.Check (E:Int) F w'
 have k:R3.chk (E:Int) F=0:=R3.chk_ok (Fms.formOk_in h1 h2 h3 h4);rw[k] at i;have d:=vv fun w'=>q9i (F+1) w' (by omega)
 have l:(((F+1:Nat):Int))=(F:Int)+1:=by omega
 rw[l] at d;have m:q0t (2^(F+1))<=20:=q1e (k02 (big ⟨F+1,by omega⟩) (by decide)) (by decide);obtain⟨L,n⟩:=yx (q0t (2^(F+1)));rw[<- n] at d m ⊢;have s:(F:Int)<=52:=by omega
 have t:(L:Int)<=20:=by omega
 have a:=vv j;have q:=vv c;clear c j k l n m;have p:g.cell? ⟨w.heap.size,0,qc⟩=qb (.int .i64 (E:Int)):=(a.o.get 0 rfl).cell 0;have f:g.cell? ⟨w.heap.size,1,qc⟩=qb (.int .i64 (F:Int)):=(a.o.get 0 rfl).cell 1;have h:=(a.o.get 0 rfl).lt;go_enter func16,ntmps16;go_wp2_with fail;rw[<- q.o];refine(i.o _).mono ?_;rintro e r ⟨rfl,b⟩;replace a:=vv (a.o.step b);clear p f h b;have f:r.cell? ⟨w.heap.size,1,qc⟩=qb (.int .i64 (F:Int)):=(a.o.get 0 rfl).cell 1;have h:=(a.o.get 0 rfl).lt;go_wp2_with fail;refine(d.o _).mono ?_;rintro e u ⟨rfl,b⟩;replace a:=vv (a.o.step b);clear f h b;go_wp2;go_ret2;exact⟨rfl,a.o.low⟩
theorem Sure_(E F:Nat)(w:qk)(h1:2<=E)(h2:E<=11)(h3:1<=F)(h4:F<=52):qi qd 17 #[fm E F] w fun e w'=>e=.returned (.tuple #[.int .i64 (((q0t (2^F):Nat):Int)-1),.int .i64 0])/\qg w.heap.size w w':=by
 obtain⟨f,c⟩:=yx (w.alloc (.cells #[.int .i64 (E:Int),.int .i64 (F:Int)] 23));have j:Cx w [(w.heap.size,23,[.int .i64 (E:Int),.int .i64 (F:Int)])] f:=by rw[c];exact(Cx.nil w).new _ [_,_] rfl
 have h:=vv fun w'=>Fms.Check (E:Int) F w'
 have k:R3.chk (E:Int) F=0:=R3.chk_ok (Fms.formOk_in h1 h2 h3 h4);rw[k] at h;have i:=vv fun w'=>q9i F w' (by omega)
 have l:q0t (2^F)<=20:=q1e (k02 (big ⟨F,by omega⟩) (by decide)) (by decide);obtain⟨L,m⟩:=yx (q0t (2^F));rw[<- m] at i l ⊢;have r:(F:Int)<=52:=by omega
 have s:(L:Int)<=20:=by omega
 have a:=vv j;have p:=vv c;clear c j k m l;have n:f.cell? ⟨w.heap.size,0,qc⟩=qb (.int .i64 (E:Int)):=(a.o.get 0 rfl).cell 0;have d:f.cell? ⟨w.heap.size,1,qc⟩=qb (.int .i64 (F:Int)):=(a.o.get 0 rfl).cell 1;have g:=(a.o.get 0 rfl).lt;go_enter func17,ntmps17;go_wp2_with fail;rw[<- p.o];refine(h.o _).mono ?_;rintro e q ⟨rfl,b⟩;replace a:=vv (a.o.step b);clear n d g b;have d:q.cell? ⟨w.heap.size,1,qc⟩=qb (.int .i64 (F:Int)):=(a.o.get 0 rfl).cell 1;have g:=(a.o.get 0 rfl).lt;go_wp2_with fail;refine(i.o _).mono ?_;rintro e t ⟨rfl,b⟩;replace a:=vv (a.o.step b);clear d g b;go_wp2;go_ret2;exact⟨rfl,a.o.low⟩
end Dig
namespace Sho
open Go Go.RowKit R5 Sh Rtp Dec Fms Exa Nea
theorem q9F{b k:Nat}(hk:k<=63)(hb:b<2^(k+1)):bits .xor .u64 (b:Int) ((2^k:Nat):Int)=((b ^^^ 2^k:Nat):Int)/\b ^^^ 2^k<2^(k+1)/\(b ^^^ 2^k)%2^k=b%2^k/\qa (2^k<=b ^^^ 2^k)=!qa (2^k<=b):=by
 have i:=k0c k;have j:=k0a 2 k;have a:b ^^^ 2^k<2^(k+1):=Nat.xor_lt_two_pow hb (by omega);have g:2^(k+1)<=2^64:=k04 (by decide) (by omega);have d:∀c:Nat,c<2^(k+1)->c.testBit k=qa (2^k<=c):=fun c hc=>by
  rw[Nat.testBit_eq_decide_div_mod_eq];by_cases h:2^k<=c
  ·have e:c/2^k=1:=k1A (by omega) (by omega);rw[e,k03 h];rfl
  ·have e:c/2^k=0:=k0N (by omega);rw[e,k00 h];rfl
 refine⟨?_,a,?_,?_⟩
 ·show IntKind.u64.wrap ((BitVec.ofInt 64 (b:Int) ^^^ BitVec.ofInt 64 ((2^k:Nat):Int)).toNat:Nat)=_;have e:(BitVec.ofInt 64 (b:Int) ^^^ BitVec.ofInt 64 ((2^k:Nat):Int)).toNat=b ^^^ 2^k:=by
   rw[BitVec.toNat_xor,k1Z,k1Z];have f:(2:Nat)^64=18446744073709551616:=rfl;generalize 2^k=p at *
   rw[show((b:Int)%((2^64:Nat):Int)).toNat=b by omega,show((p:Int)%((2^64:Nat):Int)).toNat=p by omega]
  rw[e,qh];have f:(2:Nat)^64=18446744073709551616:=rfl;generalize b ^^^ 2^k=c at *
  omega
 ·rw[Nat.xor_mod_two_pow,Nat.mod_self,Nat.xor_zero]
 ·rw[<- d _ a,<- d _ hb,Nat.testBit_xor,k2b];simp
theorem q7g(mode:Nat)(w:qk)(hm:mode<=4):qi qd 15 #[.int .u8 (mode:Int)] w fun e w'=>e=.returned (.int .u8 ((q7h mode:Nat):Int))/\qg w.heap.size w w':=by
 rcases(by omega:mode=0\/mode=1\/mode=2\/mode=3\/mode=4) with rfl|rfl|rfl|rfl|rfl;all_goals
  go_enter func15,ntmps15;go_wp2;go_ret;exact⟨rfl,qe _ _⟩
theorem qbb(neg:Bool)(q:Rat):(sq neg q).num.natAbs=q.num.natAbs/\(sq neg q).den=q.den:=by
 cases neg
 ·exact⟨rfl,rfl⟩
 ·exact⟨by show(-q).num.natAbs=_;rw[Rat.neg_num,k1R],by show(-q).den=_;rw[Rat.neg_den]⟩
theorem qbZ(E F:Int)(b mode:Nat)(er:Int)(sn:Bool)(ss:ByteArray)(sx:Int)(w:qk)(h0:(er==0)=qf)(hst:Std w)
  (hd:∀w',qi qd 8 #[fm E F,.int .u64 (b:Int),.int .u8 (mode:Int)] w' fun e w''=>e=.returned (.tuple #[(⟨qf,⟨#[]⟩,0⟩:Dcl).v,.int .i64 er])/\qg w'.heap.size w' w'') :
  qi qd 6 #[fm E F,.int .u64 (b:Int),.int .u8 (mode:Int),decV sn ss sx] w fun e w'=>e=.returned (.bool qj)/\qg w.heap.size w w':=by
 obtain⟨l,d⟩:=yx ((w.alloc (.cells #[.int .i64 E,.int .i64 F] 23)).alloc (.cells #[.bool sn,.string ss,.int .i64 sx] 27));have f:Cx w [(w.heap.size+1,27,[.bool sn,.string ss,.int .i64 sx]),(w.heap.size,23,[.int .i64 E,.int .i64 F])] l:=by rw[d];exact((Cx.nil w).new _ [_,_] rfl).new _ [_,_,_] (by simp)
 have m:=vv fun w' hs=>q7R w' hs
 have n:=vv hd;have h:=vv hst;have a:=vv f;have p:=vv d;clear d f hst hd;go_enter func6,ntmps6;go_wp2_with fail;rw[<- p.o];refine(m.o _ (a.o.std h.o)).mono ?_;rintro e g ⟨rfl,c⟩;replace a:=vv (a.o.step c);clear c;have i:g.cell? ⟨w.heap.size,0,qc⟩=qb (.int .i64 E):=(a.o.get 1 rfl).cell 0;have j:g.cell? ⟨w.heap.size,1,qc⟩=qb (.int .i64 F):=(a.o.get 1 rfl).cell 1;have k:=(a.o.get 1 rfl).lt;go_wp2_with fail;refine(n.o _).mono ?_;rintro e q ⟨rfl,c⟩;replace a:=vv (a.o.step c);clear i j k c;go_wp2;go_ret;exact⟨rfl,a.o.low.alloc a.o.low.size _⟩
theorem qbY(G F b mode:Nat)(sn:Bool)(ss:ByteArray)(sx:Int)(w:qk)(g1:1<=G)(g2:G<=10)(h3:1<=F)(h4:F<=52)(hb:b<2^(1+(G+1)+F))(hf:q0E (G+1) F b≠2^(G+1)-1)(hmo:mode<=4)(hsz:ss.size<=140737488351232)(hst:Std w):qi qd 6 #[fm ((G:Int)+1) F,.int .u64 (b:Int),.int .u8 (mode:Int),decV sn ss sx] w fun e w'=>e=.returned (.bool qj)/\qg w.heap.size w w':=by
 obtain⟨w0,c9⟩:=yx ((w.alloc (.cells #[.int .i64 ((G:Int)+1),.int .i64 (F:Int)] 23)).alloc (.cells #[.bool sn,.string ss,.int .i64 sx] 27));have i:Cx w [(w.heap.size+1,27,[.bool sn,.string ss,.int .i64 sx]),(w.heap.size,23,[.int .i64 ((G:Int)+1),.int .i64 (F:Int)])] w0:=by rw[c9];exact((Cx.nil w).new _ [_,_] rfl).new _ [_,_,_] (by simp)
 have n7:(ss.size:Int)<=140737488351232:=by omega
 have HA:=vv fun w' hs=>q7R w' hs
 have c5:=vv fun b mode w' (hb:b<2^(1+(G+1)+F)) (hf:q0E (G+1) F b≠2^(G+1)-1) (hm:mode<=4) hs=>q5g (G+1) F b mode w' (by omega) (by omega) h3 h4 hb hf hm hs
 have i5:b<2^(G+1+F+1):=by rw[show G+1+F+1=1+(G+1)+F by omega];exact hb
 obtain⟨x1,x2,x3,x4⟩:=q9F (b:=b) (k:=G+1+F) (by omega) i5;have y1:q1h (G+1) F (b ^^^ 2^(G+1+F))=q1h (G+1) F b:=x3;have y2:q1V (G+1) F (b ^^^ 2^(G+1+F))=!q1V (G+1) F b:=x4;have y3:q0E (G+1) F (b ^^^ 2^(G+1+F))≠2^(G+1)-1:=by rw[<- q5z,y1,q5z];exact hf
 have y4:b ^^^ 2^(G+1+F)<2^(1+(G+1)+F):=by rw[show 1+(G+1)+F=G+1+F+1 by omega];exact x2
 obtain⟨z1,z2,z3⟩:=q3m (E:=G+1) (F:=F) (mode:=mode) hmo y1 y2;have d0:=vv fun w'=>q7g mode w' hmo
 have d1:=vv fun w' hs=>c5.o b mode w' hb hf hmo hs
 have M:=vv fun w' hs=>c5.o _ (q7h mode) w' y4 y3 (qbs hmo) hs
 have d4:=vv fun w'=>Dig.Enough_ (G+1) F w' (by omega) (by omega) h3 h4
 have d5:=vv fun w'=>Dig.Sure_ (G+1) F w' (by omega) (by omega) h3 h4
 have eG:(((G+1:Nat):Int))=(G:Int)+1:=by omega
 rw[eG] at d1 M d4 d5;have b8:mode=0->(q0c (G+1) F b mode).S.size<=q0t (2^(F+1))+1:=fun h=>by rw[h];exact q43 h4
 have i6:q0t (2^(F+1))<=20:=q1e (k02 (Dig.big ⟨F+1,by omega⟩) (by decide)) (by decide);have d6:q0t (2^F)<=20:=q1e (k02 (Dig.big ⟨F,by omega⟩) (by decide)) (by decide);obtain⟨d,hd⟩:=yx (q0c (G+1) F b mode);obtain⟨R,i7⟩:=yx (q0c (G+1) F (b ^^^ 2^(G+1+F)) (q7h mode));rw[<- hd] at d1 b8 z1 z2 z3;rw[<- i7] at M z1 z2 z3;obtain⟨b2,i8⟩:=yx (b ^^^ 2^(G+1+F));rw[<- i8] at M x1;obtain⟨m2,i9⟩:=yx (q7h mode);rw[<- i9] at M d0;obtain⟨L1,j0⟩:=yx (q0t (2^(F+1)));obtain⟨L2,j4⟩:=yx (q0t (2^F));rw[<- j0] at d4 b8 i6;rw[<- j4] at d5 d6;obtain⟨EF,c0⟩:∃n:Nat,n=G+1+F:=⟨_,rfl⟩;have o7:(G:Int)+1+(F:Int)=(EF:Int):=by omega
 obtain⟨PW,hP⟩:∃P:Nat,P=2^EF:=⟨_,rfl⟩;have l6:PW<=9223372036854775808:=by rw[hP];exact k06 (k04 (by decide) (show EF<=63 by omega)) (by decide)
 have o8:IntKind.u64.wrap ((2:Int)^EF)=(PW:Int):=by
  have e:((2:Int)^EF)=(PW:Int):=by rw[hP,k0D];rfl
  rw[e,qh];omega
 rw[<- c0,<- hP] at x1;have W:=vv fun w'=>Dec.Check sn ss sx w' (by omega)
 have HZ:=vv q59;obtain⟨N,hN⟩:=yx (dvk ss ss.size);obtain⟨q,hq⟩:=yx (wo N sx);obtain⟨L,d7⟩:=yx (qa ((sq sn q).num<0));have b4:=qbb sn q;obtain⟨o,ho⟩:=yx (q0h (G+1) F L sn 0 q.num.natAbs q.den);have a0:Hid (q0G ss sx=qj->ss.size<=100->-2000<=sx->sx<=2000->(∀w',Std w'->qi qd 19 #[decV sn ss sx] w' fun e c6=>∃X n Y m,e=.returned (.tuple #[q0i L X n n Y m m,.int .i64 0])/\RN c6 X n n q.num.natAbs/\RN c6 Y m m q.den/\qg w'.heap.size w' c6) /\(∀X n c Y m d w',RN w' X n c q.num.natAbs->RN w' Y m d q.den->Std w'->qi qd 20 #[fm ((G:Int)+1) F,q0i L X n c Y m d,.bool sn,.int .u8 0] w' (q2K o w')) /\((bits .and .u8 ((o.2:Nat):Int) 6==0)=qj->(∀w',Std w'->qi qd 8 #[fm ((G:Int)+1) F,.int .u64 (o.1:Int),.int .u8 0] w' (qaM (q0c (G+1) F o.1 0) w'))/\(q0c (G+1) F o.1 0).S.size<=ss.size)):=vv fun c1 l7 o9 p0=>by
  obtain⟨-,-,-,j5⟩:=q2R c1;have p1:q0t N<=100:=by
   rcases k01 ss.size with u|u
   ·rw[hN,u];show Lib.nDigits 0<=100;rw[Lib.nDigits_small (by decide)];decide
   ·exact k06 (q1e (by rw[hN];exact q4C ss j5 _ lr) u) l7
  have j6:Qb 73000 q:=by rw[hq];exact q9G (by omega) (by omega) (by omega)
  have e2:∀{X:Option Addr} {n c:Nat} {w':qk},RN w' X n c q.num.natAbs->n<=16384:=fun k=>rd_le k.r (by have:=j6.1;omega)
  have e3:∀{X:Option Addr} {n c:Nat} {w':qk},RN w' X n c q.den->n<=16384:=fun k=>rd_le k.r (by have:=j6.2;omega)
  refine⟨fun w' hs=>?_,fun X n c Y m d w' k1 k2 hs=>?_,fun hfl=>?_⟩
  ·refine(Dcm.RatioE sn ss sx w' c1 (by omega) (by omega) (by omega) hs).mono ?_;rintro e c6 ⟨b',X,n,Y,m,rfl,k,g⟩;have k1:=k.s;have k2:=k.x;have k3:=k.y;rw[<- hN,<- hq] at k1 k2 k3;rw[b4.1] at k2;rw[b4.2] at k3;rw[<- d7] at k1;subst k1;exact⟨X,n,Y,m,rfl,⟨k2⟩,⟨k3⟩,g⟩
  ·rw[ho];have u:L=qj->0<q.num.natAbs:=fun h=>by rw[d7,k0C] at h;rw[<- b4.1];omega
   exact Rnd.RatioG G F L sn 0 X n c Y m d _ _ w' g1 g2 h3 h4 (by decide) k1.r k2.r (e2 k1) (e3 k2) q.den_pos q.reduced u hs
  ·rw[ho] at hfl;obtain⟨a1,a2,a3,a4⟩:=q7V (E:=G+1) (F:=F) (below:=L) (neg:=sn) (N:=N) (x:=sx) (q:=q) (by omega) h3 hq (by omega) hfl;rw[<- ho] at a1 a2 a3 a4;refine⟨fun w' hs=>?_,?_⟩
   ·have:=c5.o o.1 0 w' a1 a2 (by decide) hs;rw[eG] at this;exact this
   ·rcases k01 N with u|u
    ·rw[a4 u];exact k0x _
    ·have l8:0<ss.size:=by
      rcases k01 ss.size with k|k
      ·rw[hN,k,q5O] at u;exact absurd u (by decide)
      ·exact k
     exact k06 (a3 u) (q1e (by rw[hN];exact q4C ss j5 _ lr) l8)
 obtain⟨NN,j7⟩:=yx (q.num.natAbs);obtain⟨DD,j8⟩:=yx (q.den);obtain⟨d3,j9⟩:=yx (q0c (G+1) F o.1 0);rw[<- j7,<- j8,<- j9] at a0;obtain⟨o1,o2⟩:=o;dsimp only at a0;have e4:(d.S.size:Int)<=100\/(mode:Int)≠0:=by
  by_cases h:mode=0
  ·have:=b8 h;left;omega
  ·right;omega
 have c2:=vv b8;have k0:=vv z1;have k4:=vv z2;have k5:=vv z3;have hG:(G:Int)<=10:=by omega
 have p2:(F:Int)<=52:=by omega
 have n8:(L1:Int)<=20:=by omega
 have n9:(L2:Int)<=20:=by omega
 have H:=vv hst;have f:=vv i;have HW:=vv c9;have o0:(EF:Int)<=63:=by omega
 have l9:=vv d6;clear c9 i hst g1 g2 h3 h4 hb hf hsz i5 x2 x3 x4 y1 y2 y3 y4 z1 z2 z3 eG b8 i6 d6 hd i7 i8 i9 j0 j4 c0 hP l6 hN hq d7 b4 ho j7 j8 j9 c5 e4;go_enter func6,ntmps6;go_wp2_with fail;rw[<- HW.o];refine(HA.o _ (f.o.std H.o)).mono ?_;rintro e w1 ⟨rfl,g⟩;replace f:=vv (f.o.step g);clear g;have m0:w1.cell? ⟨w.heap.size,0,qc⟩=qb (.int .i64 ((G:Int)+1)):=(f.o.get 1 rfl).cell 0;have m1:w1.cell? ⟨w.heap.size,1,qc⟩=qb (.int .i64 (F:Int)):=(f.o.get 1 rfl).cell 1;have m3:=(f.o.get 1 rfl).lt;go_wp2_with fail;refine(d1.o _ (f.o.std H.o)).mono ?_;rintro e w5 ⟨rfl,g⟩;replace f:=vv (f.o.step g);clear m0 m1 m3 g;have m4:w5.cell? ⟨w.heap.size,0,qc⟩=qb (.int .i64 ((G:Int)+1)):=(f.o.get 1 rfl).cell 0;have m5:w5.cell? ⟨w.heap.size,1,qc⟩=qb (.int .i64 (F:Int)):=(f.o.get 1 rfl).cell 1;have m6:=(f.o.get 1 rfl).lt;go_upto_region 8 with fail;obtain⟨O,Q⟩:=yx (w5.heap.size);obtain⟨w9,C⟩:=yx (w5.alloc (.cells #[.bool d.neg,.string d.S,.int .i64 d.x] 27));have g:qg w5.heap.size w5 w9:=by rw[C];exact(qe _ _).alloc lr _
 have i:=f.o.new 27 [.bool d.neg,.string d.S,.int .i64 d.x] Q;rw[<- C] at i 
 try rw[<- C]
 try rw[<- Q]
 replace f:=vv i;clear m4 m5 m6 C g i Q;go_cut [13,14] (fun s13 s14 wx=>∃z:Nat,s13=.pointer (qb ⟨z,0,qc⟩)/\s14=.int .i64 0/\Cx w [(z,27,[.bool R.neg,.string R.S,.int .i64 R.x]),(O,27,[.bool d.neg,.string d.S,.int .i64 d.x]),(w.heap.size+1,27,[.bool sn,.string ss,.int .i64 sx]),(w.heap.size,23,[.int .i64 ((G:Int)+1),.int .i64 (F:Int)])] wx)
 case first =>
  go_wp2_with fail;have b5:w9.cell? ⟨w.heap.size,0,qc⟩=qb (.int .i64 ((G:Int)+1)):=(f.o.get 2 rfl).cell 0;have b6:w9.cell? ⟨w.heap.size,1,qc⟩=qb (.int .i64 (F:Int)):=(f.o.get 2 rfl).cell 1;have e5:=(f.o.get 2 rfl).lt;refine q02 (fun w'=>w'.cell? ⟨w.heap.size,0,qc⟩=qb (.int .i64 ((G:Int)+1))/\w'.cell? ⟨w.heap.size,1,qc⟩=qb (.int .i64 (F:Int))) 12
   (.still 0 (.still 1 (.still 2 (.still 3 (.still 4 (.two 5 (.two 6 (.still 7 (.still 8 (.still 9 (.one 10 (.one 11 .done))))) 10 (.one 6 (.still 7 (.still 8 (.still 9 (.one 11 .done)))))) 10 (.one 5 (.one 6 (.still 7 (.still 8 (.still 9 (.one 11 .done)))))))))))) (by kernel_rfl) (by kernel_rfl) (fun _ _ d _ _ h=>by cases d<;>exact h) ⟨b5,b6⟩ (fun hS0=>?_)
  iterate 5
   refine q01 (v:=?_) rfl (by rfl) ?_ ?_;rotate_left
   ·intro w d8;go_simp;with_reducible rfl
   simp only[Act.put,sa,sb,sc]
  clear e5 b5 b6;obtain⟨Z,d9⟩:=yx (w9.drew);have g:qg w9.heap.size w9 Z:=by rw[d9];exact q05 (qe _ _)
  replace f:=vv (f.o.step g);rw[<- d9] at hS0 ⊢;clear d9 g;refine q0C rfl (by rfl) rfl (by rfl) (fun K hK=>?_) (fun K hK=>?_)
  focus
   go_simp;refine(d0.o Z).mono ?_;rintro e b9 ⟨rfl,g⟩;replace f:=vv (f.o.step g);clear g;go_wp2_with fail;refine hK.out _ _ ⟨(f.o.get 2 rfl).cell 0,(f.o.get 2 rfl).cell 1⟩ (fun I=>?_);clear hK;refine q0C rfl (by rfl) rfl (by rfl) (fun K hK=>?_) (fun K hK=>?_)
   focus
    go_simp;refine(M.o b9 (f.o.std H.o)).mono ?_;rintro e c7 ⟨rfl,g⟩;replace f:=vv (f.o.step g);clear g;go_wp2_with fail;refine hK.out _ _ ⟨(f.o.get 2 rfl).cell 0,(f.o.get 2 rfl).cell 1⟩ (fun I=>?_);clear hK
    iterate 3
     refine q01 (v:=?_) rfl (by rfl) ?_ ?_;rotate_left
     ·intro w d8;go_simp;with_reducible rfl
     simp only[Act.put,sa,sb,sc]
    refine q03 rfl (by rfl) (fun K hK=>?_);go_simp;obtain⟨z,p⟩:=yx (c7.heap.size);obtain⟨k6,l⟩:=yx (c7.alloc (.cells #[.bool qf,.string ⟨#[]⟩,.int .i64 0] 27));have g:qg c7.heap.size c7 k6:=by rw[l];exact(qe _ _).alloc lr _
    have i:=f.o.new 27 [.bool qf,.string ⟨#[]⟩,.int .i64 0] p;rw[<- l] at i
    try rw[<- l]
    try rw[<- p]
    replace f:=vv i;clear g i l p;refine hK.out _ _ ⟨(f.o.get 3 rfl).cell 0,(f.o.get 3 rfl).cell 1⟩ (fun I=>?_);clear hK;obtain⟨wz,T⟩:=yx (k6);subst T
   rotate_left 1
   focus
    go_simp;obtain⟨z,p⟩:=yx (b9.heap.size);obtain⟨k7,l⟩:=yx (b9.alloc (.cells #[.bool qf,.string ⟨#[]⟩,.int .i64 0] 27));have g:qg b9.heap.size b9 k7:=by rw[l];exact(qe _ _).alloc lr _
    have i:=f.o.new 27 [.bool qf,.string ⟨#[]⟩,.int .i64 0] p;rw[<- l] at i
    try rw[<- l]
    try rw[<- p]
    replace f:=vv i;clear g i l p;refine hK.out _ _ ⟨(f.o.get 3 rfl).cell 0,(f.o.get 3 rfl).cell 1⟩ (fun I=>?_);clear hK;refine q03 rfl (by rfl) (fun K hK=>?_);go_simp;refine(M.o k7 (f.o.std H.o)).mono ?_;rintro e m7 ⟨rfl,g⟩;replace f:=vv (f.o.step g);clear g;go_wp2_with fail;refine hK.out _ _ ⟨(f.o.get 3 rfl).cell 0,(f.o.get 3 rfl).cell 1⟩ (fun I=>?_);clear hK
    iterate 3
     refine q01 (v:=?_) rfl (by rfl) ?_ ?_;rotate_left
     ·intro w d8;go_simp;with_reducible rfl
     simp only[Act.put,sa,sb,sc]
    obtain⟨wz,T⟩:=yx (m7);subst T
  rotate_left 2
  focus
   go_simp;obtain⟨z,p⟩:=yx (Z.heap.size);obtain⟨k8,l⟩:=yx (Z.alloc (.cells #[.bool qf,.string ⟨#[]⟩,.int .i64 0] 27));have g:qg Z.heap.size Z k8:=by rw[l];exact(qe _ _).alloc lr _
   have i:=f.o.new 27 [.bool qf,.string ⟨#[]⟩,.int .i64 0] p;rw[<- l] at i
   try rw[<- l]
   try rw[<- p]
   replace f:=vv i;clear g i l p;refine hK.out _ _ ⟨(f.o.get 3 rfl).cell 0,(f.o.get 3 rfl).cell 1⟩ (fun I=>?_);clear hK;refine q03 rfl (by rfl) (fun K hK=>?_);go_simp;refine(d0.o k8).mono ?_;rintro e m8 ⟨rfl,g⟩;replace f:=vv (f.o.step g);clear g;go_wp2_with fail;refine hK.out _ _ ⟨(f.o.get 3 rfl).cell 0,(f.o.get 3 rfl).cell 1⟩ (fun I=>?_);clear hK;refine q03 rfl (by rfl) (fun K hK=>?_);go_simp;refine(M.o m8 (f.o.std H.o)).mono ?_;rintro e c8 ⟨rfl,g⟩;replace f:=vv (f.o.step g);clear g;go_wp2_with fail;refine hK.out _ _ ⟨(f.o.get 3 rfl).cell 0,(f.o.get 3 rfl).cell 1⟩ (fun I=>?_);clear hK
   iterate 3
    refine q01 (v:=?_) rfl (by rfl) ?_ ?_;rotate_left
    ·intro w d8;go_simp;with_reducible rfl
    simp only[Act.put,sa,sb,sc]
   obtain⟨wz,T⟩:=yx (c8);subst T
  all_goals
   refine q03 rfl (by rfl) (fun K hK=>?_);have k9:=vv (f.o.get 0 rfl)
   with_reducible refine q0u 27 (.tmp 13) (.tmp 48) rfl z [.bool R.neg,.string R.S,.int .i64 R.x] rfl rfl 27 _ k9.o (by kernel_rfl) rfl rfl ?_
   intro p3 l0 hg;replace f:=vv (f.o.put 0 rfl l0 hg);clear k9 l0 hg;refine hK.out _ _ ⟨(f.o.get 3 rfl).cell 0,(f.o.get 3 rfl).cell 1⟩ (fun I=>?_);clear hK;refine q07 ?_;simp only[k0H,k0M];go_wp2_with fail;go_meet;exact⟨z,rfl,rfl,f.o⟩
 case rest =>
  obtain⟨z,rfl,rfl,i⟩:=hcut;replace f:=vv i;clear i;obtain⟨dn,dS,dx⟩:=d;obtain⟨en,eS,ex⟩:=R;dsimp only at f k0 k4 k5 c2;have m9:=k0.o;have n0:=k4.o.symm;have n1:=k5.o.symm;subst m9 n0 n1;have b5:wc.cell? ⟨z,0,qc⟩=qb (.bool !dn):=(f.o.get 0 rfl).cell 0;have b6:wc.cell? ⟨z,1,qc⟩=qb (.string dS):=(f.o.get 0 rfl).cell 1;have e6:wc.cell? ⟨z,2,qc⟩=qb (.int .i64 dx):=(f.o.get 0 rfl).cell 2;have e7:=(f.o.get 0 rfl).lt;have e8:wc.cell? ⟨O,0,qc⟩=qb (.bool dn):=(f.o.get 1 rfl).cell 0;have e9:wc.cell? ⟨O,1,qc⟩=qb (.string dS):=(f.o.get 1 rfl).cell 1;have f0:wc.cell? ⟨O,2,qc⟩=qb (.int .i64 dx):=(f.o.get 1 rfl).cell 2;have f1:=(f.o.get 1 rfl).lt;have f2:wc.cell? ⟨w.heap.size,0,qc⟩=qb (.int .i64 ((G:Int)+1)):=(f.o.get 3 rfl).cell 0;have f3:wc.cell? ⟨w.heap.size,1,qc⟩=qb (.int .i64 (F:Int)):=(f.o.get 3 rfl).cell 1;have f4:=(f.o.get 3 rfl).lt;have s1:(dS.toList==dS.toList)=qj:=beq_self_eq_true _;have s2:(dx==dx)=qj:=beq_self_eq_true _;have s3:(!dn==dn)=qf:=by cases dn<;>rfl
  go_wp2_with fail;refine(d4.o _).mono ?_;rintro e c8 ⟨rfl,g⟩;replace f:=vv (f.o.step g);clear b5 b6 e6 e7 e8 e9 f0 f1 f2 f3 f4 g;have f5:c8.cell? ⟨w.heap.size,0,qc⟩=qb (.int .i64 ((G:Int)+1)):=(f.o.get 3 rfl).cell 0;have f6:c8.cell? ⟨w.heap.size,1,qc⟩=qb (.int .i64 (F:Int)):=(f.o.get 3 rfl).cell 1;have f7:=(f.o.get 3 rfl).lt;go_wp2_with fail;refine(d5.o _).mono ?_;rintro e b7 ⟨rfl,g⟩;replace f:=vv (f.o.step g);clear f5 f6 f7 g;have T:(((mode:Int)==0)=qj/\qa ((L1:Int)+1<(dS.size:Int))=qf)\/((mode:Int)==0)=qf:=by
   by_cases h:mode=0
   ·have:=c2.o h;exact .inl ⟨by rw[h];rfl,k00 (by omega)⟩
   ·exact .inr (k09.2 (by omega))
  obtain⟨er,l1⟩:=yx (q1j ss sx);have t:=HZ.o ss sx;rw[<- l1] at W t;have f8:=l9.o;have c4:q0G ss sx=qf\/(q0G ss sx=qj/\(qa ((L2:Int)-1<(ss.size:Int))=qj\/(qa ((L2:Int)-1<(ss.size:Int))=qf/\ss.size<=100/\(qa ((2000:Int)<sx)=qj\/(qa ((2000:Int)<sx)=qf/\sx<=2000/\(qa (sx < -2000)=qj\/(qa (sx < -2000)=qf /\ -2000<=sx))))))):=by
   cases hm:q0G ss sx
   ·exact .inl rfl
   ·refine .inr ⟨rfl,?_⟩;by_cases a:(L2:Int)-1<(ss.size:Int)
    ·exact .inl (k03 a)
    ·refine .inr ⟨k00 a,by omega,?_⟩;by_cases b:(2000:Int)<sx
     ·exact .inl (k03 b)
     ·refine .inr ⟨k00 b,by omega,?_⟩;by_cases c:sx < -2000
      ·exact .inl (k03 c)
      ·exact .inr ⟨k00 c,by omega⟩
  clear f8 l1;have f9:b7.cell? ⟨O,0,qc⟩=qb (.bool dn):=(f.o.get 1 rfl).cell 0;have g0:b7.cell? ⟨O,1,qc⟩=qb (.string dS):=(f.o.get 1 rfl).cell 1;have g3:b7.cell? ⟨O,2,qc⟩=qb (.int .i64 dx):=(f.o.get 1 rfl).cell 2;have g4:=(f.o.get 1 rfl).lt;rcases T with ⟨t0,t1⟩|t0;all_goals
   go_upto_region 15 with fail;clear f9 g0 g3 g4;have a5:b7.cell? ⟨(w.heap.size+1),0,qc⟩=qb (.bool sn):=(f.o.get 2 rfl).cell 0;have a6:b7.cell? ⟨(w.heap.size+1),1,qc⟩=qb (.string ss):=(f.o.get 2 rfl).cell 1;have a7:b7.cell? ⟨(w.heap.size+1),2,qc⟩=qb (.int .i64 sx):=(f.o.get 2 rfl).cell 2;have a8:=(f.o.get 2 rfl).lt;rcases c4 with k|⟨k,k1|⟨k1,j1,k2|⟨k2,j2,k3|⟨k3,j3⟩⟩⟩⟩
   ·rw[k] at t;have J:¬er=0:=by simpa using t
    go_wp2_with fail;refine(W.o _).mono ?_;rintro e j ⟨rfl,g⟩;replace f:=vv (f.o.step g);clear a5 a6 a7 a8 g;have a9:j.cell? ⟨(w.heap.size+1),0,qc⟩=qb (.bool sn):=(f.o.get 2 rfl).cell 0;have b0:j.cell? ⟨(w.heap.size+1),1,qc⟩=qb (.string ss):=(f.o.get 2 rfl).cell 1;have b1:j.cell? ⟨(w.heap.size+1),2,qc⟩=qb (.int .i64 sx):=(f.o.get 2 rfl).cell 2;have b3:=(f.o.get 2 rfl).lt;go_wp2;go_ret;exact⟨rfl,f.o.low⟩
   ·rw[k] at t;have J:er=0:=by simpa using t
    subst J;go_wp2_with fail;refine(W.o _).mono ?_;rintro e j ⟨rfl,g⟩;replace f:=vv (f.o.step g);clear a5 a6 a7 a8 g;have a9:j.cell? ⟨(w.heap.size+1),0,qc⟩=qb (.bool sn):=(f.o.get 2 rfl).cell 0;have b0:j.cell? ⟨(w.heap.size+1),1,qc⟩=qb (.string ss):=(f.o.get 2 rfl).cell 1;have b1:j.cell? ⟨(w.heap.size+1),2,qc⟩=qb (.int .i64 sx):=(f.o.get 2 rfl).cell 2;have b3:=(f.o.get 2 rfl).lt;go_wp2;go_ret;exact⟨rfl,f.o.low⟩
   ·rw[k] at t;have J:er=0:=by simpa using t
    subst J;go_wp2_with fail;refine(W.o _).mono ?_;rintro e j ⟨rfl,g⟩;replace f:=vv (f.o.step g);clear a5 a6 a7 a8 g;have a9:j.cell? ⟨(w.heap.size+1),0,qc⟩=qb (.bool sn):=(f.o.get 2 rfl).cell 0;have b0:j.cell? ⟨(w.heap.size+1),1,qc⟩=qb (.string ss):=(f.o.get 2 rfl).cell 1;have b1:j.cell? ⟨(w.heap.size+1),2,qc⟩=qb (.int .i64 sx):=(f.o.get 2 rfl).cell 2;have b3:=(f.o.get 2 rfl).lt;go_wp2;go_ret;exact⟨rfl,f.o.low⟩
   ·rw[k] at t;have J:er=0:=by simpa using t
    subst J;go_wp2_with fail;refine(W.o _).mono ?_;rintro e j ⟨rfl,g⟩;replace f:=vv (f.o.step g);clear a5 a6 a7 a8 g;have a9:j.cell? ⟨(w.heap.size+1),0,qc⟩=qb (.bool sn):=(f.o.get 2 rfl).cell 0;have b0:j.cell? ⟨(w.heap.size+1),1,qc⟩=qb (.string ss):=(f.o.get 2 rfl).cell 1;have b1:j.cell? ⟨(w.heap.size+1),2,qc⟩=qb (.int .i64 sx):=(f.o.get 2 rfl).cell 2;have b3:=(f.o.get 2 rfl).lt;go_wp2;go_ret;exact⟨rfl,f.o.low⟩
   ·rw[k] at t;have J:er=0:=by simpa using t
    subst J;obtain⟨l2,l3,l4⟩:=a0.o k j1 j3 j2;have n2:=vv l2;have n3:=vv l3;have e0:=vv l4;clear l2 l3 l4 a0 k j1 j2 j3;go_wp2_with fail;refine(W.o _).mono ?_;rintro e j ⟨rfl,g⟩;replace f:=vv (f.o.step g);clear a5 a6 a7 a8 g;have a9:j.cell? ⟨(w.heap.size+1),0,qc⟩=qb (.bool sn):=(f.o.get 2 rfl).cell 0;have b0:j.cell? ⟨(w.heap.size+1),1,qc⟩=qb (.string ss):=(f.o.get 2 rfl).cell 1;have b1:j.cell? ⟨(w.heap.size+1),2,qc⟩=qb (.int .i64 sx):=(f.o.get 2 rfl).cell 2;have b3:=(f.o.get 2 rfl).lt;go_wp2_with fail;refine(n2.o _ (f.o.std H.o)).mono ?_;rintro e D ⟨X,n,Y,m,rfl,hX,hY,g⟩;replace f:=vv (f.o.step g);have U:=vv hX;have V:=vv hY;clear a9 b0 b1 b3 g hX hY;have g5:D.cell? ⟨(w.heap.size+1),0,qc⟩=qb (.bool sn):=(f.o.get 2 rfl).cell 0;have g6:D.cell? ⟨(w.heap.size+1),1,qc⟩=qb (.string ss):=(f.o.get 2 rfl).cell 1;have g7:D.cell? ⟨(w.heap.size+1),2,qc⟩=qb (.int .i64 sx):=(f.o.get 2 rfl).cell 2;have g8:=(f.o.get 2 rfl).lt;have g9:D.cell? ⟨w.heap.size,0,qc⟩=qb (.int .i64 ((G:Int)+1)):=(f.o.get 3 rfl).cell 0;have i0:D.cell? ⟨w.heap.size,1,qc⟩=qb (.int .i64 (F:Int)):=(f.o.get 3 rfl).cell 1;have i1:=(f.o.get 3 rfl).lt;go_wp2_with fail;obtain⟨p4,Q⟩:=yx (D.heap.size);obtain⟨n4,C⟩:=yx (D.alloc (.cells #[.bool L,.slice X n n,.slice Y m m] 39));have g:qg D.heap.size D n4:=by rw[C];exact(qe _ _).alloc lr _
    have i:=f.o.new 39 [.bool L,.slice X n n,.slice Y m m] Q;rw[<- C] at i 
    try rw[<- C]
    try rw[<- Q]
    replace f:=vv i;replace U:=vv (U.o.below g);replace V:=vv (V.o.below g);clear g5 g6 g7 g8 g9 i0 i1 C g i Q;refine(n3.o _ _ _ _ _ _ _ U.o V.o (f.o.std H.o)).mono ?_;rintro e l5 ⟨rfl,g⟩;replace f:=vv (f.o.step g);replace U:=vv (U.o.below g);replace V:=vv (V.o.below g);clear g;cases hfl:(bits .and .u8 (o2:Int) 6==0)
    ·clear e0;go_wp2;go_ret;exact⟨rfl,f.o.low⟩
    ·obtain⟨hr,c3⟩:=e0.o hfl;have n5:=vv hr;have n6:=vv c3;clear hr c3 e0;have i2:l5.cell? ⟨w.heap.size,0,qc⟩=qb (.int .i64 ((G:Int)+1)):=(f.o.get 4 rfl).cell 0;have i3:l5.cell? ⟨w.heap.size,1,qc⟩=qb (.int .i64 (F:Int)):=(f.o.get 4 rfl).cell 1;have i4:=(f.o.get 4 rfl).lt;go_wp2_with fail;refine(n5.o _ (f.o.std H.o)).mono ?_;rintro e e1 ⟨rfl,g⟩;replace f:=vv (f.o.step g);replace U:=vv (U.o.below g);replace V:=vv (V.o.below g);clear i2 i3 i4 g;have o3:e1.cell? ⟨(w.heap.size+1),0,qc⟩=qb (.bool sn):=(f.o.get 3 rfl).cell 0;have o4:e1.cell? ⟨(w.heap.size+1),1,qc⟩=qb (.string ss):=(f.o.get 3 rfl).cell 1;have o5:e1.cell? ⟨(w.heap.size+1),2,qc⟩=qb (.int .i64 sx):=(f.o.get 3 rfl).cell 2;have o6:=(f.o.get 3 rfl).lt;go_wp2;go_ret;exact⟨q4K (k03 n6.o),f.o.low.alloc f.o.low.size _⟩
theorem ShortMirrored(E F:Int)(b mode:Nat)(sn:Bool)(ss:ByteArray)(sx:Int)(w:qk)(hb:b<18446744073709551616)(hm:mode<256)(hsz:ss.size<=140737488351232)(hst:Std w):qi qd 6 #[fm E F,.int .u64 (b:Int),.int .u8 (mode:Int),decV sn ss sx] w fun e w'=>e=.returned (.bool qj)/\qg w.heap.size w w':=by
 have a:(q09 E F b≠0\/4<mode\/∃e f:Nat,E=e/\F=f/\q0E e f b=2^e-1)->qi qd 6 #[fm E F,.int .u64 (b:Int),.int .u8 (mode:Int),decV sn ss sx] w fun e w'=>e=.returned (.bool qj)/\qg w.heap.size w w':=fun h=>by
  have d:(q5t E F b mode==0)=qf:=by
   rw[k09];unfold q5t;split
   ·rename_i k;exact k
   ·split<;>decide
  exact qbZ E F b mode _ sn ss sx w d hst fun w'=>q87 E F b mode _ w' d fun w''=>q9c E F b mode w'' hb h
 by_cases h0:q09 E F b=0
 ·by_cases hmo:4<mode
  ·exact a (.inr (.inl hmo))
  ·have c:R3.formOk E F=qj:=by
    cases hf:R3.formOk E F
    ·unfold q09 at h0;rw[hf,k0o (by decide)] at h0;exact absurd h0 (by decide)
    ·rfl
   obtain⟨e,f,rfl,rfl,l,m,i,j⟩:=R3.formOk_nat c;have g:b<2^(1+e+f):=by
    unfold q09 at h0;rw[c,k0n rfl] at h0;have:¬(1+(e:Int)+f<bl b):=fun k=>by rw[k0n k] at h0;exact absurd h0 (by decide)
    exact k02 (q0J b) (k04 (by decide) (by omega))
   by_cases hx:q0E e f b=2^e-1
   ·exact a (.inr (.inr ⟨e,f,rfl,rfl,hx⟩))
   ·obtain⟨G,rfl⟩:∃G,e=G+1:=⟨e-1,by omega⟩;exact qbY G f b mode sn ss sx w (by omega) (by omega) i j g hx (by omega) hsz hst
 ·exact a (.inl h0)
end Sho
end Go.Proofs.YtabcgemembkkcaaGreatDoor
