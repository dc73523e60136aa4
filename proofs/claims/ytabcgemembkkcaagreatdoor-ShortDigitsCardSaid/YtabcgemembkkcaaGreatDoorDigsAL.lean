/- Lemmas. -/
import Derived.Test.YtabcgemembkkcaaGreatDoorDigsAI
import Derived.Deep.RegionHeld3
import Derived.Test.YtabcgemembkkcaaGreatDoorDigsAG
set_option linter.all false
set_option maxHeartbeats 1000000
open Go.Proofs.Tryz
open Go.Proofs.Tryz renaming prog->qa
open Decidable renaming decide->qb
open Go renaming World->qc,Addr->qd,Calls->qe,RowKit.Below.refl->qf,World.size_drew->qg
namespace Go.Proofs.YtabcgemembkkcaaGreatDoor
variable{fq:FuncId}
namespace AB
open Go Go.RowKit
theorem mul_long(A B:Option qd)(n m c d:Nat)(xs ys:List Nat)(w:qc)
  (ih:∀(A B:Option qd) (n' m' c d:Nat) (xs ys:List Nat) (w:qc),n'+m'<n+m->Rd w A n' c xs->Rd w B m' d ys->qe qa fq #[.slice A n' c,.slice B m' d] w (q0g (val xs*val ys) w))
  (ha:Rd w A n c xs) (hb:Rd w B m d ys) (hs:n+m<35184372088832) (h40:40<=m) (h2:2*m<=n) (hq:fq=182\/fq=185:=by decide) :
  qe qa fq #[.slice A n c,.slice B m d] w (q0g (val xs*val ys) w):=by
 have P:=mk1 (n+m) hs;have J:((n+m:Nat):Int)=(n:Int)+(m:Int):=by omega
 rw[J] at P;clear J;have a3:=ha.le;obtain⟨b,off,rfl,a4,_⟩:=ha.cell (by omega);have IH:=vv ih;clear ih;have t1:qb (n<m)=false:=by simp;omega
 have t2:qb ((m:Int)<40)=false:=by simp;omega
 have t3:qb (2*(m:Int)<=(n:Int))=true:=by simp;omega
 rcases hq with rfl|rfl;go_enter func182,ntmps182;rotate_left;go_enter func185,ntmps185;rotate_left;all_goals
  go_wp2_with fail;go_loopw [6] (fun i wr=>∃(p:Nat) (V:List Nat),i=.int .i64 p/\p<=n+m/\V.length=n+m+1/\Own wr w.heap.size 54 V/\val V=val (xs.take p)*val ys/\Below w.heap.size w wr) (fun i _=>n+m-(intOf i).toNat)
  case atStart=>exact⟨0,List.replicate (n+m+1) 0,rfl,k0x _,by simp,Own.made _ _ _,by simp [val,q0d],(qf _ _).alloc lr _⟩
  case round =>
   obtain⟨p,V,rfl,hp,v,r,x,g⟩:=hrel;have K:=vv x;have L:=vv v;have M:=vv r;have hg:=r.lt;have Q:=M;clear x v r;by_cases hpn:p<n
   ·obtain⟨q,a5,a6,y⟩:∃q,q<=m/\p+q<=n/\(xs.drop p).take m=(xs.drop p).take q/\(p+m<=n->q=m)/\(n<p+m->q=n-p):=by
     by_cases h:p+m<=n
     ·exact⟨m,lr,h,rfl,fun _=>rfl,fun h'=>absurd h' (by omega)⟩
     ·refine⟨n-p,by omega,by omega,?_,fun h'=>absurd h' h,fun _=>rfl⟩;rw[q0f (by rw[k0t,ha.len];omega),q0f (by rw[k0t,ha.len];omega)]
    have N:=vv ((((ha.below g rfl).drop (k:=p) (by omega)).take (k:=q) (by omega)));have u:=vv y;clear y;have fin:∀(m':Nat) (l:qc) (f:Option qd) (n1 c1:Nat),Rd l f n1 c1 (toL (val (toL (val ((xs.drop p).take q)))*val ys))->val V+4294967296^p*(val (toL (val ((xs.drop p).take q)))*val ys)=val (xs.take (p+m))*val ys /\val V+4294967296^p*(val (toL (val ((xs.drop p).take q)))*val ys)<4294967296^(n+m+1):=by
     intro m' l f n1 c1 _;have e:val V+4294967296^p*(val (toL (val ((xs.drop p).take q)))*val ys)=val (xs.take (p+m))*val ys:=by rw[K.o,q04,q2R,u.o.1,k1f,k0j]
     refine⟨e,?_⟩;rw[e];have O:=k0y (val ys) (q1x xs (p+m));have h2:=q4i ha.lim hb.lim;rw[ha.len,hb.len] at h2;have h3:4294967296^(n+m)<=4294967296^(n+m+1):=k00 (by omega) (by omega);omega
    have R:=vv fin;clear fin;have HB:=vv (hb.below g rfl);by_cases hpm:p+m<=n
    all_goals
     go_wp2_with fail
     first|(have e:m=q:=(u.o.2.1 hpm).symm)|(have e:n-p=q:=(u.o.2.2 (by omega)).symm)
     subst e;refine(trim _ _ _ _ _ N.o).mono ?_;rintro e w' ⟨m',rfl,rfl,j⟩;have S:=j.words;have a2:m'<=m:=by have O:=N.o.lt;have h2:=q15 O;omega
     clear S;have T:=vv j;clear j;go_wp2_with fail;refine(IH.o _ _ m' m _ _ _ _ _ (by omega) T.o HB.o).mono ?_;rintro e l ⟨f,n1,c1,rfl,s,z,t⟩;have U:=vv (M.o.below t hg);have C:=vv (g.trans (t.mono g.size));have D:=vv (R.o m' l f n1 c1 s);have E:∀a,f=some a->a.block≠w.heap.size:=fun a e=>by have:=z a e;omega
     have W:=vv E;have X:=vv s;clear s z t E;go_wp2_with fail;refine(addAt w.heap.size (n+m+1) (n+m+1) V f n1 c1 p _ _ rfl l U.o L.o (by omega) X.o W.o (by omega) D.o.2).mono ?_;rintro e w2 ⟨rfl,⟨V2,F,G,H⟩,I⟩;have Y:=vv F;have Z:=vv G;have a0:=vv (H.trans D.o.1);have a1:=vv (q0a C.o I (by have:=C.o.size;omega) lr);clear F G H I;go_wp2;go_roundw
     case rel=>exact⟨p+m,V2,by go_num,by omega,Z.o,Y.o,a0.o,a1.o⟩
     case measure=>simp [intOf];omega
   ·have hR:=vv (Q.o.rd (n:=n+m+1) (c:=n+m+1) L.o.symm lr (by omega));go_wp2_with fail;refine(trim _ _ _ _ _ hR.o).mono ?_;rintro e w' ⟨m',rfl,rfl,j⟩;go_wp2;go_ret;refine⟨_,m',n+m+1,rfl,?_,Fr.at_ lr,g⟩;have e:=K.o;rw[q0f (xs:=xs) (by rw[ha.len];omega)] at e;rw[<- e];exact j
theorem mul_short(A B:Option qd)(n m c d:Nat)(xs ys:List Nat)(w:qc)(ha:Rd w A n c xs)(hb:Rd w B m d ys)(hs:n+m<35184372088832)(h40:m<40)(h2:m<=n)(hq:fq=182\/fq=185:=by decide):qe qa fq #[.slice A n c,.slice B m d] w (q0g (val xs*val ys) w):=by
 rcases hq with rfl|rfl;go_enter func182,ntmps182;rotate_left;go_enter func185,ntmps185;rotate_left;all_goals
  go_wp2_with fail;refine(plain A B n m c d xs ys w ha hb (by omega)).mono ?_;rintro e h ⟨g,n1,c1,rfl,a,b,f⟩;go_wp2;go_ret;exact⟨g,n1,c1,rfl,a,b,f⟩
theorem mul_half(A B:Option qd)(n m c d:Nat)(xs ys:List Nat)(w:qc)
  (ih:∀(A B:Option qd) (n' m' c d:Nat) (xs ys:List Nat) (w:qc),n'+m'<n+m->Rd w A n' c xs->Rd w B m' d ys->qe qa fq #[.slice A n' c,.slice B m' d] w (q0g (val xs*val ys) w))
  (ha:Rd w A n c xs) (hb:Rd w B m d ys) (hs:n+m<35184372088832) (h40:40<=m) (h2:n<2*m) (hmn:m<=n) (hq:fq=182\/fq=185:=by decide) :
  qe qa fq #[.slice A n c,.slice B m d] w (q0g (val xs*val ys) w):=by
 have f8:=mk1 (n+m) hs;have ec:((n+m:Nat):Int)=(n:Int)+(m:Int):=by omega
 rw[ec] at f8;clear ec;have i0:=ha.le;have i4:=hb.le;obtain⟨b,off,rfl,i5,_⟩:=ha.cell (by omega);obtain⟨b',F,rfl,g8,_⟩:=hb.cell (by omega);have D:=vv ih;clear ih;have v:Below w.heap.size w (w.alloc (.cells (madeCells #[.int .u32 0] (n+m+1)) 54)):=(qf _ _).alloc lr _;have HA:=vv (ha.below v rfl);have HB:=vv (hb.below v rfl);have HO:=vv (Own.made w (n+m+1) 54);have b0:=vv v;clear v;obtain⟨h,hh,h3,h4⟩:∃h:Nat,((n:Int)+1)/2=(h:Int)/\2*h<=n+1/\n<=2*h:=⟨(n+1)/2,by omega,by omega,by omega⟩;have i1:(0:Int)<=(h:Int):=by omega
 have i2:(h:Int)<=(c:Int):=by omega
 have i3:(h:Int)<=(d:Int):=by omega
 rcases hq with rfl|rfl;go_enter func182,ntmps182;rotate_left;go_enter func185,ntmps185;rotate_left;all_goals
  go_wp2_with fail;have g:=vv (HA.o.take (k:=h) (by omega));have i:=vv (HB.o.take (k:=h) (by omega));have LA:=vv ha.lim;have LB:=vv hb.lim;have b1:=vv ha.len;have b2:=vv hb.len;have f9:=vv ((g.o).lt);have g0:=vv ((i.o).lt);have g1:Hid (val (xs.drop h)<4294967296^h):=vv (q1N (q0Y (q13 ha.lim h)) (by rw[k0t,ha.len];omega));have g2:Hid (val (ys.drop h)<4294967296^h):=vv (q1N (q0Y (q13 hb.lim h)) (by rw[k0t,hb.len];omega));go_region_held3 (fun _=>True) (trivial) (first
   | ((first|go_at_call 259|go_at_call 189);(with_reducible refine(trim _ _ _ _ _ (g.o.drew)).mono ?_);rintro e f ⟨ma,rfl,rfl,G⟩;have i6:ma<=h:=G.trim_le (q0C LA.o _) (by rw[k0v];omega))
   | ((first|go_at_call 259|go_at_call 189);(with_reducible refine(trim _ _ _ _ _ (i.o.drew)).mono ?_);rintro e f ⟨mb,rfl,rfl,I⟩;have i7:mb<=h:=I.trim_le (q0C LB.o _) (by rw[k0v];omega))
   | ((first|go_at_call 182|go_at_call 185);(with_reducible refine(D.o _ _ _ _ _ _ _ _ _ (by omega) G I).mono ?_);intro e w1 b3;obtain⟨A1,n1,c1,rfl,hR1,hF1,hB1⟩:=b3.val2))
  have J:=vv (HA.o.drew.below hB1 rfl);have K:=vv (HB.o.drew.below hB1 rfl);have x:=vv (HO.o.drew.below hB1 (by simp));have N:=vv ((q05 b0.o).trans (hB1.mono (by simp)));have b4:=vv hR1;have g3:=vv (hF1.mono (B:=w.heap.size+1) (by simp));clear G I hR1 hF1 hB1 g i;go_wp2_with fail;have j1:(h:Int)<=(n:Int):=by omega
  have j2:(h:Int)<=(m:Int):=by omega
  have q:=vv ((J.o.drop (k:=h) (by omega)).drew);have i8:¬c=h:=by omega
  obtain⟨Ab,i9,O⟩:∃Ab:Option qd,(if d=h then some (⟨b',F,none⟩:qd) else some ⟨b',F+h,none⟩)=Ab/\∀f,Rd f (some ⟨b',F,none⟩) m d ys->Rd f Ab (m-h) (d-h) (ys.drop h):=by
   by_cases hdh:d=h
   ·exact⟨_,k0p hdh,fun f P=>P.drop0 hdh.symm _⟩
   ·exact⟨_,k0r hdh,fun f P=>P.drop (by omega)⟩
  have a1:=vv O;have r:=vv ((O _ K.o).drew);clear O;go_region_held3 (fun _=>True) (trivial) (first
   | ((first|go_at_call 182|go_at_call 185);(with_reducible refine(D.o _ _ _ _ _ _ _ _ _ (by omega) q.o r.o).mono ?_);rintro e w2 ⟨A2,n2,c2,rfl,b5,b6,j⟩))
  have Q:=vv (J.o.drew.below j rfl);have R:=vv (K.o.drew.below j rfl);have s:=vv (x.o.drew.below j x.o.lt);have t:=vv ((q05 N.o).trans (j.mono (by have:=N.o.size;simpa using this)));have b7:=vv (b4.o.drew.below j rfl);have b8:=vv b5;have S:=vv (b6.mono (B:=w.heap.size+1) (by have:=x.o.lt;rw[qg];omega));clear q r b5 b6 j J K x N b4;go_wp2_with fail;have g:=vv ((Q.o.take (k:=h) (by omega)).drew);have i:=vv ((R.o.take (k:=h) (by omega)).drew);have q:=vv ((Q.o.drop (k:=h) (by omega)).drew);have r:=vv ((a1.o _ R.o).drew);go_region_held3 (fun _=>True) (trivial) (first
   | ((first|go_at_call 259|go_at_call 189);(with_reducible refine(trim _ _ _ _ _ g.o).mono ?_);rintro e f ⟨mc,rfl,rfl,T⟩;have j0:mc<=h:=T.trim_le (q0C LA.o _) (by rw[k0v];omega))
   | ((first|go_at_call 264|go_at_call 184);(with_reducible refine(addWords _ _ _ _ _ _ _ _ _ T q.o (by omega) (by omega)).mono ?_);intro e w3 b9;obtain⟨A3,n3,c3,rfl,hR3,hF3,hB3⟩:=b9.add2;have j3:n3<=h+1:=hR3.bound (q5S f9.o g1.o))
   | ((first|go_at_call 259|go_at_call 189);(with_reducible refine(trim _ _ _ _ _ (i.o.below hB3 rfl)).mono ?_);rintro e f ⟨md,rfl,rfl,U⟩;have g9:md<=h:=U.trim_le (q0C LB.o _) (by rw[k0v];omega))
   | ((first|go_at_call 264|go_at_call 184);(with_reducible refine(addWords _ _ _ _ _ _ _ _ _ U (r.o.below hB3 rfl) (by omega) (by omega)).mono ?_);intro e w4 c0;obtain⟨A4,n4,c4,rfl,hR4,hF4,hB4⟩:=c0.add2;have j4:n4<=h+1:=hR4.bound (q5S g0.o g2.o))
   | ((first|go_at_call 182|go_at_call 185);(with_reducible refine(D.o _ _ _ _ _ _ _ _ _ (by omega) (hR3.below hB4 rfl) hR4).mono ?_);intro e w5 c8;obtain⟨A5,n5,c5,rfl,hR5,hF5,hB5⟩:=c8.val2))
  have V:=vv ((((s.o.drew.below hB3 s.o.lt).below hB4 (k03 s.o.lt hB3.size)).below hB5 (k03 (k03 s.o.lt hB3.size) hB4.size)));have c9:=vv ((((q05 t.o).trans (hB3.mono t.o.size)).trans (hB4.mono (k07 t.o.size hB3.size))).trans (hB5.mono (k07 (k07 t.o.size hB3.size) hB4.size)));have y:=vv (((b7.o.drew.below hB3 rfl).below hB4 rfl).below hB5 rfl);have d0:=vv (((b8.o.drew.below hB3 rfl).below hB4 rfl).below hB5 rfl);have W:=vv hR5;clear g i q r T hR3 hF3 hB3 U hR4 hF4 hB4 hR5 hF5 hB5 Q R s t b7 b8 HA HB HO b0 a1 D;clear b3 b9 c0 c8;have K1:=vv (q6c (val (xs.take h)) (val (xs.drop h)) (val (ys.take h)) (val (ys.drop h)));have K2:=vv (q6b (val (xs.take h)) (val (xs.drop h)) (val (ys.take h)) (val (ys.drop h)));have E:Hid (val (xs.take h)*val (ys.take h)+4294967296^h*((val (xs.take h)+val (xs.drop h))*(val (ys.take h)+val (ys.drop h))-val (xs.take h)*val (ys.take h)-val (xs.drop h)*val (ys.drop h))+4294967296^(2*h)*(val (xs.drop h)*val (ys.drop h))=val xs*val ys):=vv (by have e:=qe2 (val (xs.take h)) (val (xs.drop h)) (val (ys.take h)) (val (ys.drop h)) (4294967296^h);rw[<- q0G xs h (by rw[b1.o];omega),<- q0G ys h (by rw[b2.o];omega),<- k0e,<- Nat.two_mul] at e;exact e);have K4:Hid (val xs*val ys<4294967296^(n+m+1)):=vv (by have e:=q4i LA.o LB.o;rw[b1.o,b2.o] at e;have:4294967296^(n+m)<=4294967296^(n+m+1):=k00 (by omega) (by omega);omega);generalize hL:val (xs.take h)*val (ys.take h)=L at *
  generalize hH:val (xs.drop h)*val (ys.drop h)=H at *
  generalize hM:(val (xs.take h)+val (xs.drop h))*(val (ys.take h)+val (ys.drop h))=M at *
  clear hL hH hM;have d1:=vv V.o.lt;go_wp2_with fail;refine(subWords _ _ _ _ _ _ _ _ _ W.o y.o (by rw[q04,q04];exact K1.o) (y.o.le_of W.o K1.o)).mono ?_;intro e w6 d2;obtain⟨A6,n6,c6,rfl,d3,g4,l⟩:=d2.sub2;have z:=vv (d0.o.below l rfl);have d4:=vv (y.o.below l rfl);have d5:=vv (V.o.below l d1.o);have d6:=vn c9 l;have X:=vv d3;have S6:=vv (k07 d1.o l.size);clear d2 d3 g4 l d0 y V c9 W;go_wp2_with fail;refine(subWords _ _ _ _ _ _ _ _ _ X.o z.o (by rw[q04,q04];exact K2.o) (z.o.le_of X.o K2.o)).mono ?_;intro e w7 d7;obtain⟨A7,n7,c7,rfl,d8,d9,u⟩:=d7.sub2;have e0:=vv (z.o.below u rfl);have e1:=vv (d4.o.below u rfl);have e2:=vv (d5.o.below u S6.o);have Y:=vn d6 u;have e3:=vv d8;have e4:=vv (d9.mono (B:=w.heap.size+1) S6.o);clear d7 d8 d9 u z d4 d5 d6 X;have e5:∀(A:Option qd),Fr (w.heap.size+1) A->∀a,A=some a->a.block≠w.heap.size:=fun _ hf a e=>by have:=hf a e;omega
  have p:=vv e5;clear e5;go_wp2_with fail;refine(addAt w.heap.size (n+m+1) (n+m+1) (List.replicate (n+m+1) 0) A1 n1 c1 0 L 0 rfl w7 e2.o (by simp) (by omega) e1.o (p.o _ g3.o) (by omega) (by rw[q0d,k0B];have:=E.o;have:=K4.o;omega)).mono ?_;rintro e w8 ⟨rfl,⟨V8,e6,e7,Z⟩,C⟩;rw[q0d,k0B,k10,k0S] at Z;have e8:=vv e6;have e9:=vv e7;have f0:=vv Z;have f1:=vv (e3.o.only C (p.o _ e4.o));have f2:=vv (e0.o.only C (p.o _ S.o));have a5:=vv (q0a Y.o C Y.o.size lr);clear e6 e7 Z C e2 e1 e3 e0 Y;go_wp2_with fail;refine(addAt w.heap.size (n+m+1) (n+m+1) V8 A7 n7 c7 h (M-L-H) _ rfl w8 e8.o e9.o (by omega) f1.o (p.o _ e4.o) (by omega) (by rw[f0.o];have:=E.o;have:=K4.o;omega)).mono ?_;rintro e w9 ⟨rfl,⟨V9,f3,f4,a6⟩,a7⟩;rw[f0.o] at a6;have g5:=vv f3;have g6:=vv f4;have f5:=vv a6;have g7:=vv (f2.o.only a7 (p.o _ S.o));have f6:=vv (q0a a5.o a7 a5.o.size lr);clear f3 f4 a6 a7 e8 e9 f1 f2 a5;go_wp2_with fail;refine(addAt w.heap.size (n+m+1) (n+m+1) V9 A2 n2 c2 (2*h) H _ (by omega) w9 g5.o g6.o (by omega) g7.o (p.o _ S.o) (by omega) (by rw[f5.o,E.o];exact K4.o)).mono ?_;rintro e j5 ⟨rfl,⟨j6,a2,a3,a0⟩,a4⟩;rw[f5.o,E.o] at a0;have a8:=vv (q0a f6.o a4 f6.o.size lr);have a9:=vv a0;have hR:=vv (a2.rd (n:=n+m+1) (c:=n+m+1) a3.symm lr (by omega));clear a2 a3 a0 a4;go_wp2_with fail;refine(trim _ _ _ _ _ hR.o).mono ?_;rintro e f ⟨m',rfl,rfl,f7⟩;go_wp2;go_ret;refine⟨_,m',n+m+1,rfl,?_,Fr.at_ lr,a8.o⟩;rw[a9.o] at f7;exact f7
theorem mul_long_sw(A B:Option qd)(n m c d:Nat)(xs ys:List Nat)(w:qc)
  (ih:∀(A B:Option qd) (n' m' c d:Nat) (xs ys:List Nat) (w:qc),n'+m'<n+m->Rd w A n' c xs->Rd w B m' d ys->qe qa fq #[.slice A n' c,.slice B m' d] w (q0g (val xs*val ys) w))
  (ha:Rd w A n c xs) (hb:Rd w B m d ys) (hs:n+m<35184372088832) (h40:40<=m) (h2:2*m<=n) (hq:fq=182\/fq=185:=by decide) :
  qe qa fq #[.slice B m d,.slice A n c] w (q0g (val xs*val ys) w):=by
 have P:=mk1 (n+m) hs;have J:((n+m:Nat):Int)=(n:Int)+(m:Int):=by omega
 rw[J] at P;clear J;have a3:=ha.le;obtain⟨b,off,rfl,a4,_⟩:=ha.cell (by omega);have IH:=vv ih;clear ih;have t1:qb (n<m)=false:=by simp;omega
 have t2:qb ((m:Int)<40)=false:=by simp;omega
 have t3:qb (2*(m:Int)<=(n:Int))=true:=by simp;omega
 have a5:qb (m<n)=true:=by simp;omega
 rcases hq with rfl|rfl;go_enter func182,ntmps182;rotate_left;go_enter func185,ntmps185;rotate_left;all_goals
  go_wp2_with fail;go_loopw [6] (fun i wr=>∃(p:Nat) (V:List Nat),i=.int .i64 p/\p<=n+m/\V.length=n+m+1/\Own wr w.heap.size 54 V/\val V=val (xs.take p)*val ys/\Below w.heap.size w wr) (fun i _=>n+m-(intOf i).toNat)
  case atStart=>exact⟨0,List.replicate (n+m+1) 0,rfl,k0x _,by simp,Own.made _ _ _,by simp [val,q0d],(qf _ _).alloc lr _⟩
  case round =>
   obtain⟨p,V,rfl,hp,v,r,x,g⟩:=hrel;have K:=vv x;have L:=vv v;have M:=vv r;have hg:=r.lt;have Q:=M;clear x v r;by_cases hpn:p<n
   ·obtain⟨q,a6,a7,y⟩:∃q,q<=m/\p+q<=n/\(xs.drop p).take m=(xs.drop p).take q/\(p+m<=n->q=m)/\(n<p+m->q=n-p):=by
     by_cases h:p+m<=n
     ·exact⟨m,lr,h,rfl,fun _=>rfl,fun h'=>absurd h' (by omega)⟩
     ·refine⟨n-p,by omega,by omega,?_,fun h'=>absurd h' h,fun _=>rfl⟩;rw[q0f (by rw[k0t,ha.len];omega),q0f (by rw[k0t,ha.len];omega)]
    have N:=vv ((((ha.below g rfl).drop (k:=p) (by omega)).take (k:=q) (by omega)));have u:=vv y;clear y;have fin:∀(m':Nat) (l:qc) (f:Option qd) (n1 c1:Nat),Rd l f n1 c1 (toL (val (toL (val ((xs.drop p).take q)))*val ys))->val V+4294967296^p*(val (toL (val ((xs.drop p).take q)))*val ys)=val (xs.take (p+m))*val ys /\val V+4294967296^p*(val (toL (val ((xs.drop p).take q)))*val ys)<4294967296^(n+m+1):=by
     intro m' l f n1 c1 _;have e:val V+4294967296^p*(val (toL (val ((xs.drop p).take q)))*val ys)=val (xs.take (p+m))*val ys:=by rw[K.o,q04,q2R,u.o.1,k1f,k0j]
     refine⟨e,?_⟩;rw[e];have O:=k0y (val ys) (q1x xs (p+m));have h2:=q4i ha.lim hb.lim;rw[ha.len,hb.len] at h2;have h3:4294967296^(n+m)<=4294967296^(n+m+1):=k00 (by omega) (by omega);omega
    have R:=vv fin;clear fin;have HB:=vv (hb.below g rfl);by_cases hpm:p+m<=n
    all_goals
     go_wp2_with fail
     first|(have e:m=q:=(u.o.2.1 hpm).symm)|(have e:n-p=q:=(u.o.2.2 (by omega)).symm)
     subst e;refine(trim _ _ _ _ _ N.o).mono ?_;rintro e w' ⟨m',rfl,rfl,j⟩;have S:=j.words;have a2:m'<=m:=by have O:=N.o.lt;have h2:=q15 O;omega
     clear S;have T:=vv j;clear j;go_wp2_with fail;refine(IH.o _ _ m' m _ _ _ _ _ (by omega) T.o HB.o).mono ?_;rintro e l ⟨f,n1,c1,rfl,s,z,t⟩;have U:=vv (M.o.below t hg);have C:=vv (g.trans (t.mono g.size));have D:=vv (R.o m' l f n1 c1 s);have E:∀a,f=some a->a.block≠w.heap.size:=fun a e=>by have:=z a e;omega
     have W:=vv E;have X:=vv s;clear s z t E;go_wp2_with fail;refine(addAt w.heap.size (n+m+1) (n+m+1) V f n1 c1 p _ _ rfl l U.o L.o (by omega) X.o W.o (by omega) D.o.2).mono ?_;rintro e w2 ⟨rfl,⟨V2,F,G,H⟩,I⟩;have Y:=vv F;have Z:=vv G;have a0:=vv (H.trans D.o.1);have a1:=vv (q0a C.o I (by have:=C.o.size;omega) lr);clear F G H I;go_wp2;go_roundw
     case rel=>exact⟨p+m,V2,by go_num,by omega,Z.o,Y.o,a0.o,a1.o⟩
     case measure=>simp [intOf];omega
   ·have hR:=vv (Q.o.rd (n:=n+m+1) (c:=n+m+1) L.o.symm lr (by omega));go_wp2_with fail;refine(trim _ _ _ _ _ hR.o).mono ?_;rintro e w' ⟨m',rfl,rfl,j⟩;go_wp2;go_ret;refine⟨_,m',n+m+1,rfl,?_,Fr.at_ lr,g⟩;have e:=K.o;rw[q0f (xs:=xs) (by rw[ha.len];omega)] at e;rw[<- e];exact j
theorem mul_short_sw(A B:Option qd)(n m c d:Nat)(xs ys:List Nat)(w:qc)(ha:Rd w A n c xs)(hb:Rd w B m d ys)(hs:n+m<35184372088832)(h40:m<40)(h2:m<n)(hq:fq=182\/fq=185:=by decide):qe qa fq #[.slice B m d,.slice A n c] w (q0g (val xs*val ys) w):=by
 have h:qb (m<n)=true:=by simp;omega
 rcases hq with rfl|rfl;go_enter func182,ntmps182;rotate_left;go_enter func185,ntmps185;rotate_left;all_goals
  go_wp2_with fail;refine(plain A B n m c d xs ys w ha hb (by omega)).mono ?_;rintro e i ⟨g,n1,c1,rfl,a,b,f⟩;go_wp2;go_ret;exact⟨g,n1,c1,rfl,a,b,f⟩
theorem mul_half_sw(A B:Option qd)(n m c d:Nat)(xs ys:List Nat)(w:qc)
  (ih:∀(A B:Option qd) (n' m' c d:Nat) (xs ys:List Nat) (w:qc),n'+m'<n+m->Rd w A n' c xs->Rd w B m' d ys->qe qa fq #[.slice A n' c,.slice B m' d] w (q0g (val xs*val ys) w))
  (ha:Rd w A n c xs) (hb:Rd w B m d ys) (hs:n+m<35184372088832) (h40:40<=m) (h2:n<2*m) (hmn:m<n) (hq:fq=182\/fq=185:=by decide) :
  qe qa fq #[.slice B m d,.slice A n c] w (q0g (val xs*val ys) w):=by
 have f8:=mk1 (n+m) hs;have ec:((n+m:Nat):Int)=(n:Int)+(m:Int):=by omega
 rw[ec] at f8;clear ec;have i0:=ha.le;have i4:=hb.le;obtain⟨b,off,rfl,i5,_⟩:=ha.cell (by omega);obtain⟨b',F,rfl,g8,_⟩:=hb.cell (by omega);have D:=vv ih;clear ih;have v:Below w.heap.size w (w.alloc (.cells (madeCells #[.int .u32 0] (n+m+1)) 54)):=(qf _ _).alloc lr _;have HA:=vv (ha.below v rfl);have HB:=vv (hb.below v rfl);have HO:=vv (Own.made w (n+m+1) 54);have b0:=vv v;clear v;obtain⟨h,hh,h3,h4⟩:∃h:Nat,((n:Int)+1)/2=(h:Int)/\2*h<=n+1/\n<=2*h:=⟨(n+1)/2,by omega,by omega,by omega⟩;have i1:(0:Int)<=(h:Int):=by omega
 have i2:(h:Int)<=(c:Int):=by omega
 have i3:(h:Int)<=(d:Int):=by omega
 have i6:qb (m<n)=true:=by simp;omega
 rcases hq with rfl|rfl;go_enter func182,ntmps182;rotate_left;go_enter func185,ntmps185;rotate_left;all_goals
  go_wp2_with fail;have g:=vv (HA.o.take (k:=h) (by omega));have i:=vv (HB.o.take (k:=h) (by omega));have LA:=vv ha.lim;have LB:=vv hb.lim;have b1:=vv ha.len;have b2:=vv hb.len;have f9:=vv ((g.o).lt);have g0:=vv ((i.o).lt);have g1:Hid (val (xs.drop h)<4294967296^h):=vv (q1N (q0Y (q13 ha.lim h)) (by rw[k0t,ha.len];omega));have g2:Hid (val (ys.drop h)<4294967296^h):=vv (q1N (q0Y (q13 hb.lim h)) (by rw[k0t,hb.len];omega));go_region_held3 (fun _=>True) (trivial) (first
   | ((first|go_at_call 259|go_at_call 189);(with_reducible refine(trim _ _ _ _ _ (g.o.drew)).mono ?_);rintro e f ⟨ma,rfl,rfl,G⟩;have i7:ma<=h:=G.trim_le (q0C LA.o _) (by rw[k0v];omega))
   | ((first|go_at_call 259|go_at_call 189);(with_reducible refine(trim _ _ _ _ _ (i.o.drew)).mono ?_);rintro e f ⟨mb,rfl,rfl,I⟩;have i8:mb<=h:=I.trim_le (q0C LB.o _) (by rw[k0v];omega))
   | ((first|go_at_call 182|go_at_call 185);(with_reducible refine(D.o _ _ _ _ _ _ _ _ _ (by omega) G I).mono ?_);intro e w1 b3;obtain⟨A1,n1,c1,rfl,hR1,hF1,hB1⟩:=b3.val2))
  have J:=vv (HA.o.drew.below hB1 rfl);have K:=vv (HB.o.drew.below hB1 rfl);have x:=vv (HO.o.drew.below hB1 (by simp));have N:=vv ((q05 b0.o).trans (hB1.mono (by simp)));have b4:=vv hR1;have g3:=vv (hF1.mono (B:=w.heap.size+1) (by simp));clear G I hR1 hF1 hB1 g i;go_wp2_with fail;have j1:(h:Int)<=(n:Int):=by omega
  have j2:(h:Int)<=(m:Int):=by omega
  have q:=vv ((J.o.drop (k:=h) (by omega)).drew);have i9:¬c=h:=by omega
  obtain⟨Ab,j0,O⟩:∃Ab:Option qd,(if d=h then some (⟨b',F,none⟩:qd) else some ⟨b',F+h,none⟩)=Ab/\∀f,Rd f (some ⟨b',F,none⟩) m d ys->Rd f Ab (m-h) (d-h) (ys.drop h):=by
   by_cases hdh:d=h
   ·exact⟨_,k0p hdh,fun f P=>P.drop0 hdh.symm _⟩
   ·exact⟨_,k0r hdh,fun f P=>P.drop (by omega)⟩
  have a1:=vv O;have r:=vv ((O _ K.o).drew);clear O;go_region_held3 (fun _=>True) (trivial) (first
   | ((first|go_at_call 182|go_at_call 185);(with_reducible refine(D.o _ _ _ _ _ _ _ _ _ (by omega) q.o r.o).mono ?_);rintro e w2 ⟨A2,n2,c2,rfl,b5,b6,j⟩))
  have Q:=vv (J.o.drew.below j rfl);have R:=vv (K.o.drew.below j rfl);have s:=vv (x.o.drew.below j x.o.lt);have t:=vv ((q05 N.o).trans (j.mono (by have:=N.o.size;simpa using this)));have b7:=vv (b4.o.drew.below j rfl);have b8:=vv b5;have S:=vv (b6.mono (B:=w.heap.size+1) (by have:=x.o.lt;rw[qg];omega));clear q r b5 b6 j J K x N b4;go_wp2_with fail;have g:=vv ((Q.o.take (k:=h) (by omega)).drew);have i:=vv ((R.o.take (k:=h) (by omega)).drew);have q:=vv ((Q.o.drop (k:=h) (by omega)).drew);have r:=vv ((a1.o _ R.o).drew);go_region_held3 (fun _=>True) (trivial) (first
   | ((first|go_at_call 259|go_at_call 189);(with_reducible refine(trim _ _ _ _ _ g.o).mono ?_);rintro e f ⟨mc,rfl,rfl,T⟩;have j3:mc<=h:=T.trim_le (q0C LA.o _) (by rw[k0v];omega))
   | ((first|go_at_call 264|go_at_call 184);(with_reducible refine(addWords _ _ _ _ _ _ _ _ _ T q.o (by omega) (by omega)).mono ?_);intro e w3 b9;obtain⟨A3,n3,c3,rfl,hR3,hF3,hB3⟩:=b9.add2;have j4:n3<=h+1:=hR3.bound (q5S f9.o g1.o))
   | ((first|go_at_call 259|go_at_call 189);(with_reducible refine(trim _ _ _ _ _ (i.o.below hB3 rfl)).mono ?_);rintro e f ⟨md,rfl,rfl,U⟩;have g9:md<=h:=U.trim_le (q0C LB.o _) (by rw[k0v];omega))
   | ((first|go_at_call 264|go_at_call 184);(with_reducible refine(addWords _ _ _ _ _ _ _ _ _ U (r.o.below hB3 rfl) (by omega) (by omega)).mono ?_);intro e w4 c0;obtain⟨A4,n4,c4,rfl,hR4,hF4,hB4⟩:=c0.add2;have j5:n4<=h+1:=hR4.bound (q5S g0.o g2.o))
   | ((first|go_at_call 182|go_at_call 185);(with_reducible refine(D.o _ _ _ _ _ _ _ _ _ (by omega) (hR3.below hB4 rfl) hR4).mono ?_);intro e w5 c8;obtain⟨A5,n5,c5,rfl,hR5,hF5,hB5⟩:=c8.val2))
  have V:=vv ((((s.o.drew.below hB3 s.o.lt).below hB4 (k03 s.o.lt hB3.size)).below hB5 (k03 (k03 s.o.lt hB3.size) hB4.size)));have c9:=vv ((((q05 t.o).trans (hB3.mono t.o.size)).trans (hB4.mono (k07 t.o.size hB3.size))).trans (hB5.mono (k07 (k07 t.o.size hB3.size) hB4.size)));have y:=vv (((b7.o.drew.below hB3 rfl).below hB4 rfl).below hB5 rfl);have d0:=vv (((b8.o.drew.below hB3 rfl).below hB4 rfl).below hB5 rfl);have W:=vv hR5;clear g i q r T hR3 hF3 hB3 U hR4 hF4 hB4 hR5 hF5 hB5 Q R s t b7 b8 HA HB HO b0 a1 D;clear b3 b9 c0 c8;have K1:=vv (q6c (val (xs.take h)) (val (xs.drop h)) (val (ys.take h)) (val (ys.drop h)));have K2:=vv (q6b (val (xs.take h)) (val (xs.drop h)) (val (ys.take h)) (val (ys.drop h)));have E:Hid (val (xs.take h)*val (ys.take h)+4294967296^h*((val (xs.take h)+val (xs.drop h))*(val (ys.take h)+val (ys.drop h))-val (xs.take h)*val (ys.take h)-val (xs.drop h)*val (ys.drop h))+4294967296^(2*h)*(val (xs.drop h)*val (ys.drop h))=val xs*val ys):=vv (by have e:=qe2 (val (xs.take h)) (val (xs.drop h)) (val (ys.take h)) (val (ys.drop h)) (4294967296^h);rw[<- q0G xs h (by rw[b1.o];omega),<- q0G ys h (by rw[b2.o];omega),<- k0e,<- Nat.two_mul] at e;exact e);have K4:Hid (val xs*val ys<4294967296^(n+m+1)):=vv (by have e:=q4i LA.o LB.o;rw[b1.o,b2.o] at e;have:4294967296^(n+m)<=4294967296^(n+m+1):=k00 (by omega) (by omega);omega);generalize hL:val (xs.take h)*val (ys.take h)=L at *
  generalize hH:val (xs.drop h)*val (ys.drop h)=H at *
  generalize hM:(val (xs.take h)+val (xs.drop h))*(val (ys.take h)+val (ys.drop h))=M at *
  clear hL hH hM;have d1:=vv V.o.lt;go_wp2_with fail;refine(subWords _ _ _ _ _ _ _ _ _ W.o y.o (by rw[q04,q04];exact K1.o) (y.o.le_of W.o K1.o)).mono ?_;intro e w6 d2;obtain⟨A6,n6,c6,rfl,d3,g4,l⟩:=d2.sub2;have z:=vv (d0.o.below l rfl);have d4:=vv (y.o.below l rfl);have d5:=vv (V.o.below l d1.o);have d6:=vn c9 l;have X:=vv d3;have S6:=vv (k07 d1.o l.size);clear d2 d3 g4 l d0 y V c9 W;go_wp2_with fail;refine(subWords _ _ _ _ _ _ _ _ _ X.o z.o (by rw[q04,q04];exact K2.o) (z.o.le_of X.o K2.o)).mono ?_;intro e w7 d7;obtain⟨A7,n7,c7,rfl,d8,d9,u⟩:=d7.sub2;have e0:=vv (z.o.below u rfl);have e1:=vv (d4.o.below u rfl);have e2:=vv (d5.o.below u S6.o);have Y:=vn d6 u;have e3:=vv d8;have e4:=vv (d9.mono (B:=w.heap.size+1) S6.o);clear d7 d8 d9 u z d4 d5 d6 X;have e5:∀(A:Option qd),Fr (w.heap.size+1) A->∀a,A=some a->a.block≠w.heap.size:=fun _ hf a e=>by have:=hf a e;omega
  have p:=vv e5;clear e5;go_wp2_with fail;refine(addAt w.heap.size (n+m+1) (n+m+1) (List.replicate (n+m+1) 0) A1 n1 c1 0 L 0 rfl w7 e2.o (by simp) (by omega) e1.o (p.o _ g3.o) (by omega) (by rw[q0d,k0B];have:=E.o;have:=K4.o;omega)).mono ?_;rintro e w8 ⟨rfl,⟨V8,e6,e7,Z⟩,C⟩;rw[q0d,k0B,k10,k0S] at Z;have e8:=vv e6;have e9:=vv e7;have f0:=vv Z;have f1:=vv (e3.o.only C (p.o _ e4.o));have f2:=vv (e0.o.only C (p.o _ S.o));have a5:=vv (q0a Y.o C Y.o.size lr);clear e6 e7 Z C e2 e1 e3 e0 Y;go_wp2_with fail;refine(addAt w.heap.size (n+m+1) (n+m+1) V8 A7 n7 c7 h (M-L-H) _ rfl w8 e8.o e9.o (by omega) f1.o (p.o _ e4.o) (by omega) (by rw[f0.o];have:=E.o;have:=K4.o;omega)).mono ?_;rintro e w9 ⟨rfl,⟨V9,f3,f4,a6⟩,a7⟩;rw[f0.o] at a6;have g5:=vv f3;have g6:=vv f4;have f5:=vv a6;have g7:=vv (f2.o.only a7 (p.o _ S.o));have f6:=vv (q0a a5.o a7 a5.o.size lr);clear f3 f4 a6 a7 e8 e9 f1 f2 a5;go_wp2_with fail;refine(addAt w.heap.size (n+m+1) (n+m+1) V9 A2 n2 c2 (2*h) H _ (by omega) w9 g5.o g6.o (by omega) g7.o (p.o _ S.o) (by omega) (by rw[f5.o,E.o];exact K4.o)).mono ?_;rintro e j6 ⟨rfl,⟨j7,a2,a3,a0⟩,a4⟩;rw[f5.o,E.o] at a0;have a8:=vv (q0a f6.o a4 f6.o.size lr);have a9:=vv a0;have hR:=vv (a2.rd (n:=n+m+1) (c:=n+m+1) a3.symm lr (by omega));clear a2 a3 a0 a4;go_wp2_with fail;refine(trim _ _ _ _ _ hR.o).mono ?_;rintro e f ⟨m',rfl,rfl,f7⟩;go_wp2;go_ret;refine⟨_,m',n+m+1,rfl,?_,Fr.at_ lr,a8.o⟩;rw[a9.o] at f7;exact f7
theorem mulWords_upto(s:Nat)(hq:fq=182\/fq=185:=by decide):∀(A B:Option qd) (n m c d:Nat) (xs ys:List Nat) (w:qc),n+m<=s->n+m<35184372088832->Rd w A n c xs->Rd w B m d ys ->qe qa fq #[.slice A n c,.slice B m d] w (q0g (val xs*val ys) w):=by
 induction s with
 | zero =>intro A B n m c d xs ys w h i a b;exact mul_short (hq:=hq) A B n m c d xs ys w a b i (by omega) (by omega)
 | succ s ih =>
  intro A B n m c d xs ys w h i a b;have j:∀(A B:Option qd) (n' m' c d:Nat) (xs ys:List Nat) (w:qc),n'+m'<n+m->Rd w A n' c xs->Rd w B m' d ys->qe qa fq #[.slice A n' c,.slice B m' d] w (q0g (val xs*val ys) w):=fun A B n' m' c d xs ys w hl a b=>ih A B n' m' c d xs ys w (by omega) (by omega) a b
  rcases k0A n m with g|g
  ·rw[k0g];rcases k0A n 40 with e|e
   ·exact mul_short_sw (hq:=hq) B A m n d c ys xs w b a (by omega) e g
   ·have k:∀(A B:Option qd) (n' m' c d:Nat) (xs ys:List Nat) (w:qc),n'+m'<m+n->Rd w A n' c xs->Rd w B m' d ys->qe qa fq #[.slice A n' c,.slice B m' d] w (q0g (val xs*val ys) w):=fun A B n' m' c d xs ys w hl=>j A B n' m' c d xs ys w (by omega)
    rcases k0A m (2*n) with f|f
    ·exact mul_half_sw (hq:=hq) B A m n d c ys xs w k b a (by omega) e f g
    ·exact mul_long_sw (hq:=hq) B A m n d c ys xs w k b a (by omega) e f
  ·rcases k0A m 40 with e|e
   ·exact mul_short (hq:=hq) A B n m c d xs ys w a b i e g
   ·rcases k0A n (2*m) with f|f
    ·exact mul_half (hq:=hq) A B n m c d xs ys w j a b i e f g
    ·exact mul_long (hq:=hq) A B n m c d xs ys w j a b i e f
theorem mulWords(A B:Option qd)(n m c d:Nat)(xs ys:List Nat)(w:qc)(ha:Rd w A n c xs)(hb:Rd w B m d ys)(hs:n+m<35184372088832)(hq:fq=182\/fq=185:=by decide):qe qa fq #[.slice A n c,.slice B m d] w (q0g (val xs*val ys) w):=mulWords_upto (hq:=hq) (n+m) A B n m c d xs ys w lr hs ha hb
end AB
namespace B
open AB
open Go Go.RowKit
def mul_long:=@AB.mul_long 185
def mul_short:=@AB.mul_short 185
def mul_half:=@AB.mul_half 185
end B
namespace B
open AB
open Go Go.RowKit
def mul_long_sw:=@AB.mul_long_sw 185
def mul_short_sw:=@AB.mul_short_sw 185
def mul_half_sw:=@AB.mul_half_sw 185
def mulWords_upto:=@AB.mulWords_upto 185
def mulWords:=@AB.mulWords 185
end B
namespace A
open AB
open Go Go.RowKit
def mul_long:=@AB.mul_long 182
def mul_short:=@AB.mul_short 182
def mul_half:=@AB.mul_half 182
end A
namespace A
open AB
open Go Go.RowKit
def mul_long_sw:=@AB.mul_long_sw 182
def mul_short_sw:=@AB.mul_short_sw 182
def mul_half_sw:=@AB.mul_half_sw 182
def mulWords_upto:=@AB.mulWords_upto 182
def mulWords:=@AB.mulWords 182
end A
end Go.Proofs.YtabcgemembkkcaaGreatDoor
